import Derived.Test.YtiajdbllccmokaaGreatDoorXt
import Derived.Test.YtiajdbllccmokaaGreatDoorXi
import Derived.Test.YtiajdbllccmokaaGreatDoorXu
namespace Go.Proofs.YtiajdbllccmokaaGreatDoor
open Go.ChangeShapes Go.WideShapes Go.ChangeAt Go.RowKit Go.Deep Go.Proofs.Tryz
set_option linter.unusedVariables false
set_option linter.unusedSimpArgs false
set_option maxRecDepth 100000
set_option maxHeartbeats 16000000
theorem qG {p:List Int} {i:Nat} {x:Int} (h:p[i]?=some x):p.getD i 0=x:=by rw [lP,h];rfl
theorem yp {p:List Int}:perm p=true ↔ (1<=p.length/\p.length<=4)/\(∀x∈p,0<=x/\x<(p.length:Int))/\p.Nodup:=by
 have hG:tj p p.length=true ↔ (∀x∈p,0<=x/\x<(p.length:Int))/\p.Nodup:=by
  unfold tj;rw [lO];constructor
  ·intro h;have h':∀(i:Nat) (hi:i<p.length),(0<=p[i]/\p[i]<(p.length:Int))/\p[i] ∉ p.take i:=fun i hi=>by
    have:=h i (sU hi);rw [qG (lB hi)] at this;unfold okP fC at this;simp only [lF,lu,Iw,BQ,decide_eq_false_iff_not] at this
    exact ⟨⟨this.1.1,oM this.1.2⟩,this.2⟩
   refine ⟨fun x hx=>?_,?_⟩
   ·obtain ⟨i,hi,rfl⟩:=Nl hx
    exact (h' i hi).1
   ·refine List.pairwise_iff_getElem.2 fun i j hi hj hij=>?_
    intro e;refine (h' j hj).2 ?_;rw [<-e];rw [Ui]
    exact ⟨i,by rw [zK hij,lB hi]⟩
  ·rintro ⟨h1,h2⟩ i hi;simp at hi;rw [qG (lB hi)];unfold okP fC;have h3:=h1 p[i] (BU hi);have h4:p[i] ∉ p.take i:=fun hm=>by
    obtain ⟨j,hj,he⟩:=Nl hm;rw [lT] at hj;rw [List.getElem_take] at he
    exact List.pairwise_iff_getElem.1 h2 j i aa hi aa he
   simp only [lF,lu,Iw,BQ,decide_eq_false_iff_not]
   exact ⟨⟨h3.1,aa⟩,h4⟩
 unfold perm;rw [lF,hG,lF,lu,lu];constructor
 ·rintro ⟨h1,h2⟩;exact ⟨h2,h1⟩
 ·rintro ⟨h1,h2⟩;exact ⟨h2,h1⟩
theorem abp {a b x y:Int} (h:FV a b x=FV a b y):x=y:=by
 unfold FV at h;simp only [dc] at h;split at h<;>split at h<;>(try split at h)<;>(try split at h)<;>omega
theorem afl {a b x:Int} {n:Int} (ha:0<=a/\a<n) (hb:0<=b/\b<n) (hx:0<=x/\x<n):0<=FV a b x/\FV a b x<n:=by
 unfold FV;split
 ·exact hb
 ·split
  ·exact ha
  ·exact hx
theorem abq {p:List Int} {a b:Int} (h:perm p=true) (ha:0<=a/\a<(p.length:Int)) (hb:0<=b/\b<(p.length:Int)):perm (p.map (FV a b))=true:=by
 obtain ⟨h1,h2,h3⟩:=yp.1 h;refine yp.2 ⟨by rw [jk];exact h1,fun x hx=>?_,?_⟩
 ·rw [jk];obtain ⟨y,hy,rfl⟩:=zM.1 hx
  exact afl ha hb (h2 y hy)
 ·refine List.pairwise_map.2 (h3.imp fun hne e=>hne (abp e))
def loc (p:List Int) (i:Int):Int:=p.getD i.toNat 0
def wH (x:Gr) (a b:Int):Nat->List Int->List Gt ×List Int
 |0,now=>([],now)
 |f+1,now=>if 1<gd x (loc now a) (loc now b) then
   let s:=(jz x (loc now a) (loc now b)).getD 0 0
   let t:=(jz x (loc now a) (loc now b)).getD 1 0
   let r:=wH x a b f (nu now s t)
   (⟨11,s,t,0⟩::r.1,r.2)
  else ([],now)
def ox (x:Gr) (g:Gt) (p:List Int):List Gt ×List Int:=
 if may g x p=true then
  if (ar g.k==1)=true then ([g1 g.k (loc p g.a)],p)
  else ((wH x g.a g.b 4 p).1++[fL (loc (wH x g.a g.b 4 p).2 g.a) (loc (wH x g.a g.b 4 p).2 g.b)],(wH x g.a g.b 4 p).2)
 else ([],p)
theorem Ek {x:Gr} {g:Gt} {p:List Int} (h:may g x p=false):ox x g p=([],p):=by unfold ox;rw [aK aW]
theorem yq {x:Gr} {g:Gt} {p:List Int} (h:may g x p=true) (h1:(ar g.k==1)=true):ox x g p=([g1 g.k (loc p g.a)],p):=by unfold ox;rw [aX h,aX h1]
theorem yr {x:Gr} {g:Gt} {p:List Int} (h:may g x p=true) (h1:(ar g.k==1)=false):ox x g p=((wH x g.a g.b 4 p).1++[fL (loc (wH x g.a g.b 4 p).2 g.a) (loc (wH x g.a g.b 4 p).2 g.b)],(wH x g.a g.b 4 p).2):=by unfold ox;rw [aX h,aK dU]
theorem LY {x:Gr} {a b:Int} {now:List Int} (f:Nat) (h:¬1<gd x (loc now a) (loc now b)):wH x a b f now=([],now):=by
 cases f
 ·rfl
 ·rw [wH,aK h]
theorem JF (x:Gr) (a b:Int):∀f now,(wH x a b f now).1.length<=f
 |0,_=>by simp [wH]
 |f+1,now=>by
  rw [wH];split
  ·have:=JF x a b f;simp
   exact this _
  ·simp
theorem SF (x:Gr) (g:Gt) (p:List Int):(ox x g p).1.length<=5:=by
 have:=JF x g.a g.b 4 p;unfold ox;split
 ·split
  ·simp
  ·simp;omega
 ·simp
structure pQ (x:Gr) (a b:Nat) (now:List Int):Prop where
 perm:perm now=true
 len:(now.length:Int)=x.n
 ha:a<now.length
 hb:b<now.length
theorem pQ.at_ {x:Gr} {a b i:Nat} {now:List Int} (h:pQ x a b now) (hi:i<now.length):∃y,now[i]?=some y/\loc now (i:Int)=y/\0<=y/\y<x.n:=by
 have hp:=(yp.1 h.perm).2.1 now[i] (BU hi);have hl:=h.len;refine ⟨now[i],lB hi,?_,hp.1,aa⟩;unfold loc
 exact qG ag
theorem SH {x:Gr} {a b:Int} {d:Nat} (h:gd x a b=((d+1:Nat):Int)):∃k:Nat,ud x b a d=some k/\jz x a b=a::(k:Int)::TS x b d (k:Int)/\gd x (k:Int) b=(d:Int)/\(k:Int)<x.n:=by
 obtain ⟨k,hk⟩:=LQ h;obtain ⟨h1,h2,h3,_⟩:=LR hk
 exact ⟨k,hk,by rw [Hj h,LS hk],h3,h1⟩
theorem ass {x:Gr} {a b:Int} (h:0<=gd x a b):(0<=a/\a<x.n)/\(0<=b/\b<x.n):=by
 obtain ⟨n,i,j,hn,h1,h4,hi',hj',hi,hj,_⟩:=WN h;omega
theorem QI {x:Gr} {a b:Int} (ha:0<=a/\a<x.n) (h4:x.n<=4) (e:a=b):gd x a b=0:=by
 subst e;obtain ⟨n,hn⟩:=lD (aa:0<=x.n);rw [Jj hn aa aa ha.1 aa ha.1 aa]
 exact eN.On aa rfl
theorem pQ.step {x:Gr} {a b:Nat} {now:List Int} (h:pQ x a b now) (hg:1<gd x (loc now (a:Int)) (loc now (b:Int))):
  ∃(s t:Int) (rest:List Int),jz x (loc now (a:Int)) (loc now (b:Int))=s::t::rest/\pQ x a b (nu now s t)/\gd x (loc (nu now s t) (a:Int)) (loc (nu now s t) (b:Int))=gd x (loc now (a:Int)) (loc now (b:Int)) - 1/\(0<=s/\s<x.n)/\(0<=t/\t<x.n)/\
   ∀f,wH x a b (f+1) now=(⟨11,s,t,0⟩::(wH x a b f (nu now s t)).1,(wH x a b f (nu now s t)).2):=by
 obtain ⟨y,hy,ly,y0,y1⟩:=h.at_ h.ha;obtain ⟨z,hz,lz,z0,z1⟩:=h.at_ h.hb;have hl:=h.len;have h4:=(ua h.perm).2;obtain ⟨d,hd⟩:=lD (aa:0<=gd x (loc now (a:Int)) (loc now (b:Int)) - 1);have hd':gd x y z=((d+1:Nat):Int):=by rw [<-ly,<-lz];omega
 obtain ⟨k,_,hs,hk,jT⟩:=SH hd';have hzy:z≠y:=fun e=>by
  have:=QI ⟨y0,y1⟩ aa e.symm;rw [ly,lz] at hg;omega
 have hzk:z≠(k:Int):=fun e=>by
  have:=QI (x:=x) (a:=(k:Int)) ⟨aa,jT⟩ aa e.symm;rw [ly,lz] at hg;omega
 have FB:nu now y (k:Int)=now.map (FV y (k:Int)):=GZ h.perm;have hkr:0<=(k:Int)/\(k:Int)<x.n:=⟨aa,jT⟩;have ha':loc (nu now y (k:Int)) (a:Int)=(k:Int):=by
  unfold loc;rw [FB];refine qG ?_;rw [uG,sF,hy];simp [FV]
 have rb:loc (nu now y (k:Int)) (b:Int)=z:=by
  unfold loc;rw [FB];refine qG ?_;rw [uG,sF,hz];simp only [Nx];rw [ac1 (sU hzy) (sU hzk)]
 rw [ly,lz];refine ⟨y,k,_,hs,⟨by rw [FB];exact abq h.perm aa aa,by rw [FB,jk];exact hl,by rw [FB,jk];exact h.ha,by rw [FB,jk];exact h.hb⟩,by rw [ha',rb,hk,hd'];omega,⟨y0,y1⟩,hkr,fun f=>?_⟩;rw [wH,aX hg,ly,lz,hs];rfl
theorem pQ.of {g:Gt} {x:Gr} {p:List Int} (h:may g x p=true) (h1:(ar g.k==1)=false):∃a b:Nat,g.a=a/\g.b=b/\a≠b/\pQ x a b p:=by
 unfold may lay at h;simp only [lF] at h;obtain ⟨⟨⟨⟨hv,hp⟩,hn⟩,hb⟩,hg⟩:=h;have h9:(g.k==9)=true:=by
  unfold LU at hb;rw [h1,iC] at hb
  exact hb
 have h2:ar g.k=2:=by
  rw [dc] at h9;rw [h9];unfold ar;omega
 obtain ⟨p1,p2,p3,p4,p5,p6⟩:1<=x.n/\x.n<=4/\0<ar g.k/\IP g x.n 0 g.a=true/\IP g x.n 1 g.b=true/\IP g x.n 2 g.c=true:=by
  unfold vg at hg;simp only [lF,lu] at hg;obtain ⟨⟨⟨⟨⟨q1,q2⟩,q3⟩,q4⟩,q5⟩,q6⟩:=hg
  exact ⟨q1,q2,q3,q4,q5,q6⟩
 rw [vJ (by rw [h2];omega)] at p4 p5;simp only [lF,lu,qs,yQ,Iw,dc] at p4 p5 hn;obtain ⟨a,ha⟩:=lD p4.1.1;obtain ⟨b,rb⟩:=lD p5.1.1;refine ⟨a,b,ha,rb,fun e=>?_,hp,hn,aa,aa⟩;subst e;have:=p5.2;rw [rb,ha] at this;simp at this
theorem Xd {g:Gt} {x:Gr} {p:List Int} (h:may g x p=true):∃(a:Nat) (y:Int),g.a=a/\a<p.length/\p[a]?=some y/\loc p g.a=y/\p.length<=4/\perm p=true:=by
 unfold may lay at h;simp only [lF] at h;obtain ⟨⟨⟨⟨hv,hp⟩,hn⟩,hb⟩,hg⟩:=h;have Jh:0<ar g.k:=by
  unfold vg at hg;simp only [lF,lu] at hg
  exact hg.1.1.1.2
 have p4:IP g x.n 0 g.a=true:=by
  unfold vg at hg;simp only [lF,lu] at hg
  exact hg.1.1.2
 rw [vJ aa] at p4;simp only [lF,lu,dc] at p4 hn;obtain ⟨a,ha⟩:=lD p4.1.1;have bh:a<p.length:=aa
 refine ⟨a,p[a],ha,bh,lB bh,?_,(ua hp).2,hp⟩;unfold loc;rw [ha]
 exact qG ag
theorem QJ {x:Gr} {a b:Nat}:∀f {now:List Int},pQ x a b now->pQ x a b (wH x a b f now).2
 |0,_,h=>h
 |f+1,now,h=>by
  by_cases hg:1<gd x (loc now (a:Int)) (loc now (b:Int))
  ·obtain ⟨s,t,rest,_,h2,_,_,_,h6⟩:=h.step hg;rw [h6]
   exact QJ f h2
  ·rw [LY _ hg]
   exact h
theorem SI {x:Gr} {g:Gt} {p:List Int} (hp:perm p=true):perm (ox x g p).2=true/\(ox x g p).2.length=p.length:=by
 cases h:may g x p
 ·rw [Ek h];exact ⟨hp,rfl⟩
 ·cases h1:(ar g.k==1)
  ·obtain ⟨a,b,ha,hb,_,hw⟩:=pQ.of h h1;have h2:=QJ 4 hw;have h3:=h2.len;have h4:=hw.len;rw [yr h h1,ha,hb]
   exact ⟨h2.perm,show (wH x a b 4 p).2.length=p.length by omega⟩
  ·rw [yq h h1];exact ⟨hp,rfl⟩
theorem SJ {w:World} {B B' e e' size Xe n n':Nat} {v v':Value} {xs xs':List Value} (h:w.ownsRow B e size v n xs) (h':w.ownsRow B' e' Xe v' n' xs') (hne:e≠e') {g:Nat} (hg:v.ownBlock=some g):v'.ownBlock≠some g:=by
 intro Fu;rcases h.2 with ⟨rfl,_⟩|⟨b,cap,cur,rfl,_,hc,_⟩
 ·cases hg
 ·rcases h'.2 with ⟨rfl,_⟩|⟨b',iJ,Uv,rfl,_,xG,_⟩
  ·cases Fu
  ·injection hg with hg;injection Fu with Fu;subst hg Fu;rw [hc] at xG;injection xG with xG;injection xG with _ xG
   exact hne xG
theorem jA {w w':World} {B B' e e' size Xe n n':Nat} {v v':Value} {xs xs':List Value} (h:w.ownsRow B e size v n xs) (h':w.ownsRow B' e' Xe v' n' xs') (hne:e≠e') (hg:w.grownBy w' v'.ownBlock):w'.ownsRow B e size v n xs:=by
 refine h.kept hg ?_
 cases hv:v.ownBlock with
 |none=>exact .inl rfl
 |some k=>exact .inr fun e1=>SJ h h' hne hv e1.symm
def Hq (w:World) (r:List Gt ×List Int) (e:Ending) (w':World):Prop:=
 ∃v A len cap,e=.returned (.tuple #[v,.slice A len cap])/\len=r.2.length/\len<=cap/\w'.ownsRow w.heap.size 54 4 v r.1.length (ak r.1)/\w'.ownsRow w.heap.size 3 1 (.slice A len cap) len (aG r.2)/\Ext w w'
theorem El {P:Prop} (h:P:=by
 rcases h.2 with ⟨h0,rfl⟩|⟨g,cap,cur,hv,_,_,KG,_⟩
 ·omega
 ·injection hv with _ _ h3
  omega):P:=h
theorem JG {w:World} {B e size n c:Nat} {A:OA} {xs:List Value} (h:w.ownsRow B e size (.slice A n c) n xs):n<=c:=by
 exact El
theorem Hq.mk {w Wb w':World} {r:List Gt ×List Int} {v:Value} {A:OA} {n cap:Nat} {gs:List Gt} {q:List Int} (hr:r=(gs,q)) (hx:Ext w Wb) (hg:w'.ownsRow Wb.heap.size 54 4 v gs.length (ak gs)) (hp:w'.ownsRow Wb.heap.size 3 1 (.slice A n cap) n (aG q)) (hw:Ext Wb w') (hq:q.length=n):Hq w r (.returned (.tuple #[v,.slice A n cap])) w':=by
 subst hr
 exact ⟨v,A,n,cap,rfl,hq.symm,JG hp,aC hg hx.size,aC hp hx.size,hx.trans hw⟩
theorem Em {w:World} {B n i j:Nat} {A:OA} {xs:List Int} {y z:Int} (h:Rd w B 1 A n (aG xs)) (hi:i<n) (hj:j<n) (hy:xs[i]?=some y) (hz:xs[j]?=some z):
  ∃b o,A=some ⟨b,o,none⟩/\b<B/\w.cell? (aA b (o+i))=some (iI y)/\w.cell? (aA b (o+j))=some (iI z):=by
 obtain ⟨b,o,y',rfl,hb,FU,c1⟩:=eT h hi;obtain ⟨b',o',z',e,_,MT,c2⟩:=eT h hj;injection e with e;injection e with e1 e2;subst e1 e2;rw [hy] at FU;rw [hz] at MT;injection FU with FU;injection MT with MT;subst FU MT
 exact ⟨b,o,rfl,hb,c1,c2⟩
def ajV:Value->Nat
 | .slice _ n _=>n
 |_=>0
theorem amD:(54:Nat)≠3:=ae
theorem BF:(3:Nat)≠54:=ae
theorem wI (g:Gt) (v:Value) (x:Gr) (A:OA) (n c:Nat) (p:List Int) (w:World) (h:eR w w.heap.size v x) (hl:x.es.length<=2000000000000) (hp:Rd w w.heap.size 1 A n (aG p)) (hn:n<=2000000000000) (hc:n<=c):
  Calls prog 84 #[g.val,v,.slice A n c] w (Hq w (ox x g p)):=by
 have hlen:=hY (hp.len bO aa);obtain ⟨A1,c1,rfl,h1⟩:=h;have HG:Hid (∀w',Ext w w'->eR w' w'.heap.size (.agg #[iI x.n,.slice A1 x.es.length c1]) x):=fun w' hx=>⟨A1,c1,rfl,h1.ext hx⟩
 clear h1;have Fv:ay ((w.alloc (.cells #[iI g.k,iI g.a,iI g.b,iI g.c] 54)).alloc (.cells #[iI x.n,.slice A1 x.es.length c1] 42)) w.heap.size 54 #[iI g.k,iI g.a,iI g.b,iI g.c]:=(ay.new _ _ _).alloc _;have eY:ay ((w.alloc (.cells #[iI g.k,iI g.a,iI g.b,iI g.c] 54)).alloc (.cells #[iI x.n,.slice A1 x.es.length c1] 42)) (w.heap.size+1) 42 #[iI x.n,.slice A1 x.es.length c1]:=ay.newAt ag;have dC:Ext w ((w.alloc (.cells #[iI g.k,iI g.a,iI g.b,iI g.c] 54)).alloc (.cells #[iI x.n,.slice A1 x.es.length c1] 42)):=aD
 have BA:=hY Fv;have eG:=hY eY;have ke:=hY dC;clear eY dC Fv;go_enter func84,ntmps84;go_upto_region 1 with fail;have Fv:=BA.u;have eY:=eG.u;have dC:=ke.u;clear eG ke BA;generalize ((w.alloc (.cells #[iI g.k,iI g.a,iI g.b,iI g.c] 54)).alloc (.cells #[iI x.n,.slice A1 x.es.length c1] 42))=Wb at*
 have hE:Ext Wb Wb:=xZ _;go_upto_region 2 with fail;have hoG:(Wb.alloc (.cells #[] 54)).ownsRow Wb.heap.size 54 4 (.slice (some ⟨Wb.heap.size,0,none⟩) 0 0) 0 (ak []):=bL (xZ _) _ _ 4 0 #[] _ rfl rfl rfl aa;have hxG:Ext Wb (Wb.alloc (.cells #[] 54)):=(xZ _).alloc _;generalize (Wb.alloc (.cells #[] 54))=Wg at*
 go_upto_region 3 with (at_builtin;refine my (w0:=Wg) rfl _ _ rfl _ 0 [] rfl (bL aD _ _ 1 0 #[] _ ag rfl rfl aa) aD A n c p rfl ((hp.ext (dC.trans hxG)).ext aD) aa ?_;intro v1 w1 eF aS vH mS)
 have ajW:=aq hoG aS;replace eF:=aC eF hxG.size;replace aS:=hxG.trans aS;simp only [lM,lN] at eF;clear vH mS hE;have BG:=dC.trans aS;have Na:=Fv.ext aS;have qp:=eY.ext aS;have b0:=Na.ck 0;have b1:=Na.ck 1;have b2:=Na.ck 2;have b3:=Na.ck 3;have d0:=qp.ck 0;have d1:=qp.ck 1;obtain ⟨Al,cl,rfl,_⟩:=au eF;go_wp2_with fail;refine (jY g _ x A n c p _ (HG.u _ BG) hl (hp.ext BG) hn hc).mono ?_;rintro e w2 ⟨rfl,bH⟩;have ep:=aq eF bH;have SK:=aq ajW bH;replace aS:=aS.trans bH;replace Na:=Na.ext bH;replace qp:=qp.ext bH;clear b0 b1 b2 b3 d0 d1 eF BG bH hoG hxG ajW
 cases hm:may g x p
 ·have HR:=hY (Ek hm);clear hm;go_wp2;go_ret2
  exact Hq.mk HR.u dC SK ep aS hlen.u
 have b0:=Na.ck 0;have b1:=Na.ck 1;have b2:=Na.ck 2;have b3:=Na.ck 3;have d0:=qp.ck 0;have d1:=qp.ck 1
 cases h1:(ar g.k==1)
 case true=>
  have HR:=hY (yq hm h1);obtain ⟨ia,y,Xf,hia,hy,rr,hp4,_⟩:=Xd hm;have DU:=hY rr;have HY:=hY hy;have MX:=hlen.u;have SL:ia<n:=aa
  have h9:(g.k !=9)=true:=by cases hq:(g.k==9) with|false=>simp [bne,hq]|true=>(rw [dc] at hq;rw [hq] at h1;cases h1)
  obtain ⟨bl,ol,y',rfl,FO,FU,q0⟩:=eT hp SL;have PW:y'=y:=by rw [HY.u] at FU;injection FU with FU;exact FU.symm
  subst PW;rw [Xf] at b1;have HQ:Hid (∀w',Ext Wb w'->w'.cell? (aA w.z 0)=some (iI g.k)/\w'.cell? (aA w.z 1)=some (iI (ia:Int))/\w'.cell? (aA bl (ol+ia))=some (iI y')):=fun w' z=>⟨(Fv.ext z).cell 0,by rw [<-Xf];exact (Fv.ext z).cell 1,((dC.trans z).cell (p:=(aA bl (ol+ia))) FO).trans q0⟩
  have q0':w2.cell? (aA bl (ol+ia))=some (iI y'):=(HQ.u _ aS).2.2;have NB:(0:Int)<=(ia:Int):=aa
  have zh:(ia:Int)<(n:Int):=aa
  have aoY:=hY rr;clear rr hy FU MX Xf hm HY;go_wp2;have eX:=xZ w2
  first|go_region_held3 (fun w'=>w'.cell? (aA w.z 0)=some (iI g.k)/\w'.cell? (aA w.z 1)=some (iI (ia:Int))/\w'.cell? (aA bl (ol+ia))=some (iI y'))
   (first|go_keep|(refine HQ.u _ ?_;assumption)|(refine HQ.u _ (aS.trans ?_);exact xx;done))
   (first
    |(go_at_call 58;(with_reducible refine (aM (w0:=w2) _ _ _ aD).mono ?_);clear eX;rintro e w' ⟨rfl,eX⟩)
    |(refine CM (B:=Wb.heap.size) ah _ _ ah _ 0 [] ah (aq SK eX) (lK aS.size eX.size) (g1 g.k y') _ _ ah ah aa ?_;intro A4 c4 w4 rk Bm hb4;have hz4:Ext Wb w4:=(aS.trans eX).grown Bm (fun k hk=>((aq SK eX).lt k hk).1)))|fail
  all_goals
   go_wp2;go_ret2
   exact Hq.mk (HR.u.trans (by rw [aoY.u])) dC (gs:=[g1 g.k y']) rk (jA (aq ep eX) (aq SK eX) BF Bm) hz4 hlen.u
 obtain ⟨ia,ib,Xf,hgb,_,Kw⟩:=pQ.of hm h1;have HR:=hY (yr hm h1);have h9:(g.k !=9)=false:=by (have hb:LU g=true:=by {unfold may at hm;simp only [lF] at hm;exact hm.1.2});unfold LU at hb;rw [h1,iC] at hb;simp [bne,hb]
 rw [Xf,hgb] at HR;obtain ⟨T,hT⟩:=ey (wH x ia ib 4 p);rw [<-hT] at HR;have HT0:Hid (([]:List Gt)++(wH x ia ib 4 p).1=T.1/\(wH x ia ib 4 p).2=T.2):=by rw [hT];exact ⟨rfl,rfl⟩
 have MX:=hlen.u;have hxn:x.n=(n:Int):=oM Kw.len
 have xT:n<=4:=oM ((ua Kw.perm).2)
 have SL:ia<n:=oM Kw.ha
 have ajX:ib<n:=oM Kw.hb
 have ID:=pL x (loc p ia) (loc p ib);have HXN:=hY hxn;have HQ:Hid (∀w',Ext Wb w'->w'.cell? (aA w.z 1)=some (iI (ia:Int))/\w'.cell? (aA w.z 2)=some (iI (ib:Int))/\w'.cell? (aA (w.z+1) 0)=some (iI x.n)/\w'.cell? (aA (w.z+1) 1)=some (.slice A1 x.es.length c1)):=fun w' z=>⟨by rw [<-Xf];exact (Fv.ext z).cell 1,by rw [<-hgb];exact (Fv.ext z).cell 2,(eY.ext z).cell 0,(eY.ext z).cell 1⟩
 have NB:(0:Int)<=(ia:Int):=aa
 have zh:(ia:Int)<(n:Int):=aa
 have FY:(0:Int)<=(ib:Int):=aa
 have Qa:(ib:Int)<(n:Int):=aa
 have aoZ:(1:Int)<2:=aa
 clear hT MX hxn hm Xf hgb Na qp aoZ;have rP:=hY ep;have HOG:=hY SK;have dk:=hY aS;clear ep SK aS;go_wp2;clear b0 b1 b2 b3 d0 d1
 go_loopw [8,9] (fun vo vl wr=>∃(f:Nat) (now:List Int) (out:List Gt) (A:OA) (c:Nat) (Ao:OA) (m co:Nat),vl=.slice A n c/\vo=.slice Ao m co/\m+f=4/\Hid (out.length=m)/\pQ x ia ib now/\gd x (loc now ia) (loc now ib)<=f/\Hid (out++(wH x ia ib f now).1=T.1/\(wH x ia ib f now).2=T.2)/\wr.ownsRow Wb.heap.size 54 4 (.slice Ao m co) m (ak out)/\wr.ownsRow Wb.heap.size 3 1 (.slice A n c) n (aG now)/\Ext Wb wr) (fun vo vl _=>5 - ajV vo)
 case atStart=>exact ⟨4,p,[],Al,cl,_,0,_,rfl,rfl,rfl,rfl,Kw,ID.2,HT0,HOG.u,rP.u,dk.u⟩
 case round=>
  clear rP HOG dk HT0 ID Kw;obtain ⟨f,now,out,Al,cl,Ao,m,co,rfl,rfl,hmf,HM,hW,hgf,HT,ho,Gb,hx⟩:=hrel;obtain ⟨y,hy,ly,y0,y1⟩:=hW.at_ hW.ha;obtain ⟨z,hz,lz,z0,z1⟩:=hW.at_ hW.hb;have vA:now.length=n:=oN hW.len HXN.u
  have HNL:=hY vA;obtain ⟨bl,ol,rfl,FO,cy,cz⟩:=Em (Rd.own Gb) SL ajX hy hz;have HK:Hid (∀w',Ext wr w'->w'.cell? (aA w.z 1)=some (iI (ia:Int))/\w'.cell? (aA w.z 2)=some (iI (ib:Int))/\w'.cell? (aA (w.z+1) 0)=some (iI x.n)/\w'.cell? (aA (w.z+1) 1)=some (.slice A1 x.es.length c1)/\w'.cell? (aA bl (ol+ia))=some (iI y)/\w'.cell? (aA bl (ol+ib))=some (iI z)):=fun w' q=>⟨(HQ.u _ (hx.trans q)).1,(HQ.u _ (hx.trans q)).2.1,(HQ.u _ (hx.trans q)).2.2.1,(HQ.u _ (hx.trans q)).2.2.2,(q.cell (p:=(aA bl (ol+ia))) FO).trans cy,(q.cell (p:=(aA bl (ol+ib))) FO).trans cz⟩
  have HK4:Hid (∀w',Ext Wb w'->w'.ownsRow Wb.heap.size 3 1 (.slice (some ⟨bl,ol,none⟩) n cl) n (aG now)->w'.cell? (aA w.z 1)=some (iI (ia:Int))/\w'.cell? (aA w.z 2)=some (iI (ib:Int))/\w'.cell? (aA (w.z+1) 0)=some (iI x.n)/\w'.cell? (aA (w.z+1) 1)=some (.slice A1 x.es.length c1)/\w'.cell? (aA bl (ol+ia))=some (iI y)/\w'.cell? (aA bl (ol+ib))=some (iI z)):=fun w' q r=>by
   obtain ⟨b',o',e',_,Si,c2'⟩:=Em (Rd.own r) SL ajX hy hz;injection e' with e';injection e' with e1 e2;subst e1 e2
   exact ⟨(HQ.u _ q).1,(HQ.u _ q).2.1,(HQ.u _ q).2.2.1,(HQ.u _ q).2.2.2,Si,c2'⟩
  have Fu:gd x (loc now ia) (loc now ib)=gd x y z:=by rw [ly,lz]
  rw [Fu] at hgf;obtain ⟨G,hG⟩:=ey (gd x y z);have RU:=hY hG;rw [<-hG] at hgf;have HY:=hY hy;have HZ:=hY hz;have HLY:=hY ly;have HLZ:=hY lz;have Zs:=hY Fu;have HW:=hY hW;clear hG hy hz ly lz Fu vA cy cz hW;obtain ⟨b1,b2,d0,d1,cy,cz⟩:=HK.u wr (xZ wr)
  by_cases hg:1<G
  ·obtain ⟨f,rfl⟩:∃f',f=f'+1:=⟨f - 1,aa⟩;obtain ⟨s,t,rest,OH,Jy,hs3,_,_,ou⟩:=HW.u.step (by rw [Zs.u,<-RU.u];exact hg);rw [HLY.u,HLZ.u] at OH;rw [Zs.u,<-RU.u] at hs3;have hl6:(nu now s t).length=n:=oN Jy.len HXN.u
   have zw:=hY OH;have rA:=hY Jy;have zx:=hY hs3;have sx:=hY ou;have OK:=hY hl6;clear OH Jy hs3 ou hl6;go_wp2
   first|go_region_held3 (fun w'=>w'.cell? (aA w.z 1)=some (iI (ia:Int))/\w'.cell? (aA w.z 2)=some (iI (ib:Int))/\w'.cell? (aA (w.z+1) 0)=some (iI x.n)/\w'.cell? (aA (w.z+1) 1)=some (.slice A1 x.es.length c1)/\w'.cell? (aA bl (ol+ia))=some (iI y)/\w'.cell? (aA bl (ol+ib))=some (iI z))
    (first|(refine HK.u _ ?_;assumption)|exact HK.u _ (xZ wr).drew|go_keep)
    (first|(go_at_call 77;refine (bM _ x y z _ (HG.u _ (dC.trans hx.drew)) hl).mono ?_;rintro e w3 ⟨rfl,kl⟩;replace kl:Ext wr w3:=Ext.trans (xZ wr).drew kl;rw [<-RU.u]))|fail
   clear b1 b2 d0 d1 cy cz;obtain ⟨b1,b2,d0,d1,cy,cz⟩:=HK.u w3 kl;have bT:=hx.trans kl;go_wp2
   first|go_region_held3 (fun w'=>w'.cell? (aA w.z 1)=some (iI (ia:Int))/\w'.cell? (aA w.z 2)=some (iI (ib:Int))/\w'.cell? (aA (w.z+1) 0)=some (iI x.n)/\w'.cell? (aA (w.z+1) 1)=some (.slice A1 x.es.length c1)/\w'.cell? (aA bl (ol+ia))=some (iI y)/\w'.cell? (aA bl (ol+ib))=some (iI z))
    (first|(refine HK.u _ (kl.trans ?_);assumption)|exact HK.u _ kl.drew|go_keep)
    (first|(go_at_call 98;refine (ko _ x y z _ (HG.u _ (dC.trans bT.drew)) hl).mono ?_;rintro e w4 ⟨Aw,lw,cw,rfl,Xg,Xh,CN⟩;have HLW:=hY Xg;have how:=hY Xh;clear Xg Xh;replace CN:Ext w3 w4:=Ext.trans (xZ w3).drew CN))|fail
   clear b1 b2 d0 d1 cy cz;have Ss:=HLW.u;replace how:=how.u;rw [zw.u] at Ss how;have av2:2<=lw:=by rw [Ss];simp
   clear Ss HLW;have fe:=bT.trans CN;have adb:=aq Gb (kl.trans CN);have rk:=aq ho (kl.trans CN);obtain ⟨bw,ow,rfl,_,k0,k1⟩:=Em (Rd.own how) (show 0<lw by omega) (show 1<lw by omega) (y:=s) (z:=t) rfl rfl;obtain ⟨Bw,hBw⟩:=ey (w3.drew.heap.size);rw [<-hBw] at how;have HKW:Hid (∀w':World,w'.ownsRow Bw 3 1 (.slice (some ⟨bw,ow,none⟩) lw cw) lw (aG (s::t::rest))->w'.cell? (aA bw ow)=some (iI s)/\w'.cell? (aA bw (ow+1))=some (iI t)):=fun w' r=>by
    obtain ⟨b',o',e',_,Si,c2'⟩:=Em (Rd.own r) (show 0<lw by omega) (show 1<lw by omega) (y:=s) (z:=t) rfl rfl;injection e' with e';injection e' with e1 e2;subst e1 e2
    exact ⟨Si,c2'⟩
   have av3:(0:Int)<(lw:Int):=aa
   have asA:0<lw:=aa
   have asB:1<lw:=aa
   have av4:(1:Int)<(lw:Int):=aa
   have HOW:=hY how;have nB:=hY rk;have ajY:=hY adb;have Sz:=(xZ w4).drew;clear how rk adb hBw k0 k1 ho Gb;obtain ⟨k0,k1⟩:=HKW.u w4 HOW.u;go_wp2
   first|go_region_held3 (fun w'=>w'.cell? (aA bw ow)=some (iI s)/\w'.cell? (aA bw (ow+1))=some (iI t))
    (first|(refine HKW.u _ ?_;assumption)|exact HKW.u _ (aq HOW.u Sz)|go_keep|(refine HKW.u _ (aq HOW.u ?_);exact xx;done))
    (first|(refine CM (B:=Wb.heap.size) ah _ _ ah _ m out ah (aq nB.u Sz) (lK fe.size Sz.size) ⟨11,s,t,0⟩ _ _ ah ah aa ?_;intro A5 c5 w5 jM xV Qh;have hw5:=jA (aq HOW.u Sz) (aq nB.u Sz) BF xV))|fail
   have cN:Ext Wb w5:=(fe.trans Sz).grown xV (fun k hk=>((aq nB.u Sz).lt k hk).1);have TN:=jA (aq ajY.u Sz) (aq nB.u Sz) BF xV;clear k0 k1;obtain ⟨k0,k1⟩:=HKW.u w5 hw5;have iK:=hY jM;have Ko:=hY hw5;have Ma:=hY TN;have ao1:=JG TN;have hd5:=(xZ w5).drew;clear jM hw5 TN xV Qh;go_wp2
   first|go_region_held3 (fun w'=>w'.cell? (aA bw ow)=some (iI s)/\w'.cell? (aA bw (ow+1))=some (iI t))
    (first|(refine HKW.u _ (aq Ko.u ?_);assumption)|exact HKW.u _ (aq Ko.u hd5)|go_keep|(refine HKW.u _ (aq Ko.u ?_);exact xx;done))
    (first|(go_at_call 99;refine (ur _ n cl now s t _ (Rd.own (aq Ma.u hd5)) aa ao1).mono ?_;rintro e w6 ⟨v6,rfl,px,ig⟩;replace ig:Ext w5 w6:=Ext.trans hd5 ig))|fail
   rw [OK.u] at px;obtain ⟨A6,c6,rfl,_⟩:=au px;have hb6:=lK cN.size hd5.size;have km:=hY (aC px hb6);clear px k0 k1;go_wp2;go_roundw
   case rel=>exact ⟨f,nu now s t,out++[⟨11,s,t,0⟩],A6,c6,A5,m+1,c5,rfl,rfl,aa,by unfold Hid;rw [lA,HM.u];rfl,rA.u,by rw [zx.u];omega,by have h1:=HT.u;rw [sx.u] at h1;unfold Hid;rw [uE];exact h1,aq iK.u ig,km.u,cN.trans ig⟩
   case measure=>simp [ajV];omega
  ·have aZ:=hY (LY (x:=x) (a:=ia) (b:=ib) (now:=now) f (by rw [Zs.u,<-RU.u];exact hg));go_wp2
   first|go_region_held3 (fun w'=>w'.cell? (aA w.z 1)=some (iI (ia:Int))/\w'.cell? (aA w.z 2)=some (iI (ib:Int))/\w'.cell? (aA (w.z+1) 0)=some (iI x.n)/\w'.cell? (aA (w.z+1) 1)=some (.slice A1 x.es.length c1)/\w'.cell? (aA bl (ol+ia))=some (iI y)/\w'.cell? (aA bl (ol+ib))=some (iI z))
    (first|(refine HK.u _ ?_;assumption)|exact HK.u _ (xZ wr).drew|go_keep)
    (first|(go_at_call 77;refine (bM _ x y z _ (HG.u _ (dC.trans hx.drew)) hl).mono ?_;rintro e w3 ⟨rfl,kl⟩;replace kl:Ext wr w3:=Ext.trans (xZ wr).drew kl;rw [<-RU.u]))|fail
   clear b1 b2 d0 d1 cy cz;obtain ⟨b1,b2,d0,d1,cy,cz⟩:=HK.u w3 kl;have jm:=aq ho kl;have adg:=aq Gb kl;have bT:=hx.trans kl;have sr:=hY jm;have ajZ:=hY adg;clear jm adg ho Gb;go_wp2;have eX:=xZ w3
   first|go_region_held3 (fun w'=>w'.cell? (aA w.z 1)=some (iI (ia:Int))/\w'.cell? (aA w.z 2)=some (iI (ib:Int))/\w'.cell? (aA (w.z+1) 0)=some (iI x.n)/\w'.cell? (aA (w.z+1) 1)=some (.slice A1 x.es.length c1)/\w'.cell? (aA bl (ol+ia))=some (iI y)/\w'.cell? (aA bl (ol+ib))=some (iI z))
    (first|(refine HK.u _ (kl.trans ?_);assumption)|exact HK.u _ kl.drew|(refine HK4.u _ ?_ ?_<;>assumption)|go_keep|(refine HK.u _ (kl.trans ?_);exact xx;done))
    (first
     |(go_at_call 59;(with_reducible refine (dA (w0:=w3) _ _ _ aD).mono ?_);clear eX;rintro e w' ⟨rfl,eX⟩)
     |(refine CM (B:=Wb.heap.size) ah _ _ ah _ m out ah (aq sr.u eX) (lK bT.size eX.size) (fL y z) _ _ ah ah aa ?_;intro A4 c4 w4 rk Bm hb4;have fe:Ext Wb w4:=(bT.trans eX).grown Bm (fun k hk=>((aq sr.u eX).lt k hk).1);have hl4:=jA (aq ajZ.u eX) (aq sr.u eX) BF Bm))|fail
   all_goals
    go_wp2;go_ret2
    exact Hq.mk (HR.u.trans (by have h1:=HT.u;rw [aZ.u] at h1;rw [<-h1.1,<-h1.2,HLY.u,HLZ.u,qZ])) dC (gs:=out++[fL y z]) (by rw [lA,HM.u];exact rk) hl4 fe HNL.u
theorem yt {P:Prop} (h:P:=by
 intro v' w' h1 h2 h3 h4;rw [mH] at h1;obtain ⟨A',c',rfl,_⟩:=au h1
 exact h A' c' w' h1 (yP (((xZ w).alloc _).gr _) h3) (sU h4)):P:=h
theorem Xi {w:World} {B:Nat} {ops:Array Oper} {o:Oper} {a:Act} {K:Act->World->Prop} {Q:Exit->Act->World->Prop} {E:Prop} (fx:o.guard=none) (s x:Operand)
  (ho:aO o s x 40) (v:Value) (n:Nat) (xs:List Ed) (hs:a.eval s=v)
  (bc:w.ownsRow B 95 2 v n (bD xs)) (hB:B<=w.heap.size) (y:Ed) (e:TypeId) (b:Nat) (hx:a.eval x=.slice (some ⟨b,0,none⟩) 1 1) (qc:b=w.heap.size) (hn:n<=1800000000000)
  (h:∀A' c' w',w'.ownsRow B 95 2 (.slice A' (n+1) c') (n+1) (bD (xs++[y]))->w.grownBy w' v.ownBlock->((Value.slice A' (n+1) c').ownBlock=v.ownBlock\/(Value.slice A' (n+1) c').ownBlock=some (w.heap.size+1))->K (a.put o.dst (.slice A' (n+1) c')) w'):
  if Region.wanted o (yielded ops a.tmps)=true then Oper.wp prog o a (w.alloc (cO #[iI y.a,iI y.b] e)) K Q else E:=by
 subst qc;have mH:=im hB;refine RC (w0:=CH w B) fx s x ho v n xs hs dR ((nc hB).alloc _) _ 1 1 [y] hx (eh w _ e 2 _ eB eB) aa ?_
 exact yt
theorem SM:(prog.info? 42).map (·.size)=some 2:=af
theorem Eo {fn:Func} {p:Tmp} (hf:fn.results=#[.cell p 42]) {W:World} {q:Nat} {z0 z1:Value} (hB:ay W q 42 #[z0,z1]) (a b:Value) (tmps:Array Value)
  (hp:tmps.getD p undef=.pointer (some ⟨q,0,none⟩)):(results fn tmps).run prog ((W.setCell (aA q 0) a).setCell (aA q 1) b)=.ok (.agg #[a,b]) ((W.setCell (aA q 0) a).setCell (aA q 1) b):=
 nU hf tmps _ q 42 _ (0,0) _ hp (hB.nP a b) underlying42 rfl SM
theorem Xj {w:World} {B:Nat} {ops:Array Oper} {rest:List Oper} {o:Oper} {a:Act} {Q:Exit->Act->World->Prop} (fx:o.guard=none) (s x:Operand)
  (ho:aO o s x 40) (v:Value) (n:Nat) (xs:List Ed) (hs:a.eval s=v)
  (bc:w.ownsRow B 95 2 v n (bD xs)) (hB:B<=w.heap.size) (y:Ed) (e:TypeId) (b:Nat) (hx:a.eval x=.slice (some ⟨b,0,none⟩) 1 1) (qc:b=w.heap.size) (hn:n<=1800000000000)
  (h:∀A' c' w',w'.ownsRow B 95 2 (.slice A' (n+1) c') (n+1) (bD (xs++[y]))->w.grownBy w' v.ownBlock->((Value.slice A' (n+1) c').ownBlock=v.ownBlock\/(Value.slice A' (n+1) c').ownBlock=some (w.heap.size+1))->wpList prog ops Q rest (a.put o.dst (.slice A' (n+1) c')) w'):
  wpList prog ops Q (o::rest) a (w.alloc (cO #[iI y.a,iI y.b] e)):=by
 subst qc;have mH:=im hB;refine KS (w0:=CH w B) fx s x ho v n xs hs dR ((nc hB).alloc _) _ 1 1 [y] hx (eh w _ e 2 _ eB eB) aa ?_
 exact yt
def DG (w0 w:World) (g s:Nat) (N:Int) (A:OA) (len cap:Nat) (gs:List Ed):Prop:=
 ay w w0.heap.size 42 jC/\ay w s 42 #[iI N,.slice A len cap]/\w.ownsRow (w0.heap.size+1) 95 2 (.slice A len cap) len (bD gs)/\(∀q,(Value.slice A len cap).ownBlock=some q->w0.heap.size+1<=q/\q≠s)/\dY w g/\w0.grownBy w (some g)/\∀e∈gs,e.ok
theorem DG.grown {w0 w w':World} {g s:Nat} {N:Int} {A:OA} {len cap:Nat} {gs:List Ed} (h:DG w0 w g s N A len cap gs) (hg:w.grownBy w' (some g)) (hC:dY w' g) (hs:g<s) (hl:g<w0.heap.size):DG w0 w' g s N A len cap gs:=by
 obtain ⟨h1,h2,h3,h4,h5,h6,h7⟩:=h
 exact ⟨h1.grown hg (fun k hk=>aw),h2.grown hg (fun k hk=>aw),cT h3 hg (fun k hk=>aw),h4,hC,bY h6 hg,h7⟩
theorem DG.drew {w0 w:World} {g s:Nat} {N:Int} {A:OA} {len cap:Nat} {gs:List Ed} (h:DG w0 w g s N A len cap gs):DG w0 w.drew g s N A len cap gs:=by
 obtain ⟨h1,h2,h3,h4,h5,h6,h7⟩:=h
 exact ⟨h1,h2,aq h3 (xZ w).drew,h4,h5.ext (xZ w).drew,vQ h6 (xZ w).drew,h7⟩
theorem DG.alloc {w0 w:World} {g s:Nat} {N:Int} {A:OA} {len cap:Nat} {gs:List Ed} (h:DG w0 w g s N A len cap gs) (o:Obj):DG w0 (w.alloc o) g s N A len cap gs:=by
 obtain ⟨h1,h2,h3,h4,h5,h6,h7⟩:=h
 exact ⟨h1.alloc o,h2.alloc o,aq h3 ((xZ w).alloc o),h4,h5.alloc o,gZ h6 o,h7⟩
theorem DG.aiP {w0 w:World} {g s:Nat} {N:Int} {A:OA} {len cap:Nat} {gs:List Ed} (h:DG w0 w g s N A len cap gs) (M:Int) (hs:w0.heap.size<s) (hl:g<w0.heap.size):DG w0 (w.setCell (aA s 0) (iI M)) g s M A len cap gs:=by
 obtain ⟨h1,h2,h3,h4,h5,h6,h7⟩:=h;refine ⟨h1.bX (p:=(aA s 0)) aj _,h2.ba 0 _,?_,h4,h5.ba (p:=(aA s 0)) aj _,fE h6 (p:=(aA s 0)) aj _,h7⟩;refine h3.kept (row:=some s) (cB (jN w (some s)) 0 _) ?_
 cases hv:(Value.slice A len cap).ownBlock with
 |none=>exact .inl rfl
 |some q=>exact .inr (fun e=>(h4 q hv).2 dr)
theorem DG.app {w0 w w':World} {g s:Nat} {N:Int} {A A':OA} {len cap c':Nat} {gs:List Ed} {y:Ed} (h:DG w0 w g s N A len cap gs) (hy:y.ok) (hs:w0.heap.size<s) (hl:g<w0.heap.size)
  (ho:w'.ownsRow (w0.heap.size+1) 95 2 (.slice A' (len+1) c') (len+1) (bD (gs++[y]))) (hg:w.grownBy w' (Value.slice A len cap).ownBlock)
  (hb:(Value.slice A' (len+1) c').ownBlock=(Value.slice A len cap).ownBlock\/(Value.slice A' (len+1) c').ownBlock=some (w.heap.size+1)):
  ay w' s 42 #[iI N,.slice A len cap]/\DG w0 (w'.setCell (aA s 1) (.slice A' (len+1) c')) g s N A' (len+1) c' (gs++[y]):=by
 obtain ⟨h1,h2,h3,h4,h5,h6,h7⟩:=h;have Vi:=h2.lt;have hB:=h2.grown hg (fun k hk e=>(h4 k hk).2 e.symm);have TI:∀q,(Value.slice A' (len+1) c').ownBlock=some q->w0.heap.size+1<=q/\q≠s:=by
  intro q hq;rcases hb with hb|hb
  ·rw [hb] at hq;exact h4 q hq
  ·rw [hb] at hq;injection hq with hq;have:=h1.lt;omega
 refine ⟨hB,(h1.grown hg (fun k hk e=>oM ((h4 k hk).1))).bX (p:=(aA s 1)) aj _,hB.ba 1 _,?_,TI,(h5.grown hg (fun k hk=>oM ((h4 k hk).1))).ba (p:=(aA s 1)) aj _,fE (CI h6 hg (fun k hk=>oM ((h4 k hk).1))) (p:=(aA s 1)) aj _,fun e he=>by
  rcases mM.1 he with h|h
  ·exact h7 e h
  ·simp at h;subst h;exact hy⟩
 refine ho.kept (row:=some s) (cB (jN w' (some s)) 1 _) ?_
 cases hv:(Value.slice A' (len+1) c').ownBlock with
 |none=>exact .inl rfl
 |some q=>exact .inr (fun e=>(TI q hv).2 dr)
theorem DG.done {w W:World} {g s:Nat} {N:Int} {A:OA} {len cap:Nat} {gs:List Ed} (h:DG w W g s N A len cap gs) (hl:g<w.heap.size):
  ((W.setCell (aA w.heap.size 0) (iI N)).setCell (aA w.heap.size 1) (.slice A len cap)).ownsRow w.heap.size 95 2 (.slice A len cap) len (bD gs)/\dY ((W.setCell (aA w.heap.size 0) (iI N)).setCell (aA w.heap.size 1) (.slice A len cap)) g/\w.grownBy ((W.setCell (aA w.heap.size 0) (iI N)).setCell (aA w.heap.size 1) (.slice A len cap)) (some g)/\∀e∈gs,e.ok:=
 ⟨aC (bk (bk h.2.2.1 (p:=(aA w.heap.size 0)) ag _) (p:=(aA w.heap.size 1)) ag _) aa,dY.nP h.2.2.2.2.1 hl _ _,xW h.2.2.2.2.2.1 (lI _) _ _,h.2.2.2.2.2.2⟩
theorem qH:∀(f:Nat) (xs:List Gt),xs.length<=f->sW f xs=dE xs
 |0,xs,h=>by
  have e:xs=[]:=xu aa;rw [e];rfl
 |f+1,xs,h=>by
  cases hp:jW xs with
  |none=>
   rw [nh hp];unfold dE;rw [nh hp]
  |some ys=>
   have hl:=tV hp;rw [ni hp,qH f ys aa];unfold dE;obtain ⟨m,hm⟩:∃m,xs.length=m+1:=⟨xs.length - 1,aa⟩;rw [hm,ni hp];have:=qH m ys aa;rw [this];rfl
termination_by f=>f
decreasing_by all_goals omega
theorem SN {xs:List Gt} (h:jW xs=none):dE xs=xs:=nh h
theorem SP {xs ys:List Gt} (h:jW xs=some ys):dE xs=dE ys:=by
 have hl:=tV h;have e:dE xs=sW (xs.length - 1+1) xs:=by
  unfold dE;congr 1;omega
 rw [e,ni h,qH _ _ aa]
theorem abt {w:World} {B e size n c:Nat} {A:OA} {xs:List Value} (h:w.ownsRow B e size (.slice A n c) n xs):n<=c:=by
 exact El
def ao2 (v:Value):Nat:=match v with| .slice _ n _=>n|_=>0
theorem gM (A:OA) (n c:Nat) (xs:List Gt) (w:World) (h:Rd w w.heap.size 4 A n (ak xs)) (hn:n<=400000000000):
  Calls prog 92 #[.slice A n c] w fun e w'=>(∃v,e=.returned v/\w'.ownsRow w.heap.size 54 4 v (dE xs).length (ak (dE xs)))/\Ext w w':=by
 have hlen:=h.len Gt.aE aa;go_enter func92,ntmps92;go_wp2_with (at_builtin;refine cU (w0:=w) rfl _ _ rfl _ 0 [] rfl (aJ w w _ 4 (xZ _)) ((xZ w).alloc _) A n c xs rfl (h.ext ((xZ _).alloc _)) aa ?_;intro v9 w9 g1 g2 g3 g4)
 rw [lM,lN] at g1;obtain ⟨A9,c9,rfl,-⟩:=au g1;rw [<-hlen] at g1 hn |-;have kN:Hid (w9.ownsRow w.heap.size 54 4 (.slice A9 xs.length c9) xs.length (ak xs)/\Ext w w9):=⟨g1,g2⟩;clear g1 g2 g3 g4 h hlen;go_wp2
 go_loopw [3] (fun v wr=>∃(cur:List Gt) (A':OA) (c':Nat),v=.slice A' cur.length c'/\cur.length<=xs.length/\Hid (wr.ownsRow w.heap.size 54 4 (.slice A' cur.length c') cur.length (ak cur)/\Ext w wr)/\Hid (dE xs=dE cur)) (fun v _=>ao2 v)
 case atStart=>exact ⟨xs,A9,c9,by first|rfl|rw [lM],lI _,kN,rfl⟩
 case round=>
  obtain ⟨cur,A',c',rfl,hl,HD,HQ⟩:=hrel;clear kN;go_wp2_with fail;refine (rQ A' cur.length c' cur _ (Rd.own HD.u.1) aa (abt HD.u.1)).mono ?_;rintro e w3 ⟨bz,bT⟩;unfold Hl at bz
  cases hp:jW cur with
  |none=>
   rw [hp] at bz;obtain ⟨v,rfl⟩:=bz;have HV:=hY (HQ.u.trans (SN hp));have HO:Hid (w3.ownsRow w.heap.size 54 4 (.slice A' cur.length c') cur.length (ak cur)/\Ext w w3):=⟨aq HD.u.1 bT,HD.u.2.trans bT⟩;clear hp bT HD HQ;go_wp2;go_ret;rw [HV.u]
   exact ⟨⟨_,rfl,HO.u.1⟩,HO.u.2⟩
  |some ys=>
   rw [hp] at bz;obtain ⟨v,rfl,ho⟩:=bz;have ZO:=tV hp;have mr:=hY (HQ.u.trans (SP hp));obtain ⟨A3,c3,rfl,-⟩:=au ho;have sr:Hid (w3.ownsRow w.heap.size 54 4 (.slice A3 ys.length c3) ys.length (ak ys)/\Ext w w3):=⟨aC ho HD.u.2.size,HD.u.2.trans bT⟩;clear hp bT HD HQ ho;go_wp2;go_roundw
   case rel=>exact ⟨ys,A3,c3,rfl,aa,sr,mr⟩
   case measure=>show ys.length<cur.length;omega
end Go.Proofs.YtiajdbllccmokaaGreatDoor
