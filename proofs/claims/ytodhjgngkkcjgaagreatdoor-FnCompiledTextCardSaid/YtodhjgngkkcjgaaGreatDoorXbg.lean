import Derived.Test.YtodhjgngkkcjgaaGreatDoorXbb
import Derived.Test.YtodhjgngkkcjgaaGreatDoorXbc
import Derived.Test.YtodhjgngkkcjgaaGreatDoorXba
namespace Go.Proofs.YtodhjgngkkcjgaaGreatDoor
open Go.ChangeShapes Go.WideShapes Go.ChangeAt Go.RowKit Go.Deep Go.Proofs.Tryz
set_option linter.unusedVariables false
set_option linter.unusedSimpArgs false
set_option maxRecDepth 100000
set_option maxHeartbeats 16000000
theorem ug:∀(f:Nat) (xs:List Gt),xs.length<=f->zr f xs=eP xs
 |0,xs,h=>by
  have e:xs=[]:=Bm aa;rw [e];rfl
 |f+1,xs,h=>by
  cases hp:mj xs with
  |none=>
   rw [tE hp];unfold eP;rw [tE hp]
  |some ys=>
   have hl:=xD hp;rw [tF hp,ug f ys aa];unfold eP;obtain ⟨m,hm⟩:∃m,xs.length=m+1:=⟨xs.length - 1,aa⟩;rw [hm,tF hp];have:=ug m ys aa;rw [this];rfl
termination_by f=>f
decreasing_by all_goals omega
theorem aan {xs:List Gt} (h:mj xs=none):eP xs=xs:=tE h
theorem aao {xs ys:List Gt} (h:mj xs=some ys):eP xs=eP ys:=by
 have hl:=xD h;have e:eP xs=zr (xs.length - 1+1) xs:=by
  unfold eP;congr 1;omega
 rw [e,tF h,ug _ _ aa]
theorem ah6 {w:World} {B e size n c:Nat} {A:OA} {xs:List Value} (h:w.ownsRow B e size (.slice A n c) n xs):n<=c:=by
 rcases h.2 with ⟨h0,rfl⟩|⟨g,cap,cur,hv,_,_,LR,_⟩
 ·omega
 ·injection hv with _ _ h3;omega
def avQ (v:Value):Nat:=match v with| .slice _ n _=>n|_=>0
theorem iL (A:OA) (n c:Nat) (xs:List Gt) (w:World) (h:Rd w w.heap.size 4 A n (aq xs)) (hn:n<=400000000000):
  Calls prog 151 #[.slice A n c] w fun e w'=>(∃v,e=.returned v/\w'.ownsRow w.heap.size 39 4 v (eP xs).length (aq (eP xs)))/\Ext w w':=by
 have hlen:=h.len Gt.aG aa;go_enter func151,ntmps151;go_wp2_with (at_builtin;refine dm (w0:=w) rfl _ _ rfl _ 0 [] rfl (aN w w _ 4 (xZ _)) ((xZ w).alloc _) A n c xs rfl (h.ext ((xZ _).alloc _)) aa ?_;intro v9 w9 g1 g2 g3 g4)
 rw [lM,lN] at g1;obtain ⟨A9,c9,rfl,-⟩:=ak g1;rw [<-hlen] at g1 hn |-;have iD:Hid (w9.ownsRow w.heap.size 39 4 (.slice A9 xs.length c9) xs.length (aq xs)/\Ext w w9):=⟨g1,g2⟩;clear g1 g2 g3 g4 h hlen;go_wp2
 go_loopw [3] (fun v wr=>∃(cur:List Gt) (A':OA) (c':Nat),v=.slice A' cur.length c'/\cur.length<=xs.length/\Hid (wr.ownsRow w.heap.size 39 4 (.slice A' cur.length c') cur.length (aq cur)/\Ext w wr)/\Hid (eP xs=eP cur)) (fun v _=>avQ v)
 case atStart=>exact ⟨xs,A9,c9,by first|rfl|rw [lM],lI _,iD,rfl⟩
 case round=>
  obtain ⟨cur,A',c',rfl,hl,HD,HQ⟩:=hrel;clear iD;go_wp2_with fail;refine (vt A' cur.length c' cur _ (Rd.own HD.u.1) aa (ah6 HD.u.1)).mono ?_;rintro e w3 ⟨bD,bO⟩;unfold MO at bD
  cases hp:mj cur with
  |none=>
   rw [hp] at bD;obtain ⟨v,rfl⟩:=bD;have HV:=hY (HQ.u.trans (aan hp));have HO:Hid (w3.ownsRow w.heap.size 39 4 (.slice A' cur.length c') cur.length (aq cur)/\Ext w w3):=⟨aj HD.u.1 bO,HD.u.2.trans bO⟩;clear hp bO HD HQ;go_wp2;go_ret;rw [HV.u]
   exact ⟨⟨_,rfl,HO.u.1⟩,HO.u.2⟩
  |some ys=>
   rw [hp] at bD;obtain ⟨v,rfl,ho⟩:=bD;have hyl:=xD hp;have oH:=hY (HQ.u.trans (aao hp));obtain ⟨A3,c3,rfl,-⟩:=ak ho;have mf:Hid (w3.ownsRow w.heap.size 39 4 (.slice A3 ys.length c3) ys.length (aq ys)/\Ext w w3):=⟨aC ho HD.u.2.size,HD.u.2.trans bO⟩;clear hp bO HD HQ ho;go_wp2;go_roundw
   case rel=>exact ⟨ys,A3,c3,rfl,aa,mf,oH⟩
   case measure=>show ys.length<cur.length;omega
theorem aqL {w:World} {B:Nat} {ops:Array Oper} {rest:List Oper} {o:Oper} {a:Act} {Q:Exit->Act->World->Prop} (fX:o.guard=none) (s x:Operand)
  (ho:aO o s x 25) (v:Value) (n:Nat) (xs:List Int) (hs:a.eval s=v)
  (bj:w.ownsRow B 3 1 v n (aD xs)) (hB:B<=w.heap.size) (y:Int) (e:TypeId) (b:Nat) (hx:a.eval x=.slice (some ⟨b,0,none⟩) 1 1) (sg:b=w.heap.size) (hn:n<=1800000000000)
  (h:∀A' c' w',w'.ownsRow B 3 1 (.slice A' (n+1) c') (n+1) (aD (xs++[y]))->w.grownBy w' v.ownBlock->wpList prog ops Q rest (a.put o.dst (.slice A' (n+1) c')) w'):
  wpList prog ops Q (o::rest) a (w.alloc (cO #[iI y] e)):=by
 subst sg;have mW:=jo hB;refine oJ (w0:=GP w B) fX s x ho v n xs hs dT ((pI hB).alloc _) _ 1 1 [y] hx (dZ w _ e 1 _ jV jV) aa ?_;intro v' w' h1 h2 h3 h4;rw [mW] at h1;obtain ⟨A',c',rfl,_⟩:=ak h1
 exact h A' c' w' h1 (FP (((xZ w).alloc _).gr _) h3)
theorem Pz (k:Nat) (xs:List Int):aD (xs.take k)=(aD xs).take (k*1):=by
 induction xs generalizing k with
 |nil=>simp [aD]
 |cons y xs ih=>
  cases k with
  |zero=>simp [aD]
  |succ k=>
   have:=ih k;simp only [aD,vT] at this |-;simp only [yl,jQ,this,Bs,DI,lN]
def aev (w:World) (g bE:Nat) (e:Ending) (w':World):Prop:=
 ∃(A:OA) (len cap:Nat) (xs:List Int),e=.returned (.slice A len cap)/\len<=bE/\w'.ownsRow w.heap.size 3 1 (.slice A len cap) len (aD xs)/\dQ w' g/\w.grownBy w' (some g)
theorem Vl (g:Nat) (w:World) (h:dQ w g):
  Calls prog 59 #[.pointer (some ⟨g,0,none⟩)] w (aev w g 5):=by
 have di:=h.lt;go_enter func59,ntmps59;go_wp2_with fail;refine (aT g 4 _ h aa).mono ?_;rintro e w2 ⟨x,rfl,⟨cD,aK,_⟩,DV,zo⟩;obtain ⟨n,rfl⟩:=lD cD;have bz:n<4:=cN
 clear aK cD;go_wp2_with fail;obtain ⟨n1,e1,ky,zC⟩:∃n1:Nat,(1:Int)+(n:Int)=(n1:Int)/\1<=n1/\n1<=4:=⟨n+1,aa,aa,aa⟩;rw [e1];clear e1;refine (tA g n1 ⟨aa,aa⟩ _ DV).mono ?_;rintro e w3 ⟨b,c,rfl,hb,hI3,ED,Lm⟩;have KS:=cJ zo Lm;have hbw:w.heap.size<=b:=oM (BC zo)
 clear Lm DV;go_wp2_with fail;refine (aT g 8 _ ED aa).mono ?_;rintro e w4 ⟨x,rfl,⟨cD,aK,_⟩,uW,zp⟩;have bz:=aK aa;clear aK;have hI4:=hI3.grown zp (fun k hk=>ay);have Fa:=cJ KS zp;clear KS zp ED hI3 zo
 by_cases e0:x=0
 ·subst e0;go_wp2_with fail;refine (aT g n1 _ uW aa).mono ?_;rintro e w5 ⟨x,rfl,⟨cD,aK,_⟩,kH,hZ⟩;obtain ⟨j,rfl⟩:=lD cD;have hj:j<n1:=cN
  clear aK cD;go_wp2_with fail;refine (dY g _ 5 _ [0,1,4, -1,9223372036854775807] _ (kH.alloc _) (eC w5 _ _ _ 5 1 _ rfl rfl rfl) (by intro b o e;injection e with e;injection e with e1;have:=kH.lt;omega) aa).mono ?_;rintro e w6 ⟨z,rfl,hz,Bj,nR⟩;have hzI:po z:=by unfold po;simp at hz;omega
  clear hz;have hI6:=((hI4.grown hZ (fun k hk=>ay)).grown (((xZ w5).alloc (cO #[iI 0,iI 1,iI 4,iI (-1),iI 9223372036854775807] 3)).gr none) ag).grown nR (fun k hk=>ay);have QW:=cJ (jY (cJ Fa hZ) _) nR;have hI7:=hI6.aU j z hzI;have hC7:=Bj.aU (p:=(aA b j)) ai (iI z);have hg7:=gF QW (p:=(aA b j)) hbw (iI z);have fj:=hI6.frozen j;obtain ⟨u,hu⟩:=hI6.cell hj;obtain ⟨xs,_,ho⟩:=hI7.own hbw;have HO:=hY ho;clear ho hZ nR uW kH hzI hI7;have HC:=hY hC7;have HG:=hY hg7;clear hC7 hg7;go_wp2;go_ret
  exact ⟨_,_,_,xs,rfl,aa,HO.u,HC.u,HG.u⟩
 by_cases e1:x=1
 ·subst e1;go_wp2_with fail;refine (aT g n1 _ uW aa).mono ?_;rintro e w5 ⟨x,rfl,⟨cD,aK,_⟩,kH,hZ⟩;obtain ⟨j,rfl⟩:=lD cD;have hj:j<n1:=cN
  clear aK cD;obtain ⟨xs,_,ho⟩:=(hI4.grown hZ (fun k hk=>ay)).own hbw;have hlc:=ad8 ho;have hjc:j<=c:=aa
  have fg:=JM ho (yw hj);rw [<-Pz] at fg;have HO:=hY fg;have HG:=hY (cJ Fa hZ);clear ho fg hZ uW;go_wp2;go_ret
  exact ⟨_,_,_,xs.take j,rfl,aa,HO.u,kH,HG.u⟩
 by_cases e2:x=2
 ·subst e2;obtain ⟨xs,_,ho⟩:=hI4.own hbw;have jm:=BC Fa;have HO:=hY ho;clear ho;go_wp2_with (at_builtin;refine aqL (B:=w.heap.size) rfl _ _ rfl _ n1 xs rfl HO.u jm (n1:Int) _ _ rfl rfl aa ?_;intro A6 c6 w6 vD QW)
  go_ret;have hgb:∀k,(Value.slice (some ⟨b,0,none⟩) n1 c).ownBlock=some k->k=b:=fun k hk=>by injection hk with hk;exact hk.symm
  exact ⟨_,_,_,_,rfl,aa,vD,uW.grown QW (fun k hk=>oM (hgb k hk)),GQ Fa QW (fun k hk=>oM (hgb k hk))⟩
 ·obtain ⟨xs,_,ho⟩:=hI4.own hbw;go_wp2;go_ret
  exact ⟨_,_,_,xs,rfl,aa,ho,uW,Fa⟩
def G0:Gt:=⟨0,0,0,0⟩
def O0:Oq:=⟨0,G0,0,0,0⟩
def XZ (s:ByteArray) (e:Ending):Prop:=∃(o:Oq) (ok:Bool),e=.returned (.tuple #[o.val,.bool ok])/\
 ((ok=true/\dM o 4 3=true/\kC o=s/\∀o':Oq,dM o' 4 3=true->s=kC o'->o=o')\/(ok=false/\o=O0/\∀o':Oq,dM o' 4 3=true->s≠kC o'))
theorem SC {s:ByteArray} {e:Ending} (he:e=.returned (.tuple #[O0.val,.bool false])) (h:∀o':Oq,dM o' 4 3=true->s≠kC o'):XZ s e:=⟨O0,false,he,.inr ⟨rfl,rfl,h⟩⟩
theorem MW {s:ByteArray} {e:Ending} (o:Oq) (he:e=.returned (.tuple #[o.val,.bool true])) (hs:s≠⟨#[]⟩) (ht:kC o=s) (h:∀o':Oq,dM o' 4 3=true->s=kC o'->o=o'):XZ s e:=by
 refine ⟨o,true,he,.inl ⟨rfl,?_,ht,h⟩⟩
 cases hv:dM o 4 3
 ·rw [UQ hv] at ht;exact absurd ht.symm hs
 ·rfl
theorem ke {o:Oq} (h:dM o 4 3=true):(o.k=1/\o.q=0/\o.bit=0/\vg o.g 4=true/\0<=o.cond/\o.cond<=3)\/(o.k=2/\o.g=G0/\o.cond=0/\0<=o.q/\o.q<=3/\0<=o.bit/\o.bit<=2)\/(o.k=3/\o.g=G0/\o.bit=0/\o.cond=0/\0<=o.q/\o.q<=3):=by
 have hf:=mG h;have hn:lX 4 1 4=true:=ae
 have hb:lX 3 0 3=true:=ae
 obtain ⟨k,⟨gk,ga,gb,gc⟩,q,bit,cond⟩:=o;rcases hf with ⟨hk,mo,rV,hc3⟩|⟨hk,⟨fc,eO⟩,eT,iP⟩|⟨hk,fc,eO⟩
 ·rw [FZ hn hb hk] at h;simp only [lF] at h;have h1:=h.1.1;simp [Br,FY,Oq.g1] at h1;dsimp only at*
  exact .inl ⟨hk,by simp_all,by simp_all,mo,rV,hc3⟩
 ·rw [Ga hn hb hk] at h;simp only [lF] at h;have h1:=h.1.1;simp [Br,FY,Oq.g2] at h1;dsimp only at*
  refine .inr (.inl ⟨hk,?_,by simp_all,aa,aa,aa,aa⟩);unfold G0;simp_all
 ·rw [Gb hn hb hk] at h;simp only [lF] at h;have h1:=h.1;simp [Br,FY,Oq.g3] at h1;dsimp only at*
  refine .inr (.inr ⟨hk,?_,by simp_all,by simp_all,aa,aa⟩);unfold G0;simp_all
theorem aaq {o:Oq} (h:dM o 4 3=true):0<(kC o).size:=by
 rcases ke h with ⟨hk,_,_,mo,rV,hc3⟩|⟨hk,_⟩|⟨hk,_⟩
 ·by_cases hc:0<o.cond
  ·have:=(Jf h hk hc).2;omega
  ·rw [Jc h hk hc];exact Dh mo
 ·rw [Xh h hk,lL,jT];omega
 ·rw [Xi h hk,lL,jT];omega
def OW (y0 y1 y2:ByteArray) (n:Nat) (o:Oq):Prop:=
 (o.k=2/\y0=ZE/\y1=cP o.q/\y2=cP o.bit/\n=3)\/(o.k=3/\y0=Xl/\y1=cP o.q/\n=2)\/(o.k=1/\0<o.cond/\y0=wI/\y1=cP (o.cond - 1)/\3<=n)\/(o.k=1/\¬0<o.cond/\y0=oa o.g.k)
theorem Ya {o:Oq} (h:dM o 4 3=true):OW ((ow o).getD 0 ⟨#[]⟩) ((ow o).getD 1 ⟨#[]⟩) ((ow o).getD 2 ⟨#[]⟩) (ow o).length o:=by
 unfold OW ow;rcases ke h with ⟨hk,_,_,mo,rV,hc3⟩|⟨hk,_⟩|⟨hk,_⟩
 ·rw [aM aa,aM aa]
  by_cases hc:0<o.cond
  ·rw [aY hc];refine .inr (.inr (.inl ⟨hk,hc,rfl,rfl,?_⟩));show 3<=(gw o.g).length+2;unfold gw;rw [ki];omega
  ·rw [aM hc]
   exact .inr (.inr (.inr ⟨hk,hc,rfl⟩))
 ·rw [aY hk]
  exact .inl ⟨hk,rfl,rfl,rfl,rfl⟩
 ·rw [aM aa,aY hk]
  exact .inr (.inl ⟨hk,rfl,rfl,rfl⟩)
theorem xf:ZE≠Xl/\ZE≠wI/\Xl≠wI:=by
 refine ⟨fun h=>?_,fun h=>?_,fun h=>?_⟩
 all_goals
  have:=mr ByteArray.size h;revert this;decide
theorem ajD {s y0 y1 y2:ByteArray} {m:Nat} {q b:Int} {k1 k2:Bool} (hy:y0=ZE) (h1:PN y1 q k1) (h2:PN y2 b k2) (HW:∀o:Oq,dM o 4 3=true->s=kC o->OW y0 y1 y2 m o) (o':Oq) (hv:dM o' 4 3=true) (he:s=kC o'):(⟨2,G0,q,b,0⟩:Oq)=o':=by
 have hne:=xf;rcases HW o' hv he with ⟨hk,a,b1,b2,_⟩|⟨_,a,_⟩|⟨_,_,a,_⟩|⟨_,_,a⟩
 ·rcases ke hv with ⟨KQ,_⟩|⟨_,g0,c0,q0,q3,t0,t3⟩|⟨KQ,_⟩
  ·omega
  ·have e1:=(h1.2.2 o'.q q0 aa b1).1;have e2:=(h2.2.2 o'.bit t0 aa b2).1;obtain ⟨k,g,q',b',c⟩:=o';dsimp only at*
   subst hk g0 c0 e1 e2;rfl
  ·omega
 ·exact absurd (hy.symm.trans a) hne.1
 ·exact absurd (hy.symm.trans a) hne.2.1
 ·exact absurd (a.symm.trans hy) (tQ _).1
theorem ajE {s y0 y1 y2:ByteArray} {m:Nat} {q:Int} {k1:Bool} (hy:y0=Xl) (h1:PN y1 q k1) (HW:∀o:Oq,dM o 4 3=true->s=kC o->OW y0 y1 y2 m o) (o':Oq) (hv:dM o' 4 3=true) (he:s=kC o'):(⟨3,G0,q,0,0⟩:Oq)=o':=by
 have hne:=xf;rcases HW o' hv he with ⟨_,a,_⟩|⟨hk,a,b1,_⟩|⟨_,_,a,_⟩|⟨_,_,a⟩
 ·exact absurd (a.symm.trans hy) hne.1
 ·rcases ke hv with ⟨KQ,_⟩|⟨KQ,_⟩|⟨_,g0,t0,c0,q0,q3⟩
  ·omega
  ·omega
  ·have e1:=(h1.2.2 o'.q q0 aa b1).1;obtain ⟨k,g,q',b',c⟩:=o';dsimp only at*
   subst hk g0 c0 e1 t0;rfl
 ·exact absurd (hy.symm.trans a) hne.2.2
 ·exact absurd (a.symm.trans hy) (tQ _).2.1
theorem aew {s y0 y1 y2:ByteArray} {m:Nat} {n:Int} {g:Gt} {k1:Bool} (hy:y0=wI) (h1:PN y1 n k1) (hg:∀o:Oq,dM o 4 3=true->s=kC o->o.k=1->0<o.cond->g=o.g) (HW:∀o:Oq,dM o 4 3=true->s=kC o->OW y0 y1 y2 m o) (o':Oq) (hv:dM o' 4 3=true) (he:s=kC o'):(⟨1,g,0,0,n+1⟩:Oq)=o':=by
 have hne:=xf;rcases HW o' hv he with ⟨_,a,_⟩|⟨_,a,_⟩|⟨hk,hc,a,b1,_⟩|⟨_,_,a⟩
 ·exact absurd (a.symm.trans hy) hne.2.1
 ·exact absurd (a.symm.trans hy) hne.2.2
 ·rcases ke hv with ⟨_,q0,t0,mo,c0,c3⟩|⟨KQ,_⟩|⟨KQ,_⟩
  ·have e1:=(h1.2.2 (o'.cond - 1) aa aa b1).1;have e2:=hg o' hv he hk hc;obtain ⟨k,g',q',b',c⟩:=o';dsimp only at*
   subst hk q0 t0 e2;rw [show n+1=c by omega]
  ·omega
  ·omega
 ·exact absurd (a.symm.trans hy) (tQ _).2.2
theorem SD {s y0 y1 y2:ByteArray} {m:Nat} {g:Gt} (h2:¬(y0=ZE/\m=3)) (h3:¬(y0=Xl/\m=2)) (hi:¬(y0=wI/\3<=m)) (hg:∀h:Gt,vg h 4=true->s=iQ h->g=h) (HW:∀o:Oq,dM o 4 3=true->s=kC o->OW y0 y1 y2 m o) (o':Oq) (hv:dM o' 4 3=true) (he:s=kC o'):(⟨1,g,0,0,0⟩:Oq)=o':=by
 rcases HW o' hv he with ⟨_,a,_,_,a'⟩|⟨_,a,_,a'⟩|⟨_,_,a,_,a'⟩|⟨hk,hc,a⟩
 ·exact absurd ⟨a,a'⟩ h2
 ·exact absurd ⟨a,a'⟩ h3
 ·exact absurd ⟨a,a'⟩ hi
 ·rcases ke hv with ⟨_,q0,t0,mo,c0,c3⟩|⟨KQ,_⟩|⟨KQ,_⟩
  ·have e2:=hg o'.g mo (by rw [he,Jc hv hk hc]);have e3:o'.cond=0:=aa
   obtain ⟨k,g',q',b',c⟩:=o';dsimp only at*
   subst hk q0 t0 e2 e3;rfl
  ·omega
  ·omega
theorem sO (s:ByteArray):(ByteArray.toList s).isEmpty=true ↔ s=⟨#[]⟩:=by
 rw [List.isEmpty_iff];constructor
 ·intro h
  exact ni.1 (by rw [h];simp)
 ·rintro rfl;simp
theorem Vm {s:ByteArray} (hs:s=⟨#[]⟩) (o':Oq) (hv:dM o' 4 3=true):s≠kC o':=by
 intro he;have:=aaq hv;rw [<-he,hs] at this
 exact absurd this ae
theorem Vn {s:ByteArray} {o:Oq} (h:∀o':Oq,dM o' 4 3=true->s=kC o'->o=o') (hne:(ByteArray.toList (kC o)==ByteArray.toList s)=false) (o':Oq) (hv:dM o' 4 3=true):s≠kC o':=by
 intro he;have:=h o' hv he;rw [this,<-he,hH] at hne
 cases hne
theorem uh {w:World} {g t:Nat} {c0 c1 c2 c3 c4 c5 c6 c7:Value} (h:au w g t #[c0,c1,c2,c3,c4,c5,c6,c7]):
  (w.cell? (aA g 0)=some c0/\w.cell? (aA g 1)=some c1/\w.cell? (aA g 2)=some c2/\w.cell? (aA g 3)=some c3/\w.cell? (aA g 4)=some c4/\w.cell? (aA g 5)=some c5/\w.cell? (aA g 6)=some c6/\w.cell? (aA g 7)=some c7)/\w.frozen? (aA g 0)=false/\w.frozen? (aA g 1)=false/\w.frozen? (aA g 2)=false/\w.frozen? (aA g 3)=false/\w.frozen? (aA g 4)=false/\w.frozen? (aA g 5)=false/\w.frozen? (aA g 6)=false/\w.frozen? (aA g 7)=false:=
 ⟨⟨h.cell 0,h.cell 1,h.cell 2,h.cell 3,h.cell 4,h.cell 5,h.cell 6,h.cell 7⟩,h.frozen 0,h.frozen 1,h.frozen 2,h.frozen 3,h.frozen 4,h.frozen 5,h.frozen 6,h.frozen 7⟩
def Vo (w:World) (g:Nat) (c0 c1 c2 c3 c4 c5 c6 c7:Value):World:=(((((((w.setCell (aA g 0) c0).setCell (aA g 1) c1).setCell (aA g 2) c2).setCell (aA g 3) c3).setCell (aA g 4) c4).setCell (aA g 5) c5).setCell (aA g 6) c6).setCell (aA g 7) c7
theorem au.Vo {w:World} {g t:Nat} {z0 z1 z2 z3 z4 z5 z6 z7:Value} (h:au w g t #[z0,z1,z2,z3,z4,z5,z6,z7]) (c0 c1 c2 c3 c4 c5 c6 c7:Value):au (Vo w g c0 c1 c2 c3 c4 c5 c6 c7) g t #[c0,c1,c2,c3,c4,c5,c6,c7]:=by
 have h0:au _ g t #[c0,z1,z2,z3,z4,z5,z6,z7]:=h.aU 0 c0;have h1:au _ g t #[c0,c1,z2,z3,z4,z5,z6,z7]:=h0.aU 1 c1;have h2:au _ g t #[c0,c1,c2,z3,z4,z5,z6,z7]:=h1.aU 2 c2;have h3:au _ g t #[c0,c1,c2,c3,z4,z5,z6,z7]:=h2.aU 3 c3;have h4:au _ g t #[c0,c1,c2,c3,c4,z5,z6,z7]:=h3.aU 4 c4;have h5:au _ g t #[c0,c1,c2,c3,c4,c5,z6,z7]:=h4.aU 5 c5;have h6:au _ g t #[c0,c1,c2,c3,c4,c5,c6,z7]:=h5.aU 6 c6;have h7:au _ g t #[c0,c1,c2,c3,c4,c5,c6,c7]:=h6.aU 7 c7
 exact h7
theorem Cp {w0 w:World} (h:Ext w0 w) {g:Nat} (hg:w0.heap.size<=g) (c0 c1 c2 c3 c4 c5 c6 c7:Value):Ext w0 (Vo w g c0 c1 c2 c3 c4 c5 c6 c7):=
 (((((((h.setCell (p:=(aA g 0)) hg c0).setCell (p:=(aA g 1)) hg c1).setCell (p:=(aA g 2)) hg c2).setCell (p:=(aA g 3)) hg c3).setCell (p:=(aA g 4)) hg c4).setCell (p:=(aA g 5)) hg c5).setCell (p:=(aA g 6)) hg c6).setCell (p:=(aA g 7)) hg c7
theorem Fy:(prog.info? 41).map (·.size)=some 8:=af
def ji (w:World) (g:Nat) (a b c d:Value):World:=(((w.setCell (aA g 1) a).setCell (aA g 2) b).setCell (aA g 3) c).setCell (aA g 4) d
theorem au.ji {w:World} {g t:Nat} {z0 z1 z2 z3 z4 z5 z6 z7:Value} (h:au w g t #[z0,z1,z2,z3,z4,z5,z6,z7]) (a b c d:Value):au (ji w g a b c d) g t #[z0,a,b,c,d,z5,z6,z7]:=by
 have h1:au _ g t #[z0,a,z2,z3,z4,z5,z6,z7]:=h.aU 1 a;have h2:au _ g t #[z0,a,b,z3,z4,z5,z6,z7]:=h1.aU 2 b;have h3:au _ g t #[z0,a,b,c,z4,z5,z6,z7]:=h2.aU 3 c;have h4:au _ g t #[z0,a,b,c,d,z5,z6,z7]:=h3.aU 4 d
 exact h4
theorem nK {w0 w:World} (h:Ext w0 w) {g:Nat} (hg:w0.heap.size<=g) (a b c d:Value):Ext w0 (ji w g a b c d):=
 (((h.setCell (p:=(aA g 1)) hg a).setCell (p:=(aA g 2)) hg b).setCell (p:=(aA g 3)) hg c).setCell (p:=(aA g 4)) hg d
def SE (gs:List Gt):List Gt:=gs.flatMap dec
theorem anY {gs:List Gt} {k:Nat} {g:Gt} (h:gs[k]?=some g):SE (gs.take (k+1))=SE (gs.take k)++dec g:=by
 unfold SE;rw [aS h,lR];simp
theorem aex (gs:List Gt):(SE gs).length<=15*gs.length:=by
 unfold SE
 induction gs with
 |nil=>simp
 |cons o xs ih=>have:=xz o;rw [jQ,lA,ki];omega
theorem anZ (gs:List Gt) (k:Nat):(SE (gs.take k)).length<=15*k:=by
 have h1:=aex (gs.take k);have h2:(gs.take k).length<=k:=qE _ _;omega
theorem aqM (gs:List Gt):mW (SE gs)<=2*gs.length:=by
 unfold SE
 induction gs with
 |nil=>exact lI 0
 |cons o xs ih=>have:=agm o;rw [jQ,VV,ki];omega
theorem Yb (x:Gr) (a b:Int):∀(f:Nat) (now:List Int),mW (AJ x a b f now).1=0
 |0,now=>rfl
 |f+1,now=>by
  unfold AJ;split
  ·show mW (_::(AJ x a b f _).1)=0;rw [wk,Yb x a b f _];rfl
  ·rfl
theorem an0 (x:Gr) (g:Gt) (p:List Int):mW (qX x g p).1<=hct g:=by
 cases hm:may g x p
 ·rw [Jx hm];exact lJ _
 ·cases h1:(ar g.k==1)
  ·rw [Ft hm h1];show mW (_++[_])<=_;rw [abI,Yb]
   exact lJ _
  ·rw [Fs hm h1];show mW [g1 g.k _]<=_;rw [wk]
   exact lI _
def aCu (w:World) (m mh:Nat) (e:Ending) (w':World):Prop:=
 ∃(v1 v2:Value) (b:Bool) (out:List Gt),e=.returned (.tuple #[v1,v2,.bool b])/\(out.length<=5*m/\mW out<=mh)/\w'.ownsRow w.heap.size 39 4 v1 out.length (aq out)/\Ext w w'
def ES (n:Nat):Nat->List Int->List (List Int)
 |0,hd=>[hd]
 |f+1,hd=>(List.range n).flatMap fun (k:Nat)=>if gf hd (k:Int)=true then [] else ES n f (hd++[(k:Int)])
def ui (n f:Nat) (hd:List Int) (k:Nat):List (List Int):=(List.range k).flatMap fun (k:Nat)=>if gf hd (k:Int)=true then [] else ES n f (hd++[(k:Int)])
theorem ama (n f:Nat) (hd:List Int):ui n f hd 0=[]:=rfl
theorem aey (n f:Nat) (hd:List Int):ui n f hd n=ES n (f+1) hd:=rfl
theorem SF {n f k:Nat} {hd:List Int} (h:gf hd (k:Int)=true):ui n f hd (k+1)=ui n f hd k:=by
 unfold ui;rw [FR,lR];simp [h]
theorem SH {n f k:Nat} {hd:List Int} (h:gf hd (k:Int)=false):ui n f hd (k+1)=ui n f hd k++ES n f (hd++[(k:Int)]):=by
 unfold ui;rw [FR,lR];simp [h]
theorem Dp {n f P:Nat} {hd:List Int} (h:∀hd,(ES n f hd).length<=P):∀k,(ui n f hd k).length<=k*P
 |0=>by simp [ama]
 |k+1=>by
  have h1:=Dp (hd:=hd) h k;rw [vS]
  cases hh:gf hd (k:Int)
  ·rw [SH hh,lA];have:=h (hd++[(k:Int)]);omega
  ·rw [SF hh];omega
theorem Fz {n:Nat} (hn:n<=4):∀(f:Nat) (hd:List Int),(ES n f hd).length<=4 ^ f
 |0,hd=>by simp [ES]
 |f+1,hd=>by
  have h1:=Dp (hd:=hd) (Fz hn f) n;rw [aey] at h1;rw [Nat.pow_succ,Nat.mul_comm]
  exact lK h1 (Nn _ hn)
theorem aez {n f k:Nat} {hd:List Int} (hn:n<=4) (hk:k<=n) (hf:f<=3):(ui n f hd k).length<=256:=by
 have h1:=Dp (hd:=hd) (Fz hn f) k;have h2:k*4 ^ f<=4*4 ^ 3:=CE aa (DB aa hf);omega
theorem PA {n:Nat}:∀(f:Nat) (hd:List Int),∀p∈ES n f hd,p.length=hd.length+f
 |0,hd,p,hp=>by simp [ES] at hp;subst hp;rfl
 |f+1,hd,p,hp=>by
  unfold ES at hp;obtain ⟨k,-,hk⟩:=vN.1 hp;split at hk
  ·cases hk
  ·have:=PA f _ p hk;rw [this,lA];simp;omega
def fu (w0 W:World) (vs:List Value) (xss:List (List Int)):Prop:=vs.length=xss.length/\∀(j:Nat) (xs:List Int),xss[j]?=some xs->∃(A:OA) (c:Nat),vs[j]?=some (Value.slice A xs.length c)/\W.ownsRow w0.heap.size 3 1 (.slice A xs.length c) xs.length (aD xs)
section
variable {w0 w1 W W':World} {vs us:List Value} {xss yss:List (List Int)}
theorem fu.nil:fu w0 W [] []:=⟨rfl,fun j xs h=>dX⟩
theorem fu.ext (h:fu w0 W vs xss) (hx:Ext W W'):fu w0 W' vs xss:=⟨h.1,fun j xs hj=>by
 obtain ⟨A,c,h1,h2⟩:=h.2 j xs hj
 exact ⟨A,c,h1,aj h2 hx⟩⟩
theorem fu.base (h:fu w0 W vs xss) (hw:w1.heap.size<=w0.heap.size):fu w1 W vs xss:=⟨h.1,fun j xs hj=>by
 obtain ⟨A,c,h1,h2⟩:=h.2 j xs hj
 exact ⟨A,c,h1,aC h2 hw⟩⟩
theorem fu.grown (h:fu w0 W vs xss) {B1 e s n:Nat} {v:Value} {ys:List Value} (ho:W.ownsRow B1 e s v n ys) (he:e≠3) (hg:W.grownBy W' v.ownBlock):fu w0 W' vs xss:=⟨h.1,fun j xs hj=>by
 obtain ⟨A,c,h1,h2⟩:=h.2 j xs hj
 exact ⟨A,c,h1,h2.kept hg (dh h2 ho (vV he))⟩⟩
theorem fu.app (h:fu w0 W vs xss) (h':fu w0 W us yss):fu w0 W (vs++us) (xss++yss):=by
 refine ⟨by rw [lA,lA,h.1,h'.1],fun j xs hj=>?_⟩
 by_cases FX:j<xss.length
 ·rw [oY FX] at hj;obtain ⟨A,c,h1,h2⟩:=h.2 j xs hj
  exact ⟨A,c,by rw [oY (by rw [h.1];exact FX)];exact h1,h2⟩
 ·rw [uS aa] at hj;obtain ⟨A,c,h1,h2⟩:=h'.2 _ xs hj
  exact ⟨A,c,by rw [uS (by rw [h.1];omega),h.1];exact h1,h2⟩
theorem fu.one {A:OA} {c:Nat} {xs:List Int} (h:W.ownsRow w0.heap.size 3 1 (.slice A xs.length c) xs.length (aD xs)):fu w0 W [.slice A xs.length c] [xs]:=by
 refine ⟨rfl,fun j ys hj=>?_⟩
 cases j with
 |zero=>simp at hj;subst hj;exact ⟨A,c,rfl,h⟩
 |succ j=>simp at hj
end
theorem aeA:(prog.info? 25).map (fun i=>(i.zero,i.size,i.bytes))=some (some (nS),1,24):=af
theorem ah7 {w0 w:World} {ops:Array Oper} {rest:List Oper} {o:Oper} {a:Act} {Q:Exit->Act->World->Prop} (fX:o.guard=none) (s x:Operand)
  (ho:aO o s x 135) (v:Value) (n:Nat) (xs:List Value) (hs:a.eval s=v)
  (bj:w.ownsRow w0.heap.size 25 1 v n xs) (cD:Ext w0 w) (A:OA) (m c:Nat) (us:List Value) (hu:∀u∈us,u.oneCell'=true) (hx:a.eval x=.slice A m c) (hr:Rd w w.heap.size 1 A m us) (hn:n+m<=2000000000000)
  (h:aH w0 w v 25 1 (n+m) (xs++us) (wpList prog ops Q rest) a o):wpList prog ops Q (o::rest) a w:=by
 obtain ⟨i0,hi,fH,iV,kz⟩:=jH aeA
 exact fp fX s x _ ho 25 i0 _ 1 24 underlying135 hi fH iV kz rfl ae ae v n _ hs bj cD A m c us hx hr hu hn h
theorem fu.avR {w0 W:World} {vs:List Value} {xss:List (List Int)} (h:fu w0 W vs xss):∀u∈vs,u.oneCell'=true:=by
 intro u hu;obtain ⟨j,hj⟩:=TA hu;have FX:j<xss.length:=by rw [<-h.1];exact (gu.1 hj).1
 obtain ⟨A,c,h1,-⟩:=h.2 j _ (lB FX);rw [hj] at h1
 cases h1
 rfl
theorem Ep (n:Nat) (hn:n<=4):∀(f m:Nat) (A:OA) (c:Nat) (hd:List Int) (w:World),m+f=n->Rd w w.heap.size 1 A m (aD hd)->
  Calls prog 130 #[iI n,.slice A m c] w fun e w'=>(∃(v:Value) (vs:List Value),e=.returned v/\w'.ownsRow w.heap.size 25 1 v (ES n f hd).length vs/\fu w w' vs (ES n f hd))/\Ext w w'
 |0,m,A,c,hd,w,hm,h=>by
  have hmn:m=n:=aa
  subst hmn;have cT:=hY (h.len bG aa);have HR:=hY h;have he1:((m:Int)==(m:Int))=true:=ag
  clear h hm;go_enter func130,ntmps130;go_wp2_with (at_builtin;refine oJ (w0:=w) rfl _ _ rfl _ 0 [] rfl (aN w w _ 1 (xZ _)) ((xZ w).alloc _) A m c hd rfl (HR.u.ext ((xZ _).alloc _)) aa ?_;intro v9 w9 g1 g2 g3 g4;rw [lM,lN] at g1;obtain ⟨A9,c9,rfl,-⟩:=ak g1;have HO:=hY (lQ g1 g2);clear g1 g2 g3 g4)
  go_ret;have ho:w9.ownsRow w.heap.size 3 1 (.slice A9 hd.length c9) hd.length (aD hd):=by rw [cT.u];exact HO.u.1
  refine ⟨⟨_,[.slice A9 hd.length c9],rfl,?_,(fu.one ho).ext ((xZ _).alloc _)⟩,HO.u.2.alloc _⟩;rw [cT.u]
  exact bS HO.u.2 w9.heap.size 25 1 1 #[.slice A9 m c9] _ rfl rfl rfl aa
 |f+1,m,A,c,hd,w,hm,h=>by
  have cT:=hY (h.len bG aa);have HR:=hY h
  have HIH:Hid (∀(m:Nat) (A:OA) (c:Nat) (hd:List Int) (w:World),m+f=n->Rd w w.heap.size 1 A m (aD hd)->
   Calls prog 130 #[iI n,.slice A m c] w fun e w'=>(∃(v:Value) (vs:List Value),e=.returned v/\w'.ownsRow w.heap.size 25 1 v (ES n f hd).length vs/\fu w w' vs (ES n f hd))/\Ext w w'):=fun m A c hd w=>Ep n hn f m A c hd w
  have he1:((m:Int)==(n:Int))=false:=ai
  have Tp:decide ((m:Int)=(n:Int))=false:=ai
  have HM:=hY hm;have hmn:¬m=n:=aa
  clear h;go_enter func130,ntmps130;have qx:Hid ((w.alloc (cO #[] 25)).ownsRow w.heap.size 25 1 (.slice (some ⟨w.heap.size,0,none⟩) 0 0) 0 []/\fu w (w.alloc (cO #[] 25)) [] (ui n f hd 0)/\Ext w (w.alloc (cO #[] 25))):=⟨aN w w _ 1 (xZ _),fu.nil,(xZ w).alloc _⟩;go_wp2;clear he1 Tp hmn
  go_loopw [5,6] (fun ov iv wr=>∃(k:Nat) (Ao:OA) (co:Nat) (vs:List Value),k<=n/\iv=iI k/\ov=.slice Ao (ui n f hd k).length co/\Hid (wr.ownsRow w.heap.size 25 1 (.slice Ao (ui n f hd k).length co) (ui n f hd k).length vs/\fu w wr vs (ui n f hd k)/\Ext w wr)) (fun _ i _=>n - (intOf i).toNat)
  case atStart=>exact ⟨0,_,0,[],lJ _,rfl,rfl,qx⟩
  case round=>
   clear qx;obtain ⟨k,Ao,co,vs,hk,rfl,rfl,HO⟩:=hrel;have zV:=aez (n:=n) (f:=f) (k:=k) (hd:=hd) hn hk aa;obtain ⟨lo,qe⟩:=ex ((ui n f hd k).length);have Jl:=hY qe;rw [qe] at HO zV |-;clear qe
   by_cases ba:k<n
   ·have bZ:=hY ba;have HRA:=hY (HR.u.ext HO.u.2.2);have dy:=hY (wC k aa);go_wp2_with fail;refine (dE A m c hd (k:Int) _ HRA.u aa).mono ?_;rintro e wq ⟨rfl,rfl⟩
    cases hh:gf hd (k:Int)
    ·have HP:=hY (SH (n:=n) (f:=f) hh);have di:=Fz hn f (hd++[(k:Int)]);have jW:(4:Nat) ^ f<=4 ^ 3:=DB aa aa;have avS:(ES n f (hd++[(k:Int)])).length<=64:=aa
     clear hh di jW;obtain ⟨wr',hwr⟩:∃W:World,W=wr:=⟨_,rfl⟩
     go_wp2_with (first
      |(at_builtin;refine oJ (w0:=wr) rfl _ _ rfl _ 0 [] rfl (aN wr wr _ 1 (xZ _)) ((xZ wr).alloc _) A m c hd rfl (HRA.u.ext ((xZ _).alloc _)) aa ?_;intro v5 w5 g1 g2 g3 g4;rw [lM,lN] at g1;obtain ⟨A5,c5,rfl,-⟩:=ak g1;have jL:=hY (lQ g1 g2);clear g1 g2 g3 g4)
      |(at_builtin;refine pq (w0:=wr) rfl _ _ rfl _ m hd rfl jL.u.1 jL.u.2 (k:Int) _ _ rfl rfl aa ?_;intro v6 w6 g1 g2 g3 g4;obtain ⟨A6,c6,rfl,-⟩:=ak g1;have mn:=hY (lQ g1 g2);clear g1 g2 g3 g4))
     have wH:=hY (Rd.own mn.u.1);refine (HIH.u (m+1) A6 c6 (hd++[(k:Int)]) _ (oM HM.u) wH.u).mono ?_;rintro e w7 ⟨⟨v7,us,rfl,DY,Fq⟩,gG⟩;obtain ⟨A7,c7,rfl,amc⟩:=ak DY;obtain ⟨l7,hl7⟩:=ex ((ES n f (hd++[(k:Int)])).length);have HL7:=hY hl7;rw [hl7] at DY amc avS |-;have fz:Hid (Ext wr w7):=mn.u.2.trans gG;have YP:Hid (w7.ownsRow w.heap.size 25 1 (.slice Ao lo co) lo vs/\fu w w7 vs (ui n f hd k)/\Ext w w7):=⟨aj HO.u.1 fz.u,HO.u.2.1.ext fz.u,HO.u.2.2.trans fz.u⟩;have HRU:Hid (fu w w7 us (ES n f (hd++[(k:Int)]))):=Fq.base (HO.u.2.2.trans mn.u.2).size;have HRD:=hY amc;clear DY Fq amc gG hl7 jL mn wH HO;go_wp2_with (at_builtin;refine ah7 (w0:=w) rfl _ _ rfl _ lo vs rfl YP.u.1 YP.u.2.2 A7 l7 c7 us HRU.u.avR rfl HRD.u aa ?_;intro v8 w8 g1 g2 g3 g4;obtain ⟨A8,c8,rfl,-⟩:=ak g1;have xF:Hid (w8.ownsRow w.heap.size 25 1 (.slice A8 (lo+l7) c8) (lo+l7) (vs++us)/\fu w w8 (vs++us) (ui n f hd k++ES n f (hd++[(k:Int)]))/\Ext w w8):=⟨g1,(YP.u.2.1.app HRU.u).grown YP.u.1 ae g3,g2⟩;clear g1 g2 g3 g4)
     go_roundw
     case rel=>exact ⟨k+1,A8,c8,vs++us,oM bZ.u,by first|rfl|rw [dy.u.1]|rw [dy.u.2],by rw [HP.u,lA,Jl.u,HL7.u],by rw [HP.u,lA,Jl.u,HL7.u];exact xF⟩
     case measure=>simp [intOf,dy.u.2];have:=bZ.u;omega
    ·have HP:=hY (SF (n:=n) (f:=f) hh);clear hh;go_wp2_with fail;go_roundw
     case rel=>exact ⟨k+1,Ao,co,vs,oM bZ.u,by first|rfl|rw [dy.u.1]|rw [dy.u.2],by rw [HP.u,Jl.u],by rw [HP.u,Jl.u];exact HO⟩
     case measure=>simp [intOf,dy.u.2];have:=bZ.u;omega
   ·have jJ:k=n:=aa
    subst jJ;have HV:Hid (ES k (f+1) hd=ui k f hd k):=(aey k f hd).symm;go_wp2;go_ret;rw [HV.u,Jl.u]
    exact ⟨⟨_,vs,rfl,HO.u.1,HO.u.2.1⟩,HO.u.2.2⟩
theorem rR (n:Nat) (h1:1<=n) (hn:n<=4) (w:World):
  Calls prog 107 #[iI n] w fun e w'=>(∃(v:Value) (vs:List Value),e=.returned v/\w'.ownsRow w.heap.size 25 1 v (ES n n []).length vs/\fu w w' vs (ES n n []))/\Ext w w':=by
 have Sg:Hid (∀w',Calls prog 26 #[iI n,iI 1,iI 4] w' fun e w''=>e=.returned (.bool true)/\w'=w''):=fun w'=>by
  have h9:=aF (n:Int) 1 4 w' aa aa
  exact h9
 go_enter func107,ntmps107;go_wp2_with fail;refine (Sg.u _).mono ?_;rintro e wq ⟨rfl,rfl⟩;have Zl:Hid (Rd (w.alloc (cO #[] 3)) (w.alloc (cO #[] 3)).heap.size 1 (some ⟨w.heap.size,0,none⟩) 0 (aD [])):=⟨rfl,fun h0=>absurd h0 aa⟩;go_wp2_with fail;refine (Ep n hn n 0 _ 0 [] _ aa Zl.u).mono ?_;rintro e w5 ⟨⟨v5,vs,rfl,ho,hr⟩,hx⟩;have HO:Hid (w5.ownsRow w.heap.size 25 1 v5 (ES n n []).length vs/\fu w w5 vs (ES n n [])/\Ext w w5):=⟨aC ho ag,hr.base ag,((xZ w).alloc _).trans hx⟩;clear ho hr hx;go_wp2;go_ret
 exact ⟨⟨_,vs,rfl,HO.u.1,HO.u.2.1⟩,HO.u.2.2⟩
theorem uj:(63:Nat)≠39:=ae
theorem SI:(130:Nat)≠39:=ae
theorem sP {w:World} {s T:Nat} {cs:Array Value} {B e size n:Nat} {v:Value} {xs:List Value} (h:au w s T cs) (ho:w.ownsRow B e size v n xs) (hne:T≠e):∀k,v.ownBlock=some k->s≠k:=by
 intro k hk e1;subst e1;rcases ho.2 with ⟨rfl,_⟩|⟨b',jM,abn,rfl,_,uF,_⟩
 ·cases hk
 ·injection hk with hk;subst hk;unfold au at h;rw [h] at uF;injection uF with uF;injection uF with _ uF
  exact hne uF
section
variable {w0 w w':World} {g q:Nat} {N N':Int} {A A':OA} {l c l' c':Nat} {es es':List Ed} {L L':OA} {len cap jM:Nat} {gs:List Gt}
theorem DG.fresh (h:DG w0 w g q N A l c es) (hg:w.grownBy w' (some g)) (hC:dQ w' g) (hs:g<q) (hl:g<w0.heap.size) (hq:w0.heap.size<q) (ho:w'.ownsRow w.heap.size 130 2 (.slice A' l' c') l' (bK es')) (sj:∀e∈es',e.ok):
  DG w0 ((w'.setCell (aA q 0) (iI N')).setCell (aA q 1) (.slice A' l' c')) g q N' A' l' c' es':=by
 have ba:=h.2.1.lt;have Ze:=h.1.lt;obtain ⟨h1,h2,h3,h4,h5,h6,h7⟩:=h.grown hg hC hs hl;refine ⟨(h1.cB (p:=(aA q 0)) ai _).cB (p:=(aA q 1)) ai _,h2.qz _ _,aC (bo (bo ho (p:=(aA q 0)) ba _) (p:=(aA q 1)) ba _) Ze,?_,h5.qz hs _ _,BH h6 (yw hq) _ _,sj⟩;intro k hk;have:=(ho.lt k hk).1;omega
theorem DG.avT {B n:Nat} {v:Value} {xs:List Value} (h:DG w0 w g q N A l c es) (ho:w.ownsRow B 39 4 v n xs) (hB:w0.heap.size<B) (hl:g<w0.heap.size) (hg:w.grownBy w' v.ownBlock):DG w0 w' g q N A l c es:=by
 obtain ⟨h1,h2,h3,h4,h5,h6,h7⟩:=h;have qe:∀k,v.ownBlock=some k->B<=k:=fun k hk=>(ho.lt k hk).1
 exact ⟨h1.grown hg (sP h1 ho uj),h2.grown hg (sP h2 ho uj),kD h3 ho SI hg,h4,h5.grown hg (fun k hk=>oM (qe k hk)),GQ h6 hg (fun k hk=>oM (qe k hk)),h7⟩
def LG (w0 w:World) (g q:Nat) (N:Int) (A:OA) (l c:Nat) (es:List Ed) (L:OA) (len cap:Nat) (gs:List Gt):Prop:=
 DG w0 w g q N A l c es/\w.ownsRow (w0.heap.size+1) 39 4 (.slice L len cap) len (aq gs)
theorem LG.cur (h:LG w0 w g q N A l c es L len cap gs):dQ w g:=h.1.2.2.2.2.1
theorem LG.grown (h:LG w0 w g q N A l c es L len cap gs) (hg:w.grownBy w' (some g)) (hC:dQ w' g) (hs:g<q) (hl:g<w0.heap.size):LG w0 w' g q N A l c es L len cap gs:=
 ⟨h.1.grown hg hC hs hl,dk h.2 hg (fun k hk=>ay)⟩
theorem LG.fresh (h:LG w0 w g q N A l c es L len cap gs) (hg:w.grownBy w' (some g)) (hC:dQ w' g) (hs:g<q) (hl:g<w0.heap.size) (hq:w0.heap.size<q) (ho:w'.ownsRow w.heap.size 130 2 (.slice A' l' c') l' (bK es')) (sj:∀e∈es',e.ok):
  LG w0 ((w'.setCell (aA q 0) (iI N')).setCell (aA q 1) (.slice A' l' c')) g q N' A' l' c' es' L len cap gs:=by
 refine ⟨h.1.fresh hg hC hs hl hq ho sj,?_⟩;have h2:=dk h.2 hg (fun k hk=>ay);have hb:=h.1.2.1.grown hg (fun k hk=>ay);have ha:=sP hb h2 uj
 have k1:=h2.kept (row:=some q) (cF (kO w' (some q)) 0 (iI N')) (by
  cases hv:(Value.slice L len cap).ownBlock with
  |none=>exact .inl rfl
  |some k=>exact .inr (fun e=>ha k hv rk))
 exact k1.kept (row:=some q) (cF (kO _ (some q)) 1 _) (by
  cases hv:(Value.slice L len cap).ownBlock with
  |none=>exact .inl rfl
  |some k=>exact .inr (fun e=>ha k hv rk))
theorem LG.app {y:Gt} (h:LG w0 w g q N A l c es L len cap gs) (hl:g<w0.heap.size) (ho:w'.ownsRow (w0.heap.size+1) 39 4 (.slice L' (len+1) jM) (len+1) (aq (gs++[y]))) (hg:w.grownBy w' (Value.slice L len cap).ownBlock):LG w0 w' g q N A l c es L' (len+1) jM (gs++[y]):=
 ⟨h.1.avT h.2 (yq _) hl hg,ho⟩
theorem LG.drew (h:LG w0 w g q N A l c es L len cap gs):LG w0 w.drew g q N A l c es L len cap gs:=⟨h.1.drew,aj h.2 (xZ w).drew⟩
theorem LG.fin (h:LG w0 w g q N A l c es L len cap gs) (hl:g<w0.heap.size):
  (((w.setCell (aA w0.heap.size 0) (iI N)).setCell (aA w0.heap.size 1) (.slice A l c)).cell? (aA w0.z 0)=some (iI N)/\((w.setCell (aA w0.heap.size 0) (iI N)).setCell (aA w0.heap.size 1) (.slice A l c)).cell? (aA w0.z 1)=some (.slice A l c))/\
  ((w.setCell (aA w0.heap.size 0) (iI N)).setCell (aA w0.heap.size 1) (.slice A l c)).ownsRow w0.heap.size 39 4 (.slice L len cap) len (aq gs)/\
  ((w.setCell (aA w0.heap.size 0) (iI N)).setCell (aA w0.heap.size 1) (.slice A l c)).ownsRow w0.heap.size 130 2 (.slice A l c) l (bK es)/\dQ ((w.setCell (aA w0.heap.size 0) (iI N)).setCell (aA w0.heap.size 1) (.slice A l c)) g/\w0.grownBy ((w.setCell (aA w0.heap.size 0) (iI N)).setCell (aA w0.heap.size 1) (.slice A l c)) (some g)/\∀e∈es,e.ok:=by
 have hb:=h.1.1.qz (iI N) (.slice A l c);obtain ⟨d1,d2,d3,d4⟩:=h.1.done hl
 exact ⟨⟨hb.cell 0,hb.cell 1⟩,aC (bo (bo h.2 (p:=(aA w0.heap.size 0)) ag _) (p:=(aA w0.heap.size 1)) ag _) aa,d1,d2,d3,d4⟩
theorem LG.aCv (h:LG w0 w g q N A l c es L len cap gs) (hl:g<w0.heap.size):
  (((w.setCell (aA w0.heap.size 0) (iI N)).setCell (aA w0.heap.size 1) (.slice A l c)).drew.cell? (aA w0.z 0)=some (iI N)/\((w.setCell (aA w0.heap.size 0) (iI N)).setCell (aA w0.heap.size 1) (.slice A l c)).drew.cell? (aA w0.z 1)=some (.slice A l c))/\
  ((w.setCell (aA w0.heap.size 0) (iI N)).setCell (aA w0.heap.size 1) (.slice A l c)).drew.ownsRow w0.heap.size 39 4 (.slice L len cap) len (aq gs)/\
  ((w.setCell (aA w0.heap.size 0) (iI N)).setCell (aA w0.heap.size 1) (.slice A l c)).drew.ownsRow w0.heap.size 130 2 (.slice A l c) l (bK es)/\dQ ((w.setCell (aA w0.heap.size 0) (iI N)).setCell (aA w0.heap.size 1) (.slice A l c)).drew g/\w0.grownBy ((w.setCell (aA w0.heap.size 0) (iI N)).setCell (aA w0.heap.size 1) (.slice A l c)).drew (some g)/\∀e∈es,e.ok:=by
 obtain ⟨⟨q0,q1⟩,e1,e2,e3,e4,e5⟩:=h.fin hl
 exact ⟨⟨q0,q1⟩,aj e1 (xZ _).drew,aj e2 (xZ _).drew,e3.ext (xZ _).drew,CP e4 (xZ _).drew,e5⟩
end
theorem an1 (a b:Value) (w:World):(Instr.field 183 (.agg #[a,b]) 1).run prog w=.ok b w:=af
def aeB (w:World) (g bE mh:Nat) (e:Ending) (w':World):Prop:=
 ∃(L:OA) (len cap:Nat) (gs:List Gt) (N:Int) (A:OA) (l c:Nat) (es:List Ed),e=.returned (.tuple #[.slice L len cap,.agg #[iI N,.slice A l c]])/\(-1<=N/\N<=5)/\(len<=bE/\mW gs<=mh)/\l<=8/\w'.ownsRow w.heap.size 39 4 (.slice L len cap) len (aq gs)/\w'.ownsRow w.heap.size 130 2 (.slice A l c) l (bK es)/\dQ w' g/\w.grownBy w' (some g)/\∀e∈es,e.ok
theorem aeB.mk {w w':World} {g bE mh:Nat} (L:OA) (len cap:Nat) (gs:List Gt) (N:Int) (A:OA) (l c:Nat) (es:List Ed) (h1: -1<=N/\N<=5) (h2:len<=bE/\mW gs<=mh) (h3:l<=8) (h4:w'.ownsRow w.heap.size 39 4 (.slice L len cap) len (aq gs)/\w'.ownsRow w.heap.size 130 2 (.slice A l c) l (bK es)/\dQ w' g/\w.grownBy w' (some g)/\∀e∈es,e.ok):aeB w g bE mh (.returned (.tuple #[.slice L len cap,.agg #[iI N,.slice A l c]])) w':=
 ⟨L,len,cap,gs,N,A,l,c,es,rfl,h1,h2,h3,h4⟩
theorem ajG:(63:Nat)≠3:=ae
theorem hJ:(63:Nat)≠130:=ae
theorem amd:(74:Nat)≠39:=ae
theorem Kg:(74:Nat)≠130:=ae
theorem an2:(74:Nat)≠3:=ae
theorem sQ {w:World} {r T i:Nat} {cs:Array Value} {B e size n:Nat} {v:Value} {xs:List Value} (ho:w.ownsRow B e size v n xs) (h:au w r T cs) (hne:T≠e) (u:Value):(w.setCell (aA r i) u).ownsRow B e size v n xs:=by
 refine ho.kept (row:=some r) (cF (kO w (some r)) i u) ?_
 cases hv:v.ownBlock with
 |none=>exact .inl rfl
 |some k=>exact .inr (fun e1=>sP h ho hne k hv rm)
theorem fi {w:World} {r T:Nat} {z0 z1:Value} {B e size n:Nat} {v:Value} {xs:List Value} (ho:w.ownsRow B e size v n xs) (h:au w r T #[z0,z1]) (hne:T≠e) (a b:Value):((w.setCell (aA r 0) a).setCell (aA r 1) b).ownsRow B e size v n xs:=
 sQ (sQ ho h hne a) (h.aU 0 a) hne b
theorem FA {w w':World} {g:Nat} {B e size n:Nat} {v:Value} {xs:List Value} (ho:w.ownsRow B e size v n xs) (hC:dQ w g) (hne:(74:Nat)≠e) (hg:w.grownBy w' (some g)):w'.ownsRow B e size v n xs:=by
 obtain ⟨A,m,c,i,hh,bs,hB,_⟩:=hC;refine ho.kept hg ?_
 cases hv:v.ownBlock with
 |none=>exact .inl rfl
 |some k=>exact .inr (fun e1=>sP hB ho hne k hv rm)
def TG (w W:World) (r q:Nat) (N:Int) (A:OA) (l c:Nat) (es:List Ed):Prop:=
 Ext w W/\au W r 63 jC/\au W q 63 #[iI N,.slice A l c]/\W.ownsRow w.heap.size 130 2 (.slice A l c) l (bK es)/\w.heap.size<=r/\q≠r
section
variable {w W W':World} {r q g:Nat} {N:Int} {A:OA} {l c:Nat} {es:List Ed}
theorem TG.ext (h:TG w W r q N A l c es) (hx:Ext W W'):TG w W' r q N A l c es:=by
 obtain ⟨h1,h2,h3,h4,h5,h6⟩:=h
 exact ⟨h1.trans hx,h2.ext hx,h3.ext hx,aj h4 hx,h5,h6⟩
theorem TG.grown (h:TG w W r q N A l c es) (hC:dQ W g) (hg:W.grownBy W' (some g)) (hw:w.heap.size<=g) (hr:r≠g) (hq:q≠g):TG w W' r q N A l c es:=by
 obtain ⟨h1,h2,h3,h4,h5,h6⟩:=h
 exact ⟨h1.grown hg (fun k hk=>ay),h2.grown hg (fun k hk=>ay),h3.grown hg (fun k hk=>ay),FA h4 hC Kg hg,h5,h6⟩
theorem TG.gr (h:TG w W r q N A l c es):fB W W.heap.size (.agg #[iI N,.slice A l c]) ⟨N,es⟩/\es.length=l:=by
 have hr:=Rd.own h.2.2.2.1;have hl:=Rd.len (f:=Ed.cells) (fun _=>eX) aa hr;subst hl
 exact ⟨⟨A,c,rfl,hr⟩,rfl⟩
theorem TG.fin (h:TG w W r q N A l c es):
  (((W.setCell (aA r 0) (iI N)).setCell (aA r 1) (.slice A l c)).drew.cell? (aA r 0)=some (iI N)/\((W.setCell (aA r 0) (iI N)).setCell (aA r 1) (.slice A l c)).drew.cell? (aA r 1)=some (.slice A l c))/\
  ((W.setCell (aA r 0) (iI N)).setCell (aA r 1) (.slice A l c)).drew.ownsRow w.heap.size 130 2 (.slice A l c) l (bK es)/\Ext w ((W.setCell (aA r 0) (iI N)).setCell (aA r 1) (.slice A l c)).drew:=by
 obtain ⟨h1,h2,h3,h4,h5,h6⟩:=h;have hb:=h2.qz (iI N) (.slice A l c)
 exact ⟨⟨hb.cell 0,hb.cell 1⟩,aj (fi h4 h2 hJ _ _) (xZ _).drew,((h1.setCell h5 _).setCell h5 _).drew⟩
theorem Kh {P:Prop} (h:P:=by
 obtain ⟨h1,h2,h3,h4,h5,h6⟩:=h;have:=(h3.cB (p:=(aA r 0)) h6 (iI N)).cB (p:=(aA r 1)) h6 (.slice A l c)
 exact ⟨this.cell 0,this.cell 1⟩):P:=h
theorem TG.keep (h:TG w W r q N A l c es):((W.setCell (aA r 0) (iI N)).setCell (aA r 1) (.slice A l c)).drew.cell? (aA q 0)=some (iI N)/\((W.setCell (aA r 0) (iI N)).setCell (aA r 1) (.slice A l c)).drew.cell? (aA q 1)=some (.slice A l c):=by
 exact Kh
theorem TG.rows (h:TG w W r q N A l c es) {B e size n:Nat} {v:Value} {xs:List Value} (ho:W.ownsRow B e size v n xs) (hne:(63:Nat)≠e):((W.setCell (aA r 0) (iI N)).setCell (aA r 1) (.slice A l c)).drew.ownsRow B e size v n xs:=
 aj (fi ho h.2.1 hne _ _) (xZ _).drew
theorem TG.aCw (h:TG w W r q N A l c es):
  (((W.setCell (aA r 0) (iI N)).setCell (aA r 1) (.slice A l c)).cell? (aA r 0)=some (iI N)/\((W.setCell (aA r 0) (iI N)).setCell (aA r 1) (.slice A l c)).cell? (aA r 1)=some (.slice A l c))/\
  ((W.setCell (aA r 0) (iI N)).setCell (aA r 1) (.slice A l c)).ownsRow w.heap.size 130 2 (.slice A l c) l (bK es)/\Ext w ((W.setCell (aA r 0) (iI N)).setCell (aA r 1) (.slice A l c)):=by
 obtain ⟨h1,h2,h3,h4,h5,h6⟩:=h;have hb:=h2.qz (iI N) (.slice A l c)
 exact ⟨⟨hb.cell 0,hb.cell 1⟩,fi h4 h2 hJ _ _,(h1.setCell h5 _).setCell h5 _⟩
theorem TG.ayT (h:TG w W r q N A l c es):((W.setCell (aA r 0) (iI N)).setCell (aA r 1) (.slice A l c)).cell? (aA q 0)=some (iI N)/\((W.setCell (aA r 0) (iI N)).setCell (aA r 1) (.slice A l c)).cell? (aA q 1)=some (.slice A l c):=by
 exact Kh
theorem TG.ayU (h:TG w W r q N A l c es) {B e size n:Nat} {v:Value} {xs:List Value} (ho:W.ownsRow B e size v n xs) (hne:(63:Nat)≠e):((W.setCell (aA r 0) (iI N)).setCell (aA r 1) (.slice A l c)).ownsRow B e size v n xs:=
 fi ho h.2.1 hne _ _
end
def aeC (w:World) (bE mh:Nat) (e:Ending) (w':World):Prop:=
 ∃(L:OA) (len cap:Nat) (gs:List Gt) (N:Int) (A:OA) (l c:Nat) (es:List Ed),e=.returned (.tuple #[.slice L len cap,.agg #[iI N,.slice A l c]])/\(-1<=N/\N<=5)/\(len<=bE/\mW gs<=mh)/\l<=8/\w'.ownsRow w.heap.size 39 4 (.slice L len cap) len (aq gs)/\w'.ownsRow w.heap.size 130 2 (.slice A l c) l (bK es)/\(∀e∈es,e.ok)/\Ext w w'
theorem aeC.mk {w w':World} {bE mh:Nat} (L:OA) (len cap:Nat) (gs:List Gt) (N:Int) (A:OA) (l c:Nat) (es:List Ed) (h1: -1<=N/\N<=5) (h2:len<=bE/\mW gs<=mh) (h3:l<=8) (h4:w'.ownsRow w.heap.size 39 4 (.slice L len cap) len (aq gs)) (h5:w'.ownsRow w.heap.size 130 2 (.slice A l c) l (bK es)) (h6:∀e∈es,e.ok) (h7:Ext w w'):aeC w bE mh (.returned (.tuple #[.slice L len cap,.agg #[iI N,.slice A l c]])) w':=
 ⟨L,len,cap,gs,N,A,l,c,es,rfl,h1,h2,h3,h4,h5,h6,h7⟩
def aeD (w:World) (bE mh:Nat) (e:Ending) (w':World):Prop:=
 ∃(L:OA) (len cap:Nat) (gs:List Gt) (N:Int) (A:OA) (l c:Nat) (es:List Ed) (P:OA) (np cp:Nat) (p:List Int),e=.returned (.tuple #[.slice L len cap,.agg #[iI N,.slice A l c],.slice P np cp])/\(-1<=N/\N<=5)/\(len<=bE/\mW gs<=mh)/\l<=8/\np<=5/\w'.ownsRow w.heap.size 39 4 (.slice L len cap) len (aq gs)/\w'.ownsRow w.heap.size 130 2 (.slice A l c) l (bK es)/\w'.ownsRow w.heap.size 3 1 (.slice P np cp) np (aD p)/\(∀e∈es,e.ok)/\Ext w w'
theorem aeD.mk {w w':World} {bE mh:Nat} (L:OA) (len cap:Nat) (gs:List Gt) (N:Int) (A:OA) (l c:Nat) (es:List Ed) (P:OA) (np cp:Nat) (p:List Int) (h1: -1<=N/\N<=5) (h2:len<=bE/\mW gs<=mh) (h3:l<=8) (h33:np<=5) (h4:w'.ownsRow w.heap.size 39 4 (.slice L len cap) len (aq gs)) (h5:w'.ownsRow w.heap.size 130 2 (.slice A l c) l (bK es)) (h55:w'.ownsRow w.heap.size 3 1 (.slice P np cp) np (aD p)) (h6:∀e∈es,e.ok) (h7:Ext w w'):aeD w bE mh (.returned (.tuple #[.slice L len cap,.agg #[iI N,.slice A l c],.slice P np cp])) w':=
 ⟨L,len,cap,gs,N,A,l,c,es,P,np,cp,p,rfl,h1,h2,h3,h33,h4,h5,h55,h6,h7⟩
end Go.Proofs.YtodhjgngkkcjgaaGreatDoor
