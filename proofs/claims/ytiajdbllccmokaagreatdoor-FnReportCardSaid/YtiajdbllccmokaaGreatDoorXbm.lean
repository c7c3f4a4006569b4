import Derived.Test.YtiajdbllccmokaaGreatDoorXbl
namespace Go.Proofs.YtiajdbllccmokaaGreatDoor
open Go.ChangeShapes Go.WideShapes Go.ChangeAt Go.RowKit Go.Deep Go.Proofs.Tryz
set_option linter.unusedVariables false
set_option linter.unusedSimpArgs false
set_option maxRecDepth 100000
set_option maxHeartbeats 16000000
def Tr (sy:List Int) (k:Nat):List Gt:=(sy.take k).flatMap fun m=>dI m++[gz 7]
theorem Ys {sy:List Int} {k:Nat} {m:Int} (h:sy[k]?=some m):Tr sy (k+1)=(Tr sy k++dI m)++[gz 7]:=by
 unfold Tr;rw [aL h,lR,uE];simp
theorem ab0 (sy:List Int) (k:Nat):(Tr sy k).length<=3*sy.length:=by
 have h1:=Jn (sy.take k);have h2:(sy.take k).length<=sy.length:=fq
 unfold Tr;omega
structure MH (w0 W:World) (Y:OA) (n cy:Nat) (A:OA) (c:Nat) (Ao:OA) (lo co:Nat) (os:List Gt):Prop where
 b:ay W w0.heap.size 168 #[.slice Y n cy,iI 1,.slice A 2 c]
 o:W.ownsRow w0.heap.size 54 4 (.slice Ao lo co) lo (ak os)
 x:Ext w0 W
section
variable {w0 W W':World} {Y A Ao A':OA} {n cy c lo co l' c':Nat} {os os':List Gt}
theorem MH.ext (h:MH w0 W Y n cy A c Ao lo co os) (hx:Ext W W'):MH w0 W' Y n cy A c Ao lo co os:=⟨h.b.ext hx,aq h.o hx,h.x.trans hx⟩
theorem MH.u (h:MH w0 W Y n cy A c Ao lo co os) (ho:W'.ownsRow w0.heap.size 54 4 (.slice A' l' c') l' (ak os')) (hx:Ext w0 W') (hg:W.grownBy W' (Value.slice Ao lo co).ownBlock):MH w0 W' Y n cy A c A' l' c' os':=
 ⟨cQ h.b h.o ae hg,ho,hx⟩
end
theorem po (v:Value) (s:Nf) (w:World) (h:Ez w v s) (hn:s.sy.length<=400000000000) (hc:vD s.cl=true) (hy:Ow s.sy=true):
  Calls prog 125 #[v] w fun e w'=>(∃u,e=.returned u/\w'.ownsRow w.heap.size 54 4 u (Bb s).length (ak (Bb s)))/\Ext w w':=by
 have Ya:=hY h;obtain ⟨Y,cy,A,c,rfl,FE,Gd,QP,sg⟩:=h;obtain ⟨sy,cl⟩:=s;simp only at FE Gd QP hn hc hy;have Mo:=hY hc;have HVS:=hY hy;have adA:=fun k=>ab0 sy k
 have HPL:Hid (∀k,(Tr sy k).length<=1200000000000):=fun k=>oM (adA k)
 obtain ⟨n,vA⟩:=ex (sy.length);have HN:=hY vA;have Yb:(⟨sy,cl⟩:Nf).sy.length=n:=vA;rw [vA] at FE QP hn;have HRY:=hY FE;have Ti:=hY Gd;have dk:Hid (Ext w (w.alloc (cO #[.slice Y n cy,iI 1,.slice A 2 c] 168))):=(xZ w).alloc _;have ie:Hid (ay (w.alloc (cO #[.slice Y n cy,iI 1,.slice A 2 c] 168)) w.heap.size 168 #[.slice Y n cy,iI 1,.slice A 2 c]):=ay.new w _ _;rw [Yb] at Ya |-;clear FE Gd hc hy vA Yb adA;go_enter func125,ntmps125;go_upto_region 1 with fail;have hW1:(w.alloc (cO #[.slice Y n cy,iI 1,.slice A 2 c] 168)).heap.size=w.heap.size+1:=bQ _ _;generalize w.alloc (cO #[.slice Y n cy,iI 1,.slice A 2 c] 168)=W1 at*
 go_upto_region 2 with fail;have zw:Hid (MH w (W1.alloc (cO #[] 54)) Y n cy A c (some ⟨w.heap.size+1,0,none⟩) 0 0 (Tr sy 0)):=⟨ie.u.alloc _,(by have h9:=aJ w W1 54 4 dk.u;rw [hW1] at h9;exact h9),dk.u.alloc _⟩;clear dk ie;generalize W1.alloc (cO #[] 54)=W2 at*
 obtain ⟨⟨b0,b1,b2⟩,-⟩:=cV zw.u.b;go_wp2_with fail;refine (hZ _ ⟨sy,cl⟩ _ (Ya.u.ext zw.u.x) (by show sy.length<=_;rw [HN.u];omega) Mo.u HVS.u).mono ?_;rintro e w3 ⟨rfl,bT⟩;have zx:=hY (zw.u.ext bT);clear bT zw b0 b1 b2 hW1;go_wp2
 go_loopw [3,4] (fun ov iv wr=>∃(k:Nat) (Ao:OA) (co:Nat),k<=n/\iv=iI k/\ov=.slice Ao (Tr sy k).length co/\Hid (MH w wr Y n cy A c Ao (Tr sy k).length co (Tr sy k))) (fun _ i _=>n - (intOf i).toNat)
 case atStart=>exact ⟨0,_,0,lJ _,rfl,rfl,zx⟩
 case round=>
  clear zx;obtain ⟨k,Ao,co,hk,rfl,rfl,HS⟩:=hrel;obtain ⟨⟨b0,b1,b2⟩,-⟩:=cV HS.u.b;have xq:=HPL.u k;obtain ⟨lo,rr⟩:=ex ((Tr sy k).length);have DU:=hY rr;rw [rr] at HS xq |-;clear rr
  by_cases bh:k<n
  ·obtain ⟨m,hm⟩:∃m,sy[k]?=some m:=⟨_,lB (by rw [HN.u];exact bh)⟩;have HP:=hY (Ys hm);obtain ⟨b,o,x,rfl,hb,hx,JU⟩:=eT (HRY.u.ext HS.u.x) bh;rw [hm] at hx
   cases hx
   have bS:=hY bh;have Rg:=tu m;have dP:=hY (wC k aa);clear hm hb;go_wp2_with fail;refine (ek m _).mono ?_;rintro e w5 ⟨⟨v5,rfl,jM⟩,cN⟩;obtain ⟨A5,c5,rfl,Fx⟩:=au jM;have HS5:=hY (HS.u.ext cN);have Ay:=hY Fx;clear cN jM Fx HS b0 b1 b2 JU;go_wp2_with (at_builtin;refine cU (w0:=w) rfl _ _ rfl _ _ _ rfl HS5.u.o HS5.u.x A5 _ c5 _ rfl Ay.u aa ?_;intro v6 w6 t1 t2 t3 t4;obtain ⟨A6,c6,rfl,-⟩:=au t1;have sx:=hY (HS5.u.u t1 t2 t3);clear t1 t2 t3 t4)
   refine (aM 7 0 _ (xZ _)).mono ?_;rintro e w7 ⟨rfl,gJ⟩;have BL:=hY (sx.u.ext gJ);clear gJ sx HS5;go_wp2_with (at_builtin;refine er (w0:=w) rfl _ _ rfl _ _ _ rfl BL.u.o BL.u.x (gz 7) _ _ rfl rfl aa ?_;intro v9 w9 t1 t2 t3 t4;obtain ⟨A9,c9,rfl,-⟩:=au t1;have HS9:=hY ((BL.u.ext ((xZ _).alloc _)).u t1 t2 t3);clear t1 t2 t3 t4)
   go_roundw
   case rel=>exact ⟨k+1,A9,c9,oM bS.u,by first|rfl|rw [dP.u.1]|rw [dP.u.2],by rw [HP.u,lA,lA,DU.u];rfl,by rw [HP.u,lA,lA,DU.u];exact HS9⟩
   case measure=>simp [intOf,dP.u.2];have:=bS.u;omega
  ·have jT:k=n:=aa
   subst jT;have Yk:Hid (Tr sy k=(sy.flatMap fun m=>dI m++[gz 7])):=by unfold Hid Tr;rw [lE (by rw [HN.u];exact lI _)]
   have hcl:=Jm cl;go_wp2_with fail;refine (se A c cl _ (Ti.u.ext HS.u.x) sg Mo.u).mono ?_;rintro e w7 ⟨⟨v7,rfl,Ai⟩,gJ⟩;obtain ⟨A7,c7,rfl,BB⟩:=au Ai;have fF:=hY (lQ (HS.u.ext gJ).o (lQ (HS.u.ext gJ).x BB));clear gJ Ai BB;go_wp2_with (at_builtin;refine cU (w0:=w) rfl _ _ rfl _ _ _ rfl fF.u.1 fF.u.2.1 A7 _ c7 _ rfl fF.u.2.2 aa ?_;intro v9 w9 g1 g2 g3 g4;have HO:=hY (lQ g1 g2);clear g1 g2 g3 g4)
   go_ret;refine ⟨⟨_,rfl,?_⟩,HO.u.2⟩;have h9:=HO.u.1;rw [Yk.u] at h9;have h8:=DU.u;rw [Yk.u] at h8;unfold Bb;rw [lA,h8]
   exact h9
def Ts (a:Int) (g:Gt):Bool:=ar g.k==1 && vg g 4 && g.a==a
theorem Rh (xs:List Gt):aa7 xs=xs.all (Ts (xs.headD ⟨0,0,0,0⟩).a):=rfl
theorem ab1 {gs:List Gt} {k:Nat} {x x0:Gt} (h0:gs[0]?=some x0) (hx:gs[k]?=some x) (h:Ts x0.a x=false):short gs=gs:=by
 have h1:aa7 gs=false:=by
  rw [Rh];have e:(gs.headD ⟨0,0,0,0⟩)=x0:=by
   cases gs with
   |nil=>cases h0
   |cons y ys=>cases h0;rfl
  rw [e]
  cases ha:gs.all (Ts x0.a)
  ·rfl
  ·rw [kc.1 ha x (lG hx)] at h
   cases h
 unfold short;rw [h1];rfl
theorem Tt {gs:List Gt} (h:¬2<=gs.length):short gs=gs:=by
 unfold short;rw [aK];simp only [lF,lu]
 exact fun h1=>h h1.1.2
theorem Pn {gs:List Gt} (h:lf gs<=lf (Bb (wu (gs.map Gt.k)))):short gs=gs:=by
 unfold short;rw [aK];simp only [lF,lu]
 exact fun h1=>oM h1.2
theorem Tu {gs:List Gt} (h1:aa7 gs=true) (h2:2<=gs.length) (h:¬lf gs<=lf (Bb (wu (gs.map Gt.k)))):short gs=DE gs:=by
 unfold short;rw [aX];simp only [lF,lu]
 exact ⟨⟨h1,h2⟩,aa⟩
theorem zF {α:Type} {f:α->Bool} {gs:List α} {k:Nat} {g:α} (h:gs[k]?=some g) (ha:(gs.take k).all f=true) (hc:f g=true):(gs.take (k+1)).all f=true:=by
 rw [aL h,nX,ha];simp [hc]
theorem alm {a:Int} {g:Gt} (h:Ts a g=true):1<=g.k/\g.k<=8:=by
 unfold Ts at h;simp only [lF,dc] at h;have h4:=h.1.1;unfold ar at h4;split at h4
 ·assumption
 ·split at h4
  ·omega
  ·split at h4<;>omega
theorem Tv {w:World} {B g n c:Nat} {xs:List Gt} {i:Nat} {x:Gt} (h:w.ownsRow B 54 4 (.slice (some ⟨g,0,none⟩) n c) n (ak xs)) (hx:xs[i]?=some x) (v:Int):
  (w.setCell (aA g (i*4+1)) (iI v)).ownsRow B 54 4 (.slice (some ⟨g,0,none⟩) n c) n (ak (xs.set i ⟨x.k,v,x.b,x.c⟩)):=by
 have h1:=(h.stored (i*4+1) (iI v)).1;have e:∀(xs:List Gt) (i:Nat),xs[i]?=some x->(ak xs).set (i*4+1) (iI v)=ak (xs.set i ⟨x.k,v,x.b,x.c⟩):=by
  intro xs
  induction xs with
  |nil=>intro i hi;simp at hi
  |cons y ys ih=>
   intro i hi
   cases i with
   |zero=>simp at hi;subst hi;rfl
   |succ i=>
    have e1:(i+1)*4+1=i*4+1+1+1+1+1:=aa
    rw [e1];simp only [ak,fK,Gt.cells,nY,lN,Nn,Up,true_and]
    exact ih i (sU hi)
 rw [e xs i hx] at h1
 exact h1
def zG (a:Int) (os:List Gt) (k:Nat):List Gt:=(os.take k).map (fun g=>⟨g.k,a,g.b,g.c⟩)++os.drop k
theorem ab2 {a:Int} {os:List Gt} {k:Nat} (hk:k<os.length):(zG a os k)[k]?=some os[k]:=by
 unfold zG;rw [yL (by rw [jk,lT];omega),jk,lT,show k - min k os.length=0 by omega,xw,qY]
 exact lB hk
theorem Yt {a:Int} {os:List Gt} {k:Nat} (hk:k<os.length):(zG a os k).set k ⟨os[k].k,a,os[k].b,os[k].c⟩=zG a os (k+1):=by
 unfold zG;rw [aL (lB hk),mf,xv hk,Nj _ _ (by rw [jk,lT];omega),jk,lT,show k - min k os.length=0 by omega,List.set_cons_zero,uE];rfl
theorem aqt (a:Int) (os:List Gt):zG a os 0=os:=rfl
theorem MI (a:Int) (os:List Gt):zG a os os.length=os.map (fun g=>⟨g.k,a,g.b,g.c⟩):=by
 unfold zG;rw [jt,List.drop_length,qZ]
theorem atr (ks:List Int) (k:Nat):ks.take k=ks.take k:=rfl
theorem Fe {P:Prop} (h:P:=by
 simp only [fW,iO] at he;obtain ⟨rfl,rfl,-⟩:=he;rw [hxh] at hy
 cases hy
 rw [Iz,qY] at y1
 exact y1):P:=h
theorem mq (A:OA) (n c:Nat) (gs:List Gt) (w:World) (h:Rd w w.heap.size 4 A n (ak gs)) (hn:n<=400000000000):
  Calls prog 109 #[.slice A n c] w fun e w'=>(∃v,e=.returned v/\w'.ownsRow w.heap.size 54 4 v (short gs).length (ak (short gs)))/\Ext w w':=by
 have dB:=hY (h.len Gt.aE aa);have HR:=hY h;clear h;go_enter func109,ntmps109;go_upto_region 2 with (at_builtin;refine cU (w0:=w) rfl _ _ rfl _ 0 [] rfl (aJ w w _ 4 (xZ _)) ((xZ w).alloc _) A n c gs rfl (HR.u.ext ((xZ _).alloc _)) aa ?_;intro v1 w1 g1 g2 g3 g4;rw [lM,lN] at g1;obtain ⟨As,cs,rfl,-⟩:=au g1;have HSM:=hY g1;have dk:=hY g2;clear g1 g2 g3 g4)
 have HZ0:Hid ((w1.alloc (cO #[] 54)).ownsRow w1.heap.size 54 4 (.slice (some ⟨w1.heap.size,0,none⟩) 0 0) 0 (ak (((gs.take 0).map Gt.k).map gz))/\Ext w1 (w1.alloc (cO #[] 54))):=⟨aJ w1 w1 _ 4 (xZ _),(xZ w1).alloc _⟩;have aln:Hid ((gs.take 0).all (Ts (gs.headD ⟨0,0,0,0⟩).a)=true):=rfl;go_upto_region 3 with fail;go_wp2
 go_loopw [4,5] (fun zv iv wr=>∃(k:Nat) (Az:OA) (cz:Nat),k<=n/\iv=iI k/\zv=.slice Az k cz/\Hid ((gs.take k).all (Ts (gs.headD ⟨0,0,0,0⟩).a)=true)/\Hid (wr.ownsRow w1.heap.size 54 4 (.slice Az k cz) k (ak (((gs.take k).map Gt.k).map gz))/\Ext w1 wr)) (fun _ i _=>n - (intOf i).toNat)
 case atStart=>exact ⟨0,_,0,lJ _,rfl,rfl,aln,HZ0⟩
 case round=>
  clear HZ0 aln;obtain ⟨k,Az,cz,hk,rfl,rfl,BP,HZ⟩:=hrel
  by_cases bh:k<n
  ·skip;obtain ⟨b,o,x,rfl,-,hx,x0,x1,x2,x3⟩:=bE (HR.u.ext (dk.u.trans HZ.u.2)) bh;obtain ⟨xh,hxh⟩:∃xh,gs[0]?=some xh:=⟨_,lB iP⟩;have bS:=hY bh;have tG:=hY (lQ hx hxh);have MW:0<n:=aa
   have HK0:Hid (∀w',Ext w w'->w'.cell? (aA b (o+1))=some (iI xh.a)):=fun w' rF=>by
    obtain ⟨b2,o2,y,he,-,hy,-,y1,-⟩:=bE (HR.u.ext rF) MW
    exact Fe
   have dP:=hY (wC k aa);clear hx hxh;go_upto_region 7 with fail;have HZ6:Hid ((wr.alloc (cO (gA x) 54)).ownsRow w1.heap.size 54 4 (.slice Az k cz) k (ak (((gs.take k).map Gt.k).map gz))/\Ext w1 (wr.alloc (cO (gA x) 54))):=⟨HZ.u.1.alloc _,HZ.u.2.alloc _⟩;have FD:=hY (ay.new wr 54 (gA x));clear HZ x0 x1 x2 x3;generalize wr.heap.size=gq at*
   generalize wr.alloc (cO (gA x) 54)=W6 at*
   have HK7:Hid (∀w',Ext W6 w'->(w'.cell? (aA gq 0)=some (iI x.k)/\w'.cell? (aA gq 1)=some (iI x.a)/\w'.cell? (aA gq 2)=some (iI x.b)/\w'.cell? (aA gq 3)=some (iI x.c))/\w'.cell? (aA b (o+1))=some (iI xh.a)):=fun w' rF=>⟨(aB (FD.u.ext rF)).1,HK0.u _ ((dk.u.trans HZ6.u.2).trans rF)⟩
   have HVG:Hid (∀w',Calls prog 72 #[.agg (gA x),iI 4] w' fun e w''=>e=.returned (.bool (vg x 4))/\Ext w' w''):=fun w'=>bj x 4 w'
   go_cut [42] (fun s42 wx=>∃bb:Bool,s42=.bool bb/\bb=(!(Ts xh.a x))/\Ext W6 wx)
   case first=>
    by_cases eM:ar x.k=1
    ·have e1:(ar x.k==1)=true:=sU eM
     have e2:(ar x.k !=1)=false:=sU eM
     cases hv:vg x 4
     ·skip;refine dm (S:=(fun w'=>(w'.cell? (aA gq 0)=some (iI x.k)/\w'.cell? (aA gq 1)=some (iI x.a)/\w'.cell? (aA gq 2)=some (iI x.b)/\w'.cell? (aA gq 3)=some (iI x.c))/\w'.cell? (aA b (o+1))=some (iI xh.a))) af (HK7.u _ (xZ W6).drew) (fun ay4=>?_);refine tq 0 ?_;refine tq 1 ?_;refine o1 2 fun K hK=>?_
      go_simp;refine (aY x.k _).mono ?_;rintro e wq ⟨rfl,rfl⟩;refine ov hK (HK7.u _ (xZ _).drew) fun ay4=>?_
      refine tq 3 ?_;refine tq 4 ?_;refine tq 5 ?_;refine o1 6 fun K hK=>?_
      go_simp;refine (HVG.u _).mono ?_;rintro e w7 ⟨rfl,gJ⟩;have eQ:Ext W6 w7:=Ext.trans (xZ W6).drew gJ;rw [hv];refine ov hK (HK7.u _ eQ) fun ay4=>?_
      refine tq 7 ?_;refine tq 8 ?_;refine tq 9 ?_;refine sk 10 ?_;refine sk 11 ?_;refine sk 12 ?_;refine sk 13 ?_;refine sk 14 ?_;refine sk 15 ?_;refine sk 16 ?_;refine tq 17 ?_;refine dn ?_;go_wp2_with fail
      go_meet
      exact ⟨_,rfl,by unfold Ts;simp [eM,hv],eQ⟩
     ·skip;refine dm (S:=(fun w'=>(w'.cell? (aA gq 0)=some (iI x.k)/\w'.cell? (aA gq 1)=some (iI x.a)/\w'.cell? (aA gq 2)=some (iI x.b)/\w'.cell? (aA gq 3)=some (iI x.c))/\w'.cell? (aA b (o+1))=some (iI xh.a))) af (HK7.u _ (xZ W6).drew) (fun ay4=>?_);refine tq 0 ?_;refine tq 1 ?_;refine o1 2 fun K hK=>?_
      go_simp;refine (aY x.k _).mono ?_;rintro e wq ⟨rfl,rfl⟩;refine ov hK (HK7.u _ (xZ _).drew) fun ay4=>?_
      refine tq 3 ?_;refine tq 4 ?_;refine tq 5 ?_;refine o1 6 fun K hK=>?_
      go_simp;refine (HVG.u _).mono ?_;rintro e w7 ⟨rfl,gJ⟩;have eQ:Ext W6 w7:=Ext.trans (xZ W6).drew gJ;rw [hv];refine ov hK (HK7.u _ eQ) fun ay4=>?_
      refine tq 7 ?_;refine tq 8 ?_;refine tq 9 ?_;refine tq 10 ?_;refine tq 11 ?_;refine tq 12 ?_;refine tq 13 ?_;refine tq 14 ?_;refine tq 15 ?_;refine tq 16 ?_;refine tq 17 ?_;refine dn ?_;go_wp2_with fail
      go_meet
      exact ⟨_,rfl,by unfold Ts;simp [eM,hv,bne],eQ⟩
    ·have e1:(ar x.k==1)=false:=sU eM
     have e2:(ar x.k !=1)=true:=sU eM
     refine dm (S:=(fun w'=>(w'.cell? (aA gq 0)=some (iI x.k)/\w'.cell? (aA gq 1)=some (iI x.a)/\w'.cell? (aA gq 2)=some (iI x.b)/\w'.cell? (aA gq 3)=some (iI x.c))/\w'.cell? (aA b (o+1))=some (iI xh.a))) af (HK7.u _ (xZ W6).drew) (fun ay4=>?_);refine tq 0 ?_;refine tq 1 ?_;refine o1 2 fun K hK=>?_
     go_simp;refine (aY x.k _).mono ?_;rintro e wq ⟨rfl,rfl⟩;refine ov hK (HK7.u _ (xZ _).drew) fun ay4=>?_
     refine tq 3 ?_;refine tq 4 ?_;refine sk 5 ?_;refine sk 6 ?_;refine sk 7 ?_;refine tq 8 ?_;refine tq 9 ?_;refine sk 10 ?_;refine sk 11 ?_;refine sk 12 ?_;refine sk 13 ?_;refine sk 14 ?_;refine sk 15 ?_;refine sk 16 ?_;refine tq 17 ?_;refine dn ?_;go_wp2_with fail
     go_meet
     exact ⟨_,rfl,by unfold Ts;simp [eM],(xZ W6).drew⟩
   case rest=>
    obtain ⟨bb,rfl,Kp,gJ⟩:=hcut;have HZ7:Hid (wc.ownsRow w1.heap.size 54 4 (.slice Az k cz) k (ak (((gs.take k).map Gt.k).map gz))/\Ext w1 wc):=⟨aq HZ6.u.1 gJ,HZ6.u.2.trans gJ⟩;have Ge:=hY (FD.u.ext gJ);clear HZ6 FD gJ HK7 HVG
    cases bb
    ·have FR:Hid (Ts xh.a x=true):=by simpa [Hid] using Kp
     clear Kp;obtain ⟨⟨g0,g1,g2,g3⟩,-⟩:=aB Ge.u;go_wp2_with fail;refine (aM x.k 0 _ (xZ _)).mono ?_;rintro e w8 ⟨rfl,zW⟩;have HZ8:Hid (w8.ownsRow w1.heap.size 54 4 (.slice Az k cz) k (ak (((gs.take k).map Gt.k).map gz))/\Ext w1 w8):=⟨aq HZ7.u.1 zW,HZ7.u.2.trans zW⟩;clear HZ7 Ge zW g0 g1 g2 g3;have HTS:Hid (((gs.take (k+1)).map Gt.k).map gz=((gs.take k).map Gt.k).map gz++[gz x.k]):=by unfold Hid;rw [aL tG.u.1];simp
     have JX:Hid ((gs.take (k+1)).all (Ts (gs.headD ⟨0,0,0,0⟩).a)=true):=by
      have e:(gs.headD ⟨0,0,0,0⟩)=xh:=by
       have h9:=tG.u.2
       cases gs with
       |nil=>cases h9
       |cons y ys=>cases h9;rfl
      exact zF tG.u.1 BP.u (by rw [e];exact FR.u)
     go_wp2_with (at_builtin;refine er (w0:=w1) rfl _ _ rfl _ _ _ rfl HZ8.u.1 HZ8.u.2 (gz x.k) _ _ rfl rfl aa ?_;intro v9 w9 t1 t2 t3 t4;obtain ⟨A9,c9,rfl,-⟩:=au t1;have Yu:=hY (lQ t1 t2);clear t1 t2 t3 t4)
     go_roundw
     case rel=>exact ⟨k+1,A9,c9,oM bS.u,by first|rfl|rw [dP.u.1]|rw [dP.u.2],rfl,JX,by rw [HTS.u];exact Yu⟩
     case measure=>simp [intOf,dP.u.2];have:=bS.u;omega
    ·have HV:Hid (short gs=gs):=ab1 tG.u.2 tG.u.1 (sU Kp);have eQ:Hid (Ext w1 wc):=HZ7.u.2;clear Kp;go_wp2_with fail;go_ret;rw [HV.u,dB.u]
     exact ⟨⟨_,rfl,aq HSM.u eQ.u⟩,dk.u.trans eQ.u⟩
  ·skip;have jT:k=n:=aa
   subst jT;have HTK:Hid (gs.take k=gs):=lE gh;rw [HTK.u] at BP HZ
   by_cases GC:k<2
   ·have Fs:decide ((k:Int)<2)=true:=aj
    have HV:Hid (short gs=gs):=Tt iP;go_wp2_with fail;go_ret;rw [HV.u,dB.u]
    exact ⟨⟨_,rfl,aq HSM.u HZ.u.2⟩,dk.u.trans HZ.u.2⟩
   ·have Fs:decide ((k:Int)<2)=false:=aj
    have HKS:Hid (∀m∈gs.map Gt.k,1<=m/\m<=8):=fun m hm=>by
     obtain ⟨g,hg,rfl⟩:=zM.1 hm
     exact alm (kc.1 BP.u g hg)
    have Tw:=By HKS.u _ (lI _);rw [jt,jk,dB.u] at Tw;replace Tw:=hY Tw;have HRZ:=hY (Rd.own HZ.u.1);go_wp2_with fail;refine (nJ Az k cz (gs.map Gt.k) _ HRZ.u aa HKS.u).mono ?_;rintro e w5 ⟨bz,cN⟩;unfold Hy at bz;obtain ⟨v5,rfl,bc⟩:=bz;have iN:Hid (Ext w1 w5):=HZ.u.2.trans cN;have TP:=bc.at_;obtain ⟨Y,cY,AA,cA,rfl,-⟩:=id TP;have HAT:=hY TP;have hlen:=Tw.u.l;generalize hnf:wu (gs.map Gt.k)=nf at*
    have Ya:=hY hnf;obtain ⟨l,hl⟩:=ex (nf.sy.length);have Bn:=hY hl;rw [hl] at HAT hlen |-;clear bc TP cN HZ HRZ hnf hl;go_upto_region 13 with fail;have HBN:=hY (ay.new w5 168 #[.slice Y l cY,iI 1,.slice AA 2 cA]);have dG:=hY (iN.u.alloc (cO #[.slice Y l cY,iI 1,.slice AA 2 cA] 168));have alo:=hY (HAT.u.ext ((xZ _).alloc (cO #[.slice Y l cY,iI 1,.slice AA 2 cA] 168)));clear iN HAT;generalize w5.heap.size=gN at*
    generalize w5.alloc (cO #[.slice Y l cY,iI 1,.slice AA 2 cA] 168)=W6 at*
    obtain ⟨⟨b0,b1,b2⟩,-⟩:=cV HBN.u;go_wp2_with fail;refine (po _ nf _ alo.u (by rw [Bn.u];omega) Tw.u.c Tw.u.y).mono ?_;rintro e w7 ⟨⟨v7,rfl,Ai⟩,gJ⟩;obtain ⟨Ao,co,rfl,-⟩:=au Ai;have SW:=LM nf;rw [Bn.u] at SW;obtain ⟨os,hos⟩:=ex (Bb nf);have HOS:=hY hos;rw [hos] at Ai SW |-;obtain ⟨m,hm⟩:=ex (os.length);have HM:=hY hm;rw [hm] at Ai SW |-;have fF:Hid (w7.ownsRow w.heap.size 54 4 (.slice Ao m co) m (ak os)/\Ext w1 w7):=⟨aC Ai (dk.u.trans dG.u).size,dG.u.trans gJ⟩;clear Ai gJ hos hm b0 b1 b2 HBN dG alo;have Gc:=hY (Rd.own fF.u.1);go_wp2_with fail;refine (pN Ao m co os _ Gc.u aa).mono ?_;rintro e w8 ⟨rfl,zW⟩;have vE:Hid (w8.ownsRow w.heap.size 54 4 (.slice Ao m co) m (ak os)/\Ext w1 w8):=⟨aq fF.u.1 zW,fF.u.2.trans zW⟩;clear zW fF Gc;have HRG:=hY (HR.u.ext (dk.u.trans vE.u.2));go_wp2_with fail;refine (pN A k c gs _ HRG.u aa).mono ?_;rintro e w9 ⟨rfl,tA⟩;have kN:Hid (w9.ownsRow w.heap.size 54 4 (.slice Ao m co) m (ak os)/\Ext w1 w9):=⟨aq vE.u.1 tA,vE.u.2.trans tA⟩;clear tA vE HRG
    by_cases yA:lf gs<=lf os
    ·have hd3:decide ((lf gs:Int)<=(lf os:Int))=true:=aj
     have Sz:decide ((lf os:Int)>=(lf gs:Int))=true:=aj
     have HV:Hid (short gs=gs):=Pn (by rw [Ya.u,HOS.u];exact yA);go_wp2_with fail;go_ret;rw [HV.u,dB.u]
     exact ⟨⟨_,rfl,aq HSM.u kN.u.2⟩,dk.u.trans kN.u.2⟩
    ·have hd3:decide ((lf gs:Int)<=(lf os:Int))=false:=aj
     have Sz:decide ((lf os:Int)>=(lf gs:Int))=false:=aj
     have HV:Hid (short gs=zG (gs.headD ⟨0,0,0,0⟩).a os m):=by
      unfold Hid;rw [Tu (by rw [Rh];exact BP.u) iP (by rw [Ya.u,HOS.u];exact yA),<-HM.u,MI];unfold DE;rw [Ya.u,HOS.u]
     have rE:0<k:=aa
     obtain ⟨b,o,xh,rfl,-,hxh,-⟩:=bE HR.u rE;have TQ:Hid ((gs.headD ⟨0,0,0,0⟩).a=xh.a):=by
      cases gs with
      |nil=>cases hxh
      |cons y ys=>cases hxh;rfl
     rw [TQ.u] at HV;have HK0:Hid (∀w',Ext w w'->w'.cell? (aA b (o+1))=some (iI xh.a)):=fun w' rF=>by
      obtain ⟨b2,o2,y,he,-,hy,-,y1,-⟩:=bE (HR.u.ext rF) rE
      exact Fe
     have py:=hY rE;have hmb:m<=2000000000000:=aa
     have nN:Hid (w9.ownsRow w.heap.size 54 4 (.slice Ao m co) m (ak (zG xh.a os 0))/\Ext w w9):=⟨kN.u.1,dk.u.trans kN.u.2⟩;clear kN hxh hlen SW;have hd5:decide (lf gs<=lf os)=false:=aj
     go_wp2;clear yA hd3 Sz hd5 GC Fs
     go_loopw [10] (fun iv wr=>∃j:Nat,j<=m/\iv=iI j/\Hid (wr.ownsRow w.heap.size 54 4 (.slice Ao m co) m (ak (zG xh.a os j))/\Ext w wr)) (fun i _=>m - (intOf i).toNat)
     case atStart=>exact ⟨0,lJ _,rfl,nN⟩
     case round=>
      clear nN;obtain ⟨j,hj,rfl,HO⟩:=hrel
      by_cases hjm:j<m
      ·obtain ⟨go,rfl,-⟩:=kS HO.u.1 aa;have KD:j<os.length:=by rw [HM.u];exact hjm
       have HJM:=hY hjm;have y1:=HK0.u _ HO.u.2;have PQ:=HO.u.1.frozenAt (j*4+1);obtain ⟨b3,o3,y,he,-,hy,-,z1,-⟩:=bE (Rd.own HO.u.1) hjm;simp only [fW,iO] at he;obtain ⟨rfl,rfl,-⟩:=he;rw [lM] at z1;have QX:Hid ((wr.setCell (aA go (j*4+1)) (iI xh.a)).ownsRow w.heap.size 54 4 (.slice (some ⟨go,0,none⟩) m co) m (ak (zG xh.a os (j+1)))/\Ext w (wr.setCell (aA go (j*4+1)) (iI xh.a))):=by
        refine ⟨?_,HO.u.2.setCell (p:=(aA go (j*4+1))) (HO.u.1.lt go rfl).1 _⟩;have h9:=Tv HO.u.1 (ab2 KD) xh.a;rw [Yt KD] at h9
        exact h9
       have dP:=hY (wC j aa);clear hy KD HO;go_wp2;go_roundw
       case rel=>exact ⟨j+1,oM HJM.u,by first|rfl|rw [dP.u.1]|rw [dP.u.2],QX⟩
       case measure=>simp [intOf,dP.u.2];have:=HJM.u;omega
      ·have Qa:j=m:=aa
       subst Qa;have HFL:Hid ((zG xh.a os j).length=j):=by unfold Hid;rw [<-HM.u,MI,jk]
       go_wp2;go_ret;rw [HV.u,HFL.u]
       exact ⟨⟨_,rfl,HO.u.1⟩,HO.u.2⟩
def JZ (vs:Nat->Value) (q:Nat) (v:Value):Nat->Value:=fun i=>if i=q then v else vs i
theorem oC (vs:Nat->Value) (q:Nat) (v:Value):JZ vs q v q=v:=aX rfl
theorem mG {vs:Nat->Value} {p q:Nat} {v:Value} (h:p≠q):JZ vs q v p=vs p:=aK h
theorem Yv (r:Nat->List Gt) (q:Nat) (xs:List Gt):Ks r q xs q=xs:=aX rfl
theorem Yw {r:Nat->List Gt} {p q:Nat} {xs:List Gt} (h:p≠q):Ks r q xs p=r p:=aK h
theorem Ff {w:World} {g k t u:Nat} {cs ds:Array Value} (h:ay w g t cs) (h':ay w k u ds) (he:t≠u):g≠k:=by
 rintro rfl;unfold ay at h h';rw [h] at h';simp only [fW,Obj.cells.injEq] at h'
 exact he h'.2.1
structure SR (w0 W:World) (gR:Nat) (vo:Value) (os:List Gt) (vs:Nat->Value) (r:Nat->List Gt):Prop where
 b:ay W gR 37 #[vs 0,vs 1,vs 2,vs 3]
 o:W.ownsRow w0.heap.size 54 4 vo os.length (ak os)
 row:∀q,q<4->W.ownsRow w0.heap.size 54 4 (vs q) (r q).length (ak (r q))
 no:∀q,q<4->∀b,(vs q).ownBlock=some b->vo.ownBlock≠some b
 nn:∀p q,p<4->q<4->p≠q->∀b,(vs p).ownBlock=some b->(vs q).ownBlock≠some b
 x:Ext w0 W
 le:w0.heap.size<=gR
section
variable {w0 W W':World} {gR q:Nat} {vo vo' v':Value} {os os' xs:List Gt} {vs:Nat->Value} {r:Nat->List Gt}
theorem SR.ext (h:SR w0 W gR vo os vs r) (hx:Ext W W'):SR w0 W' gR vo os vs r:=
 ⟨h.b.ext hx,aq h.o hx,fun q hq=>aq (h.row q hq) hx,h.no,h.nn,h.x.trans hx,h.le⟩
theorem SR.cell (h:SR w0 W gR vo os vs r) (hq:q<4):W.cell? (aA gR q)=some (vs q):=by
 rw [h.b.cell q];rcases (show q=0\/q=1\/q=2\/q=3 by omega) with rfl|rfl|rfl|rfl<;>rfl
theorem none_or {a row:Option Nat} (h:∀b,a=some b->row≠some b):a=none\/a≠row:=by
 cases a with
 |none=>exact .inl rfl
 |some b=>exact .inr (fun e=>h b rfl e.symm)
theorem Ri (hb:ay W gR 37 #[vs 0,vs 1,vs 2,vs 3]) (hq:q<4) (u:Value):ay (W.setCell (aA gR q) u) gR 37 #[JZ vs q u 0,JZ vs q u 1,JZ vs q u 2,JZ vs q u 3]:=by
 have h9:=hb.ba q u;rcases (show q=0\/q=1\/q=2\/q=3 by omega) with rfl|rfl|rfl|rfl<;>exact h9
theorem SR.app (h:SR w0 W gR vo os vs r) (hq:q<4) (ho:W'.ownsRow w0.heap.size 54 4 v' xs.length (ak xs)) (hg:W.grownBy W' (vs q).ownBlock) (hx:Ext w0 W') (hb:v'.ownBlock=(vs q).ownBlock\/v'.ownBlock=some W.heap.size):
  SR w0 (W'.setCell (aA gR q) v') gR vo os (JZ vs q v') (Ks r q xs):=by
 have hB:ay W' gR 37 #[vs 0,vs 1,vs 2,vs 3]:=cQ h.b (h.row q hq) ae hg;have hO:W'.ownsRow w0.heap.size 54 4 vo os.length (ak os):=h.o.kept hg (none_or (fun b e e2=>h.no q hq b e2 e));refine ⟨Ri hB hq v',fI hO hB ae _ _,fun p hp=>?_,fun p hp b e=>?_,fun p p' hp hp' hne b e=>?_,hx.setCell (p:=(aA gR q)) h.le _,h.le⟩
 ·by_cases zT:p=q
  ·subst zT;rw [oC,Yv]
   exact fI ho hB ae _ _
  ·rw [mG zT,Yw zT]
   exact fI ((h.row p hp).kept hg (none_or (fun b e=>h.nn p q hp hq zT b e))) hB ae _ _
 ·by_cases zT:p=q
  ·subst zT;rw [oC] at e;rcases hb with hb|hb
   ·exact h.no p hp b (hb ▸ e)
   ·rw [hb] at e
    cases e
    intro e2;have:=(h.o.lt _ e2).2;omega
  ·rw [mG zT] at e
   exact h.no p hp b e
 ·have key:∀p,p<4->p≠q->∀b,(vs p).ownBlock=some b->v'.ownBlock≠some b:=fun p hp zT b e e2=>by
   rcases hb with hb|hb
   ·exact h.nn p q hp hq zT b e (hb ▸ e2)
   ·rw [hb] at e2
    cases e2
    have:=((h.row p hp).lt _ e).2;omega
  by_cases zT:p=q
  ·subst zT;rw [oC] at e;rw [mG (sK hne)];intro e2
   exact key p' hp' (sK hne) b e2 e
  ·rw [mG zT] at e
   by_cases Yx:p'=q
   ·subst Yx;rw [oC]
    exact key p hp zT b e
   ·rw [mG Yx]
    exact h.nn p p' hp hp' hne b e
theorem SR.nil (h:SR w0 W gR vo os vs r) (hq:q<4):SR w0 (W.setCell (aA gR q) (nS)) gR vo os (JZ vs q (nS)) (Ks r q []):=by
 refine ⟨Ri h.b hq _,fI h.o h.b ae _ _,fun p hp=>?_,fun p hp b e=>?_,fun p p' hp hp' hne b e=>?_,h.x.setCell (p:=(aA gR q)) h.le _,h.le⟩
 ·by_cases zT:p=q
  ·subst zT;rw [oC,Yv]
   exact ⟨ag,.inl ⟨rfl,rfl⟩⟩
  ·rw [mG zT,Yw zT]
   exact fI (h.row p hp) h.b ae _ _
 ·by_cases zT:p=q
  ·subst zT;rw [oC] at e
   cases e
  ·rw [mG zT] at e
   exact h.no p hp b e
 ·by_cases zT:p=q
  ·subst zT;rw [oC] at e
   cases e
  ·rw [mG zT] at e
   by_cases Yx:p'=q
   ·subst Yx;rw [oC];intro e2
    cases e2
   ·rw [mG Yx]
    exact h.nn p p' hp hp' hne b e
theorem SR.u (h:SR w0 W gR vo os vs r) (ho:W'.ownsRow w0.heap.size 54 4 vo' os'.length (ak os')) (hg:W.grownBy W' vo.ownBlock) (hx:Ext w0 W') (hb:vo'.ownBlock=vo.ownBlock\/vo'.ownBlock=some W.heap.size):
  SR w0 W' gR vo' os' vs r:=by
 refine ⟨cQ h.b h.o ae hg,ho,fun q hq=>(h.row q hq).kept hg (none_or (h.no q hq)),fun q hq b e=>?_,h.nn,hx,h.le⟩;rcases hb with hb|hb
 ·rw [hb]
  exact h.no q hq b e
 ·rw [hb];intro e2
  cases e2
  have:=((h.row q hq).lt _ e).2;omega
end
structure SG (w0 W:World) (gR:Nat) (vo:Value) (os:List Gt) (vs:Nat->Value) (r:Nat->List Gt) (gq:Nat) (y:Gt) (vq:Value) (qs_:List Int):Prop extends SR w0 W gR vo os vs r where
 g:ay W gq 54 (gA y)
 ng:vo.ownBlock≠some gq
 i:W.ownsRow w0.heap.size 3 1 vq qs_.length (aG qs_)
section
variable {w0 W W':World} {gR q gq:Nat} {vo vo' v' vq:Value} {os os' xs:List Gt} {vs:Nat->Value} {r:Nat->List Gt} {x:Gt} {qs_:List Int}
theorem SG.ext (h:SG w0 W gR vo os vs r gq x vq qs_) (hx:Ext W W'):SG w0 W' gR vo os vs r gq x vq qs_:=⟨h.toSR.ext hx,h.g.ext hx,h.ng,aq h.i hx⟩
theorem SG.nil (h:SG w0 W gR vo os vs r gq x vq qs_) (hq:q<4):SG w0 (W.setCell (aA gR q) (nS)) gR vo os (JZ vs q (nS)) (Ks r q []) gq x vq qs_:=
 ⟨h.toSR.nil hq,h.g.bX (p:=(aA gR q)) (Ff h.g h.b ae) _,h.ng,fI h.i h.b ae _ _⟩
theorem SG.u (h:SG w0 W gR vo os vs r gq x vq qs_) (ho:W'.ownsRow w0.heap.size 54 4 vo' os'.length (ak os')) (hg:W.grownBy W' vo.ownBlock) (hx:Ext w0 W') (hb:vo'.ownBlock=vo.ownBlock\/vo'.ownBlock=some W.heap.size):
  SG w0 W' gR vo' os' vs r gq x vq qs_:=by
 refine ⟨h.toSR.u ho hg hx hb,h.g.grown hg (fun k hk e=>h.ng (by rw [hk,e])),?_,h.i.kept hg (cX h.i h.o ae)⟩;rcases hb with hb|hb
 ·rw [hb]
  exact h.ng
 ·rw [hb];intro e
  cases e
  have:=h.g.lt;omega
end
theorem alp:∀w:World,(Instr.makeSlice 129 (iI 4) (iI 4)).run prog w=.ok (.slice (some ⟨w.heap.size,0,none⟩) 4 4) (w.alloc (cO #[nS,nS,nS,nS] 37)):=fun w=>by
 obtain ⟨i0,hi,eX,gX,jK⟩:=iF EH;have hmk:=ZM (P:=prog) 129 37 i0 _ underlying129 hi eX 4 aa aa w;have e:madeCells (nS).cells (4*1)=#[nS,nS,nS,nS]:=af
 rw [gX,e] at hmk
 exact hmk
theorem zH {gs:List Gt} {k:Nat} {g:Gt} (h:gs[k]?=some g):qy (gs.take (k+1))=nA (qy (gs.take k)) g:=by
 unfold qy;rw [aL h,sG];rfl
theorem MJ {s:List Gt ×(Nat->List Gt)} {g:Gt} (h:ar g.k=1):nA s g=(s.1,Ks s.2 g.a.toNat (s.2 g.a.toNat++[g])):=aX h
theorem MK {s:List Gt ×(Nat->List Gt)} {g:Gt} (h:¬ar g.k=1):nA s g=((jx s (pa g)).1++[g],(jx s (pa g)).2):=aK h
theorem Yy {g:Gt} {n:Int} (h:vg g n=true):∀q∈pa g,0<=q/\q<4:=by
 obtain ⟨h1,h2,h3,h4,h5,-⟩:=oh h;intro q hq;have Km:=Gk hq;unfold qs at Km;simp only [qR,IA,or_false] at Km;rcases Km with rfl|rfl|rfl<;>omega
theorem Po {s:List Gt ×(Nat->List Gt)} {g:Gt} {n:Int} (h:vg g n=true):(nA s g).1.length+6*LN (nA s g).2<=s.1.length+6*LN s.2+6:=by
 obtain ⟨h1,h2,h3,h4,h5,-⟩:=oh h
 by_cases hk:ar g.k=1
 ·rw [MJ hk];have:=Wt (r:=s.2) (q:=g.a.toNat) aa (s.2 g.a.toNat++[g]);simp only [lA,ij,uI] at this;simp only;omega
 ·rw [MK hk];have:=zr (pa g) s (Yy h);simp only [lA,ij,uI];omega
theorem Fg {gs:List Gt} {n:Int}:∀k,k<=gs.length->(gs.take k).all (fun g=>vg g n)=true->(qy (gs.take k)).1.length+6*LN (qy (gs.take k)).2<=6*k
 |0,_,_=>by simp [qy,LN]
 |k+1,hk,h=>by
  have hg:gs[k]?=some (gs[k]' aa):=lB _;rw [aL hg,nX,lF] at h;have h1:=Fg k aa h.1;have h2:vg (gs[k]' aa) n=true:=sU h.2
  have h3:=Po (s:=qy (gs.take k)) h2;rw [zH hg];omega
theorem Pq (r:Nat->List Gt) {q:Nat} (hq:q<4):(r q).length<=LN r:=by
 unfold LN;rcases (show q=0\/q=1\/q=2\/q=3 by omega) with rfl|rfl|rfl|rfl<;>omega
theorem Pr {s:List Gt ×(Nat->List Gt)} {qs_:List Int} {j:Nat} {q:Int} (h:qs_[j]?=some q):jx s (qs_.take (j+1))=emit (jx s (qs_.take j)) q.toNat:=by
 unfold jx;rw [aL h,sG];rfl
theorem Ic {s:List Gt ×(Nat->List Gt)} {qs_:List Int} (h:∀q∈qs_,0<=q/\q<4) (j:Nat):(jx s (qs_.take j)).1.length+6*LN (jx s (qs_.take j)).2<=s.1.length+6*LN s.2:=
 zr _ s fun q hq=>h q (Gk hq)
def lj (s:List Gt ×(Nat->List Gt)) (j:Nat):List Gt:=(jx s (([0,1,2,3]:List Int).take j)).1
theorem anc (s:List Gt ×(Nat->List Gt)):lj s 0=s.1:=rfl
theorem ab6 (s:List Gt ×(Nat->List Gt)):lj s 4=(jx s [0,1,2,3]).1:=rfl
theorem Ps (s:List Gt ×(Nat->List Gt)) {j:Nat} (hj:j<4):lj s (j+1)=lj s j++short (s.2 j):=by
 rcases (show j=0\/j=1\/j=2\/j=3 by omega) with rfl|rfl|rfl|rfl<;>rfl
theorem Ie (s:List Gt ×(Nat->List Gt)) (j:Nat):(lj s j).length<=s.1.length+6*LN s.2:=by
 have:=Ic (s:=s) (qs_:=[0,1,2,3]) ag j;unfold lj;omega
theorem Tx {gs:List Gt} {n:Int} {k:Nat} {g:Gt} (h:gs[k]?=some g) (hv:vg g n=false):ej gs n=gs:=by
 unfold ej;rw [aK];intro h1;rw [kc.1 h1 g (lG h)] at hv
 cases hv
theorem Pu {gs:List Gt} {n:Int} (h:gs.all (fun g=>vg g n)=true):ej gs n=lj (qy gs) 4:=aX h
end Go.Proofs.YtiajdbllccmokaaGreatDoor
