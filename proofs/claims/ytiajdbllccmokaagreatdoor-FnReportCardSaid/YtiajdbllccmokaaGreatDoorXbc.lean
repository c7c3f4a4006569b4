import Derived.Test.YtiajdbllccmokaaGreatDoorXy
namespace Go.Proofs.YtiajdbllccmokaaGreatDoor
open Go.ChangeShapes Go.WideShapes Go.ChangeAt Go.RowKit Go.Deep Go.Proofs.Tryz
set_option linter.unusedVariables false
set_option linter.unusedSimpArgs false
set_option maxRecDepth 100000
set_option maxHeartbeats 16000000
def SZ (x:Gr) (p:List Int) (g:Gt):List Gt:=if (ar g.k==1)=true then [g1 g.k (loc p g.a)] else lr (jz x (loc p g.a) (loc p g.b))
theorem Xx {x:Gr} {p:List Int} {g:Gt} (h:(ar g.k==1)=true):SZ x p g=[g1 g.k (loc p g.a)]:=aX h
theorem Xy {x:Gr} {p:List Int} {g:Gt} (h:(ar g.k==1)=false):SZ x p g=lr (jz x (loc p g.a) (loc p g.b)):=aK aW
theorem QQ (x:Gr) (p:List Int) (g:Gt):(SZ x p g).length<=10:=by
 unfold SZ;split
 ·simp
 ·exact NW _
def OW (x:Gr) (p:List Int) (g:Gt):Bool:=may g x p
def Bf (x:Gr) (p:List Int) (gs:List Gt):Bool:=lay x p && gs.all (OW x p)
def brR (x:Gr) (p:List Int) (gs:List Gt):List Gt:=if Bf x p gs=true then gs.flatMap (SZ x p) else []
theorem Xz {x:Gr} {p:List Int} {gs:List Gt} (h:Bf x p gs=false):brR x p gs=[]:=aK aW
theorem QR {x:Gr} {p:List Int} {gs:List Gt} (h:Bf x p gs=true):brR x p gs=gs.flatMap (SZ x p):=aX h
theorem OX {x:Gr} {p:List Int} {gs:List Gt} (h:lay x p=false):Bf x p gs=false:=by unfold Bf;rw [h];rfl
theorem afB {x:Gr} {p:List Int} {gs:List Gt} (h:gs.all (OW x p)=false):Bf x p gs=false:=by unfold Bf;rw [h];simp
theorem XA {x:Gr} {p:List Int} {gs:List Gt} (h:lay x p=true) (h':gs.all (OW x p)=true):Bf x p gs=true:=by unfold Bf;rw [h,h'];rfl
theorem akg {x:Gr} {p:List Int} (h:lay x p=true):x.n=(p.length:Int)/\p.length<=4/\perm p=true:=by
 unfold lay at h;simp only [lF,dc] at h
 exact ⟨h.2.symm,(ua h.1.2).2,h.1.2⟩
theorem wO {P:Prop} (h:P:=by
 go_wp2;go_ret2
 exact Ry.mk HO.u (Xz HO.u) (aC Ft dC.size) (dC.trans aS)):P:=h
theorem tJ (A:OA) (n c:Nat) (gs:List Gt) (v:Value) (x:Gr) (Ap:OA) (np cp:Nat) (p:List Int) (w:World) (h:Rd w w.heap.size 4 A n (ak gs)) (hn:n<=1048576) (hv:eR w w.heap.size v x) (hl:x.es.length<=2000000000000) (hp:Rd w w.heap.size 1 Ap np (aG p)) (ZG:np<=2000000000000) (Rw:np<=cp):
  Calls prog 83 #[.slice A n c,v,.slice Ap np cp] w (Ry 54 4 ak w (Bf x p gs) (brR x p gs)):=by
 have hlen:=hY (h.len Gt.aE aa);have Hi:=hY (hp.len bO aa);obtain ⟨A1,c1,rfl,h1⟩:=hv;have HG:Hid (∀w',Ext w w'->eR w' w'.heap.size (.agg #[iI x.n,.slice A1 x.es.length c1]) x):=fun w' hx=>⟨A1,c1,rfl,h1.ext hx⟩
 clear h1;have eY:ay (w.alloc (cO #[iI x.n,.slice A1 x.es.length c1] 42)) w.heap.size 42 #[iI x.n,.slice A1 x.es.length c1]:=ay.new _ _ _;have dC:Ext w (w.alloc (cO #[iI x.n,.slice A1 x.es.length c1] 42)):=aD
 have eG:=hY eY;have ke:=hY dC;clear eY dC;go_enter func83,ntmps83;go_upto_region 1 with fail;have eY:=eG.u;have dC:=ke.u;clear eG ke;generalize (w.alloc (cO #[iI x.n,.slice A1 x.es.length c1] 42))=Wb at*
 go_upto_region 2 with fail;have Ft:(Wb.alloc (cO #[] 54)).ownsRow Wb.heap.size 54 4 (.slice (some ⟨Wb.heap.size,0,none⟩) 0 0) 0 (ak []):=bL (xZ _) _ _ 4 0 #[] _ rfl rfl rfl aa;have aS:Ext Wb (Wb.alloc (cO #[] 54)):=(xZ _).alloc _;generalize (Wb.alloc (cO #[] 54))=W1 at*
 have d0:=(eY.ext aS).ck 0;have d1:=(eY.ext aS).ck 1;go_wp2_with fail;refine (dJ _ x _ (HG.u _ (dC.trans aS)) hl).mono ?_;rintro e w2 ⟨rfl,bH⟩;replace aS:=aS.trans bH;replace Ft:=aq Ft bH;clear d0 d1 bH;have aph:=True.intro
 cases BH:hU x
 ·have HO:=hY (OX (gs:=gs) (WO (p:=p) BH))
  exact wO
 go_wp2_with fail;refine (cK Ap np cp p _ (hp.ext (dC.trans aS)) ZG Rw).mono ?_;rintro e w3 ⟨rfl,bT⟩;replace aS:=aS.trans bT;replace Ft:=aq Ft bT;clear bT
 cases Oy:perm p
 ·have HO:=hY (OX (gs:=gs) (WQ (x:=x) Oy))
  exact wO
 have Zj:=hY (WR BH Oy);clear BH Oy;have d0:=(eY.ext aS).ck 0
 cases hne:((np:Int)==x.n)
 ·have OY:((np:Int) !=x.n)=true:=kC
  have HO:=hY (OX (gs:=gs) (Zj.u.trans (by rw [Hi.u];exact hne)))
  exact wO
 have OY:((np:Int) !=x.n)=false:=kC
 have OZ:Hid (lay x p=true):=Zj.u.trans (by rw [Hi.u];exact hne);go_wp2;clear d0 hne OY aph;have nN:=hY Ft;have dk:=hY aS;clear Ft aS
 go_loopw [8,9] (fun v i wr=>∃(k:Nat) (Ao:OA) (m co:Nat),k<=n/\i=iI k/\v=.slice Ao m co/\Hid (m=((gs.take k).flatMap (SZ x p)).length)/\Hid ((gs.take k).all (OW x p)=true)/\wr.ownsRow Wb.heap.size 54 4 (.slice Ao m co) m (ak ((gs.take k).flatMap (SZ x p)))/\Ext Wb wr) (fun _ i _=>n - (intOf i).toNat)
 case atStart=>exact ⟨0,_,0,_,lJ _,rfl,rfl,rfl,hY ag,nN.u,dk.u⟩
 case round=>
  clear nN dk;obtain ⟨k,Ao,m,co,hk,rfl,rfl,HM,HQ,ho,hx⟩:=hrel
  by_cases bh:k<n
  ·obtain ⟨b,o,g,rfl,hb,hg,r0,r1,r2,r3⟩:=bE (h.ext (dC.trans hx)) bh;have QS:=hY hg;clear hg;have hf:=ZW (SZ x p) (QQ x p) gs k;rw [<-HM.u] at hf;have d0:=(eY.ext hx).ck 0;have d1:=(eY.ext hx).ck 1;have FF:=eY.lt;have hzx:=(eY.ext hx).lt;go_wp2_with fail;have UM:ay (wr.alloc (cO (gA g) 54)) wr.heap.size 54 (gA g):=ay.new _ _ _;have TZ:Ext wr (wr.alloc (cO (gA g) 54)):=(xZ _).alloc _;have rr:=ho.lt;have DU:=hY rr;clear rr;refine (jY g _ x Ap np cp p _ (HG.u _ (dC.trans (hx.trans TZ))) hl (hp.ext (dC.trans (hx.trans TZ))) ZG Rw).mono ?_;rintro e w2 ⟨rfl,si⟩;have akh:Ext wr w2:=TZ.trans si;have Jy:=UM.ext si;have ep:=aq ho akh;have bH:=hx.trans akh;obtain ⟨s,hs⟩:=ey (wr.heap.size);rw [<-hs] at Jy DU |-;clear r0 r1 r2 r3 d0 d1 UM TZ si hs
   cases hm:may g x p
   ·have HO:=hY (afB (ad1 QS.u (f:=OW x p) hm));go_wp2;go_ret2
    exact Ry.mk HO.u (Xz HO.u) (bL (dC.trans bH) _ _ 4 0 #[] _ rfl rfl rfl aa) ((dC.trans bH).alloc _)
   have mr:=hY (UH QS.u HQ.u (f:=OW x p) hm);have Ha:=hY (ZV (SZ x p) QS.u);obtain ⟨ia,y,Xf,hia,hy,rr,hp4,_⟩:=Xd hm;have MX:=Hi.u;have SL:ia<np:=aa
   have NB:(0:Int)<=(ia:Int):=aa
   have zh:(ia:Int)<(np:Int):=aa
   have Ur:=ep.lt;have afC:=hY Ur;clear Ur
   cases h1:(ar g.k==1)
   case true=>
    have FD:=hY ((Xx (x:=x) (p:=p) h1).trans (by rw [rr]));have h9:(g.k==9)=false:=by cases hq:(g.k==9) with|false=>rfl|true=>(rw [dc] at hq;rw [hq] at h1;cases h1)
    obtain ⟨bl,ol,y',rfl,FO,FU,q0⟩:=eT hp SL;have PW:y'=y:=by rw [hy] at FU;injection FU with FU;exact FU.symm
    subst PW;have HK:Hid (∀w',Ext Wb w'->ay w' s 54 (gA g)->w'.cell? (aA s 0)=some (iI g.k)/\w'.cell? (aA s 1)=some (iI (ia:Int))/\w'.cell? (aA bl (ol+ia))=some (iI y')):=fun w' z q=>⟨q.cell 0,by rw [<-Xf];exact q.cell 1,((dC.trans z).cell (p:=(aA bl (ol+ia))) FO).trans q0⟩
    have rA:=hY Jy;clear hy FU rr MX hm Xf;obtain ⟨k0,k1,k2⟩:=HK.u w2 bH rA.u;go_wp2;have eX:=xZ w2
    first|go_region_held3 (fun w'=>w'.cell? (aA s 0)=some (iI g.k)/\w'.cell? (aA s 1)=some (iI (ia:Int))/\w'.cell? (aA bl (ol+ia))=some (iI y'))
     (first|(refine HK.u _ ?_ ?_<;>assumption)|exact HK.u _ (bH.drew) (rA.u.ext (xZ w2).drew)|exact HK.u _ (bH.trans eX) (rA.u.ext eX)|go_keep|exact HK.u _ (bH.trans (eX.alloc _)) (rA.u.ext (eX.alloc _)))
     (first
      |(go_at_call 58;(with_reducible refine (aM (w0:=w2) _ _ _ aD).mono ?_);clear eX;rintro e w' ⟨rfl,eX⟩)
      |(refine CM (B:=Wb.heap.size) ah _ _ ah _ m _ ah (aq ep eX) (lK bH.size eX.size) (g1 g.k y') _ _ ah ah aa ?_;intro A4 c4 w4 rk Bm hb4;have fe:Ext Wb w4:=(bH.trans eX).grown Bm (fun k hk=>(afC.u k hk).1);have OV:=(rA.u.ext eX).grown Bm (fun k hk=>oM (DU.u k hk))))|fail
    all_goals
     clear k0 k1 k2;go_wp2;go_roundw
     case rel=>exact ⟨k+1,A4,m+1,c4,aa,az,rfl,by unfold Hid;rw [Ha.u,FD.u,lA,<-HM.u];rfl,mr,by rw [Ha.u,FD.u];exact rk,fe⟩
     case measure=>simp [intOf];omega
   obtain ⟨ja,jb,hja,hjb,_,hW⟩:=pQ.of hm h1;obtain ⟨y1,ki,ly1,_,_⟩:=hW.at_ hW.ha;obtain ⟨z1,gX,lz1,_,_⟩:=hW.at_ hW.hb;have afF:ja<np:=oM hW.ha
   have afG:jb<np:=oM hW.hb
   have FD:=hY ((Xy (x:=x) (p:=p) h1).trans (by rw [hja,hjb,ly1,lz1]));have h9:(g.k==9)=true:=by (have Kp:LU g=true:=by {unfold may at hm;simp only [lF] at hm;exact hm.1.2});unfold LU at Kp;rw [h1,iC] at Kp;exact Kp
   obtain ⟨bl,ol,rfl,FO,q0,q1⟩:=Em hp afF afG ki gX;have HK:Hid (∀w',Ext Wb w'->ay w' s 54 (gA g)->w'.cell? (aA w.z 0)=some (iI x.n)/\w'.cell? (aA w.z 1)=some (.slice A1 x.es.length c1)/\w'.cell? (aA s 1)=some (iI (ja:Int))/\w'.cell? (aA s 2)=some (iI (jb:Int))/\w'.cell? (aA bl (ol+ja))=some (iI y1)/\w'.cell? (aA bl (ol+jb))=some (iI z1)):=fun w' z q=>⟨(eY.ext z).cell 0,(eY.ext z).cell 1,by rw [<-hja];exact q.cell 1,by rw [<-hjb];exact q.cell 2,((dC.trans z).cell (p:=(aA bl (ol+ja))) FO).trans q0,((dC.trans z).cell (p:=(aA bl (ol+jb))) FO).trans q1⟩
   have rA:=hY Jy;have HS0:Hid (w2.cell? (aA s 0)=some (iI g.k)):=Jy.cell 0;have Ah:=NW (jz x y1 z1);have xq:=Sy x y1 z1;have FY:(0:Int)<=(ja:Int):=aa
   have hj1:(ja:Int)<(np:Int):=aa
   have hj2:(0:Int)<=(jb:Int):=aa
   have hj3:(jb:Int)<(np:Int):=aa
   clear hy rr MX hm Xf hja hjb ki gX ly1 lz1 hW Jy;have k9:=HS0.u;go_wp2;clear k9;obtain ⟨k0,k1,k2,k3,k4,k5⟩:=HK.u w2 bH rA.u
   first|go_region_held3 (fun w'=>w'.cell? (aA w.z 0)=some (iI x.n)/\w'.cell? (aA w.z 1)=some (.slice A1 x.es.length c1)/\w'.cell? (aA s 1)=some (iI (ja:Int))/\w'.cell? (aA s 2)=some (iI (jb:Int))/\w'.cell? (aA bl (ol+ja))=some (iI y1)/\w'.cell? (aA bl (ol+jb))=some (iI z1))
    (first|(refine HK.u _ ?_ ?_<;>assumption)|exact HK.u _ (bH.drew) (rA.u.ext (xZ w2).drew)|go_keep)
    (first
     |(go_at_call 98;refine (ko _ x y1 z1 _ (HG.u _ (dC.trans bH.drew)) hl).mono ?_;rintro e w3 ⟨Aw,lw,cw,rfl,Xg,Xh,kl⟩;have HLW:=hY Xg;have HOW:=hY Xh;clear Xg Xh;replace kl:Ext w2 w3:=Ext.trans (xZ w2).drew kl;have bT:Ext Wb w3:=bH.trans kl;have hs3:=rA.u.ext kl)
     |(go_at_call 97;refine (kZ lw Aw cw (jz x y1 z1) _ (by rw [HLW.u];omega) (Rd.own HOW.u) (JG HOW.u)).mono ?_;rintro e w4 ⟨v4,rfl,rk,CN⟩;have xo:Ext w2 w4:=kl.trans CN;obtain ⟨A4,c4,rfl,RM⟩:=au rk;have fe:Ext Wb w4:=bH.trans xo;have OV:=rA.u.ext xo)
     |(refine eE (w0:=Wb) ah _ _ ah _ m _ ah (aq ep xo) fe A4 _ c4 (lr (jz x y1 z1)) ah RM aa ?_;intro v5 w5 jM cN xV Qh;have Ol:=OV.grown xV (fun k hk=>oM (DU.u k hk))))|fail
   all_goals
    clear k0 k1 k2 k3 k4 k5;obtain ⟨A5,c5,rfl,_⟩:=au jM;go_wp2;go_roundw
    case rel=>exact ⟨k+1,A5,m+(lr (jz x y1 z1)).length,c5,aa,az,rfl,by unfold Hid;rw [Ha.u,FD.u,lA,<-HM.u],mr,by rw [Ha.u,FD.u];exact jM,cN⟩
    case measure=>simp [intOf];omega
  ·rw [lE bN] at ho HQ HM;have HO:=hY (XA OZ.u HQ.u);go_wp2;go_ret2
   exact Ry.mk HO.u (QR HO.u) (by rw [<-HM.u];exact aC ho dC.size) (dC.trans hx)
def Bg (x:Gr) (mode:Int) (g:Gt) (p:List Int):List Gt ×List Int:=if (mode==1)=true then (SZ x p g,p) else ox x g p
theorem ED {x:Gr} {mode:Int} {g:Gt} {p:List Int} (h:(mode==1)=true):Bg x mode g p=(SZ x p g,p):=aX h
theorem EE {x:Gr} {mode:Int} {g:Gt} {p:List Int} (h:(mode==1)=false):Bg x mode g p=ox x g p:=aK aW
theorem BJ (x:Gr) (mode:Int) (g:Gt) (p:List Int):(Bg x mode g p).1.length<=10:=by
 cases h:(mode==1)
 ·rw [EE h];have:=SF x g p;omega
 ·rw [ED h];exact QQ x p g
theorem QT {x:Gr} {mode:Int} {g:Gt} {p:List Int} (hp:perm p=true):perm (Bg x mode g p).2=true/\(Bg x mode g p).2.length=p.length:=by
 cases h:(mode==1)
 ·rw [EE h];exact SI hp
 ·rw [ED h];exact ⟨hp,rfl⟩
theorem abD {g:Gt} {x:Gr} {p:List Int} (h:may g x p=true):lay x p=true:=by
 unfold may at h;simp only [lF] at h
 exact h.1.1
theorem XB {g:Gt} {x:Gr} {p:List Int} (h:may g x p=true):Bf x p [g]=true/\brR x p [g]=SZ x p g:=by
 have h1:Bf x p [g]=true:=XA (abD h) (by simp [OW,h])
 exact ⟨h1,by rw [QR h1];simp⟩
def Mk (w:World) (x:Gr) (g:Gt) (p:List Int) (mode:Int) (vp:Value) (e:Ending) (w':World):Prop:=
 ∃v vq,e=.returned (.tuple #[v,vq,.bool (may g x p)])/\Ext w w'/\(may g x p=true->∃A n c,vq=.slice A n c/\n=(Bg x mode g p).2.length/\n<=c/\w'.ownsRow w.heap.size 54 4 v (Bg x mode g p).1.length (ak (Bg x mode g p).1)/\(w'.ownsRow w.heap.size 3 1 (.slice A n c) n (aG (Bg x mode g p).2)\/(.slice A n c=vp/\(Bg x mode g p).2=p)))
theorem Mk.no {w w':World} {x:Gr} {g:Gt} {p:List Int} {mode:Int} {v vq vp:Value} (h:may g x p=false) (hx:Ext w w'):Mk w x g p mode vp (.returned (.tuple #[v,vq,.bool false])) w':=
 ⟨v,vq,by rw [h],hx,fun h'=>by rw [h] at h';cases h'⟩
theorem Mk.yes {w w':World} {x:Gr} {g:Gt} {p:List Int} {mode:Int} {v vp:Value} {A:OA} {n c:Nat} {r:List Gt ×List Int} (h:may g x p=true) (hr:Bg x mode g p=r) (hx:Ext w w') (hn:n=r.2.length) (hc:n<=c) (ho:w'.ownsRow w.heap.size 54 4 v r.1.length (ak r.1)) (hd:w'.ownsRow w.heap.size 3 1 (.slice A n c) n (aG r.2)\/(.slice A n c=vp/\r.2=p)):Mk w x g p mode vp (.returned (.tuple #[v,.slice A n c,.bool true])) w':=
 ⟨v,_,by rw [h],hx,fun _=>⟨A,n,c,rfl,by rw [hr];exact hn,hc,by rw [hr];exact ho,by rw [hr];exact hd⟩⟩
theorem JI (g:Gt) (v:Value) (x:Gr) (A:OA) (n c:Nat) (p:List Int) (mode:Int) (w:World) (hv:eR w w.heap.size v x) (hl:x.es.length<=2000000000000) (hp:Rd w w.heap.size 1 A n (aG p)) (hn:n<=2000000000000) (hc:n<=c):
  Calls prog 70 #[g.val,v,.slice A n c,iI mode] w (Mk w x g p mode (.slice A n c)):=by
 have hlen:=hY (hp.len bO aa);obtain ⟨A1,c1,rfl,h1⟩:=hv;have HG:Hid (∀w',Ext w w'->eR w' w'.heap.size (.agg #[iI x.n,.slice A1 x.es.length c1]) x):=fun w' hx=>⟨A1,c1,rfl,h1.ext hx⟩
 clear h1;have Fv:ay ((w.alloc (cO (gA g) 54)).alloc (cO #[iI x.n,.slice A1 x.es.length c1] 42)) w.heap.size 54 (gA g):=(ay.new _ _ _).alloc _;have eY:ay ((w.alloc (cO (gA g) 54)).alloc (cO #[iI x.n,.slice A1 x.es.length c1] 42)) (w.heap.size+1) 42 #[iI x.n,.slice A1 x.es.length c1]:=ay.newAt ag;have dC:Ext w ((w.alloc (cO (gA g) 54)).alloc (cO #[iI x.n,.slice A1 x.es.length c1] 42)):=aD
 have BA:=hY Fv;have eG:=hY eY;have ke:=hY dC;clear eY dC Fv;go_enter func70,ntmps70;go_wp2_with fail;have Fv:=BA.u;have eY:=eG.u;have dC:=ke.u;clear eG ke BA;generalize ((w.alloc (cO (gA g) 54)).alloc (cO #[iI x.n,.slice A1 x.es.length c1] 42))=Wb at*
 refine (jY g _ x A n c p _ (HG.u _ dC) hl (hp.ext dC) hn hc).mono ?_;rintro e w1 ⟨rfl,aS⟩;have Na:=Fv.ext aS;have qp:=eY.ext aS;have BG:=dC.trans aS
 cases hm:may g x p
 ·have HM:=hY hm;clear hm;go_wp2;go_ret3
  exact Mk.no HM.u (BG.alloc _)
 have HM:=hY hm;have HBO:=hY (XB hm);clear hm;have b0:=Na.ck 0;have b1:=Na.ck 1;have b2:=Na.ck 2;have b3:=Na.ck 3;have d0:=qp.ck 0;have d1:=qp.ck 1;have FF:=qp.lt
 cases h1:(mode==1)
 ·have HR:=hY (EE (x:=x) (g:=g) (p:=p) h1);go_wp2_with fail;refine (wI g _ x A n c p _ (HG.u _ BG) hl (hp.ext BG) hn hc).mono ?_;rintro e w2 ⟨v2,A2,n2,c2,rfl,GC,Cs,ep,TL,bH⟩;have HN2:=hY GC;clear GC;go_wp2;go_ret3
  exact Mk.yes HM.u HR.u (BG.trans bH) HN2.u Cs (aC ep BG.size) (.inl (aC TL BG.size))
 ·have HR:=hY (ED (x:=x) (g:=g) (p:=p) h1);have ZT:=fN w1 (gA g) w1.heap.size 54 1 4 (ak [g]) rfl rfl rfl;have Qb:=BG.alloc (cO (gA g) 54);go_wp2_with fail;refine (tJ _ 1 1 [g] _ x A n c p _ ZT aa (HG.u _ Qb) hl (hp.ext Qb) hn hc).mono ?_;rintro e w2 ⟨v2,rfl,ep,bH⟩;rw [HBO.u.1];rw [HBO.u.2] at ep;go_wp2;go_ret3
  exact Mk.yes HM.u HR.u (Qb.trans bH) hlen.u.symm hc (aC ep Qb.size) (.inr ⟨rfl,rfl⟩)
def ZH (c:Int) (h:Gt):Oq:=⟨1,h,0,0,if (h.k==11)=true then 0 else c⟩
theorem aki {c:Int} {h:Gt} (hk:(h.k==11)=true):ZH c h=yY 0 h:=by unfold ZH yY;rw [aX hk]
theorem akj {c:Int} {h:Gt} (hk:(h.k==11)=false):ZH c h=yY c h:=by unfold ZH yY;rw [aK cG]
def Hs (p:List Int) (o:Oq):Oq:=⟨o.k,o.g,loc p o.q,o.bit,o.cond⟩
def nH (x:Gr) (mode:Int):List Oq->List Int->Option (List Oq ×List Int)
 |[],now=>some ([],now)
 |o::r,now=>
  if (o.k==1)=true then
   if may o.g x now=true then (nH x mode r (Bg x mode o.g now).2).map fun t=>((Bg x mode o.g now).1.map (ZH o.cond)++t.1,t.2) else none
  else if (o.k==2)=true then
   if 0<=o.q/\o.q<=x.n - 1 then (nH x mode r now).map fun t=>(Hs now o::t.1,t.2) else none
  else nH x mode r now
def wP (x:Gr) (xs:List Oq) (p:List Int) (mode:Int):Option (List Oq ×List Int):=if (lay x p && (mode==0||mode==1))=true then nH x mode xs p else none
theorem BK {x:Gr} {xs:List Oq} {p:List Int} {mode:Int} (h:(lay x p && (mode==0||mode==1))=false):wP x xs p mode=none:=aK aW
theorem XC {x:Gr} {xs:List Oq} {p:List Int} {mode:Int} (h:lay x p=true) (h':(mode==0||mode==1)=true):wP x xs p mode=nH x mode xs p:=aX (by rw [h,h'];rfl)
def rU (x:Gr) (mode:Int) (xs:List Oq) (k:Nat) (out:List Oq) (now:List Int):Option (List Oq ×List Int):=(nH x mode (xs.drop k) now).map fun t=>(out++t.1,t.2)
theorem afI (x:Gr) (mode:Int) (xs:List Oq) (p:List Int):rU x mode xs 0 [] p=nH x mode xs p:=by
 unfold rU;simp
theorem XD {x:Gr} {mode:Int} {xs:List Oq} {k:Nat} {out:List Oq} {now:List Int} (h:xs.length<=k):rU x mode xs k out now=some (out,now):=by
 unfold rU;rw [List.drop_eq_nil_of_le h];simp [nH]
section
variable {x:Gr} {mode:Int} {xs:List Oq} {k:Nat} {out:List Oq} {now:List Int} {o:Oq}
theorem drop_at (h:xs[k]?=some o):xs.drop k=o::xs.drop (k+1):=by
 obtain ⟨hk,rfl⟩:=gU.1 h
 exact xv hk
theorem Ta (h:xs[k]?=some o) (h1:(o.k==1)=true) (hm:may o.g x now=true):rU x mode xs k out now=rU x mode xs (k+1) (out++(Bg x mode o.g now).1.map (ZH o.cond)) (Bg x mode o.g now).2:=by
 unfold rU;rw [drop_at h,nH,aX h1,aX hm,Option.map_map];simp [Function.comp_def,uE]
theorem JJ (h:xs[k]?=some o) (h1:(o.k==1)=true) (hm:may o.g x now=false):rU x mode xs k out now=none:=by
 unfold rU;rw [drop_at h,nH,aX h1,aK (by simp [hm])];rfl
theorem Tb (h:xs[k]?=some o) (h1:(o.k==1)=false) (h2:(o.k==2)=true) (hq:0<=o.q/\o.q<=x.n - 1):rU x mode xs k out now=rU x mode xs (k+1) (out++[Hs now o]) now:=by
 unfold rU;rw [drop_at h,nH,aK dU,aX h2,aX hq,Option.map_map];simp [Function.comp_def]
theorem JK (h:xs[k]?=some o) (h1:(o.k==1)=false) (h2:(o.k==2)=true) (hq:¬(0<=o.q/\o.q<=x.n - 1)):rU x mode xs k out now=none:=by
 unfold rU;rw [drop_at h,nH,aK dU,aX h2,aK hq];rfl
theorem Pb (h:xs[k]?=some o) (h1:(o.k==1)=false) (h2:(o.k==2)=false):rU x mode xs k out now=rU x mode xs (k+1) out now:=by
 unfold rU;rw [drop_at h,nH,aK dU,aK fp]
end
def uy (w:World) (r:Option (List Oq ×List Int)) (e:Ending) (w':World):Prop:=
 ∃v1 v2 b1,e=.returned (.tuple #[v1,v2,.bool r.isSome])/\w'.ownsRow w.heap.size 56 8 v1 (r.getD ([],[])).1.length (aI (r.getD ([],[])).1)/\(∀g,v1.ownBlock=some g->g<b1)/\(w.heap.size<=b1/\b1<=w'.heap.size)/\w'.ownsRow b1 3 1 v2 (r.getD ([],[])).2.length (aG (r.getD ([],[])).2)/\Ext w w'
theorem uy.no {w w':World} {r:Option (List Oq ×List Int)} {v1 v2:Value} {b1:Nat} (hr:r=none) (h1:w'.ownsRow w.heap.size 56 8 v1 0 []) (hb:∀g,v1.ownBlock=some g->g<b1) (hw:w.heap.size<=b1/\b1<=w'.heap.size) (h2:w'.ownsRow b1 3 1 v2 0 []) (hx:Ext w w'):uy w r (.returned (.tuple #[v1,v2,.bool false])) w':=by
 subst hr
 exact ⟨v1,v2,b1,rfl,h1,hb,hw,h2,hx⟩
theorem uy.yes {w w':World} {r:Option (List Oq ×List Int)} {v1 v2:Value} {b1 m n:Nat} {out:List Oq} {q:List Int} (hr:r=some (out,q)) (hm:out.length=m) (hn:q.length=n) (h1:w'.ownsRow w.heap.size 56 8 v1 m (aI out)) (hb:∀g,v1.ownBlock=some g->g<b1) (hw:w.heap.size<=b1/\b1<=w'.heap.size) (h2:w'.ownsRow b1 3 1 v2 n (aG q)) (hx:Ext w w'):uy w r (.returned (.tuple #[v1,v2,.bool true])) w':=by
 subst hr hm hn
 exact ⟨v1,v2,b1,rfl,h1,hb,hw,h2,hx⟩
theorem afJ:(54:Nat)≠56:=ae
theorem XE:(3:Nat)≠56:=ae
theorem Pc {w:World} {g t:Nat} {a0 a1 a2 a3 a4 a5 a6 a7:Value} (h:ay w g t #[a0,a1,a2,a3,a4,a5,a6,a7]):w.cell? (aA g 0)=some a0/\w.cell? (aA g 1)=some a1/\w.cell? (aA g 2)=some a2/\w.cell? (aA g 3)=some a3/\w.cell? (aA g 4)=some a4/\w.cell? (aA g 5)=some a5/\w.cell? (aA g 6)=some a6/\w.cell? (aA g 7)=some a7/\w.frozen? (aA g 5)=false:=
 ⟨h.cell 0,h.cell 1,h.cell 2,h.cell 3,h.cell 4,h.cell 5,h.cell 6,h.cell 7,h.frozen 5⟩
theorem Ht {w:World} {B e size n s i:Nat} {v:Value} {xs:List Value} (h:w.ownsRow B e size v n xs) (hne:∀g,v.ownBlock=some g->g≠s) (u:Value):(w.setCell (aA s i) u).ownsRow B e size v n xs:=by
 refine h.kept (row:=some s) ⟨rfl,rfl,rfl,by simp [World.setCell],fun k hk OY=>mO w ⟨s,i,none⟩ u k (fun e=>OY (by rw [e]))⟩ ?_
 cases hv:v.ownBlock with
 |none=>exact .inl rfl
 |some g=>exact .inr fun e=>hne g hv dr
theorem EF {p:List Int} {i:Int} {n:Nat} (h:p.length=n) (h0:0<=i) (h1:i<=(n:Int) - 1):∃j y,i=((j:Nat):Int)/\j<n/\p[j]?=some y/\loc p i=y:=by
 obtain ⟨j,rfl⟩:=lD h0;have hj:j<p.length:=aa
 refine ⟨j,p[j],rfl,aa,lB hj,?_⟩;unfold loc
 exact qG ag
theorem uy.XF {w W:World} {r:Option (List Oq ×List Int)} {v1:Value} (hr:r=none) (ho:W.ownsRow w.heap.size 56 8 v1 0 (aI [])) (hx:Ext w W):uy w r (.returned (.tuple #[v1,.slice (some ⟨W.heap.size,0,none⟩) 0 0,.bool false])) (W.alloc (cO #[] 3)):=
 uy.no (b1:=W.heap.size) hr (ho.alloc _) (fun g hg=>(ho.lt g hg).2) ⟨hx.size,ag⟩ (bL (xZ _) _ _ 1 0 #[] _ rfl rfl rfl aa) (hx.alloc _)
theorem uy.adl {w W:World} {r:Option (List Oq ×List Int)} (hr:r=none) (hx:Ext w W):uy w r (.returned (.tuple #[.slice (some ⟨W.heap.size,0,none⟩) 0 0,.slice (some ⟨W.heap.size+1,0,none⟩) 0 0,.bool false])) ((W.alloc (cO #[] 56)).alloc (cO #[] 3)):=by
 have h:=uy.XF (W:=W.alloc (cO #[] 56)) (v1:=.slice (some ⟨W.heap.size,0,none⟩) 0 0) hr (bL hx _ _ 8 0 #[] _ rfl rfl rfl aa) (hx.alloc _);simpa using h
def Ml (w Wb:World) (s:Nat) (cs:Array Value) (Ao:OA) (m co:Nat) (out:List Oq) (Ag:OA) (ml cg:Nat) (gs:List Gt) (Al:OA) (np cl:Nat) (q:List Int):Prop:=
 ay w s 56 cs/\w.ownsRow Wb.heap.size 56 8 (.slice Ao m co) m (aI out)/\(∀g,(Value.slice Ao m co).ownBlock=some g->g≠s)/\w.ownsRow Wb.heap.size 54 4 (.slice Ag ml cg) ml (ak gs)/\w.ownsRow Wb.heap.size 3 1 (.slice Al np cl) np (aG q)/\Ext Wb w
section
variable {w w' Wb:World} {s:Nat} {cs:Array Value} {Ao:OA} {m co:Nat} {out:List Oq} {Ag:OA} {ml cg:Nat} {gs:List Gt} {Al:OA} {np cl:Nat} {q:List Int}
theorem Ml.ext (h:Ml w Wb s cs Ao m co out Ag ml cg gs Al np cl q) (hx:Ext w w'):Ml w' Wb s cs Ao m co out Ag ml cg gs Al np cl q:=
 ⟨h.1.ext hx,aq h.2.1 hx,h.2.2.1,aq h.2.2.2.1 hx,aq h.2.2.2.2.1 hx,h.2.2.2.2.2.trans hx⟩
theorem Ml.app (h:Ml w Wb s cs Ao m co out Ag ml cg gs Al np cl q) {v':Value} {m':Nat} {out':List Oq} {W:Nat} (ho:w'.ownsRow Wb.heap.size 56 8 v' m' (aI out')) (hg:w.grownBy w' (Value.slice Ao m co).ownBlock) (hb:v'.ownBlock=(Value.slice Ao m co).ownBlock\/v'.ownBlock=some W) (hW:s<W):
  ∃A' c',v'=.slice A' m' c'/\Ml w' Wb s cs A' m' c' out' Ag ml cg gs Al np cl q:=by
 obtain ⟨A',c',rfl,_⟩:=au ho;refine ⟨A',c',rfl,h.1.grown hg (fun k hk e=>h.2.2.1 k hk e.symm),ho,fun g Fu=>?_,jA h.2.2.2.1 h.2.1 afJ hg,jA h.2.2.2.2.1 h.2.1 XE hg,h.2.2.2.2.2.grown hg (fun k hk=>(h.2.1.lt k hk).1)⟩;rcases hb with hb|hb
 ·exact h.2.2.1 g (hb ▸ Fu)
 ·rw [hb] at Fu;injection Fu with Fu;omega
end
theorem wQ {P:Prop} (h:P:=by
 go_wp2;go_ret3
 exact uy.XF HR.u (aC (aq Tc fe) dC.size) (dC.trans (iY.trans fe))):P:=h
theorem yw (A:OA) (n c:Nat) (xs:List Oq) (v:Value) (x:Gr) (Ap:OA) (np cp:Nat) (p:List Int) (mode:Int) (w:World) (h:Rd w w.heap.size 8 A n (aI xs)) (hn:n<=100000000000) (hv:eR w w.heap.size v x) (hl:x.es.length<=2000000000000) (hp:Rd w w.heap.size 1 Ap np (aG p)) (ZG:np<=2000000000000) (Rw:np<=cp):
  Calls prog 48 #[.slice A n c,v,.slice Ap np cp,iI mode] w (uy w (wP x xs p mode)):=by
 have hlen:=hY (h.len Oq.aE aa);have Hi:=hY (hp.len bO aa);obtain ⟨A1,c1,rfl,h1⟩:=hv;have HG:Hid (∀w',Ext w w'->eR w' w'.heap.size (.agg #[iI x.n,.slice A1 x.es.length c1]) x):=fun w' hx=>⟨A1,c1,rfl,h1.ext hx⟩
 clear h1;have eY:ay (w.alloc (cO #[iI x.n,.slice A1 x.es.length c1] 42)) w.heap.size 42 #[iI x.n,.slice A1 x.es.length c1]:=ay.new _ _ _;have dC:Ext w (w.alloc (cO #[iI x.n,.slice A1 x.es.length c1] 42)):=aD
 have eG:=hY eY;have ke:=hY dC;clear eY dC;go_enter func48,ntmps48;go_upto_region 1 with fail;have eY:=eG.u;have dC:=ke.u;clear eG ke;generalize (w.alloc (cO #[iI x.n,.slice A1 x.es.length c1] 42))=Wb at*
 have hE:Ext Wb Wb:=xZ _;go_upto_region 2 with fail;have Tc:(Wb.alloc (cO #[] 56)).ownsRow Wb.heap.size 56 8 (.slice (some ⟨Wb.heap.size,0,none⟩) 0 0) 0 (aI []):=bL (xZ _) _ _ 8 0 #[] _ rfl rfl rfl aa;have rz:Ext Wb (Wb.alloc (cO #[] 56)):=(xZ _).alloc _;generalize (Wb.alloc (cO #[] 56))=Wo at*
 go_upto_region 3 with (at_builtin;refine my (w0:=Wo) rfl _ _ rfl (.slice (some ⟨Wo.heap.size,0,none⟩) 0 0) 0 [] rfl (bL (xZ _) _ _ 1 0 #[] _ ag rfl rfl aa) ((xZ _).alloc _) Ap np cp p rfl ((hp.ext (dC.trans rz)).ext ((xZ _).alloc _)) aa ?_;intro v2 w2 ep bH jL vG)
 simp only [lM,lN] at ep;clear jL vG hE;obtain ⟨A2,c2,rfl,_⟩:=au ep;replace Tc:=aq Tc bH;replace ep:=aC ep rz.size;have iY:Ext Wb w2:=rz.trans bH;clear rz bH;have d0:=(eY.ext iY).ck 0;have d1:=(eY.ext iY).ck 1;go_wp2_with fail;refine (dJ _ x _ (HG.u _ (dC.trans iY)) hl).mono ?_;rintro e w3 ⟨rfl,bT⟩;clear d0 d1
 cases BH:hU x
 ·have HR:=hY (BK (x:=x) (xs:=xs) (p:=p) (mode:=mode) (by rw [WO BH];rfl));clear BH;go_wp2;go_ret3
  exact uy.XF HR.u (aC (aq Tc bT) dC.size) (dC.trans (iY.trans bT))
 go_wp2_with fail;refine (cK Ap np cp p _ (hp.ext ((dC.trans iY).trans bT)) ZG Rw).mono ?_;rintro e w4 ⟨rfl,fe⟩;replace fe:=bT.trans fe;clear bT
 cases Oy:perm p
 ·have HR:=hY (BK (x:=x) (xs:=xs) (p:=p) (mode:=mode) (by rw [WQ Oy];rfl));clear Oy
  exact wQ
 have Zj:=hY (WR BH Oy);have HPP:=hY Oy;clear BH Oy;have d0:=(eY.ext (iY.trans fe)).ck 0
 cases hne:((np:Int)==x.n)
 ·have OY:((np:Int) !=x.n)=true:=kC
  have HR:=hY (BK (x:=x) (xs:=xs) (p:=p) (mode:=mode) (by rw [Zj.u,Hi.u,hne];rfl))
  exact wQ
 have OY:((np:Int) !=x.n)=false:=kC
 have OZ:Hid (lay x p=true):=Zj.u.trans (by rw [Hi.u];exact hne);obtain ⟨hxn,xT,_⟩:=akg OZ.u;have HXN:=hY (hxn.trans (by rw [Hi.u]));have hp4:np<=4:=oM Hi.u
 have hp1:1<=np:=oN ((ua HPP.u).1) Hi.u
 clear hxn xT
 cases hmd:(mode==0||mode==1)
 ·have HR:=hY (BK (x:=x) (xs:=xs) (p:=p) (mode:=mode) (by rw [hmd];simp));have HB:Hid (mode<0\/1<mode):=by
   simp only [Bool.or_eq_false_iff,lS] at hmd;unfold Hid;omega
  clear hmd;go_wp2_with fail;refine (bI _ _ _ _ HB.u).mono ?_;rintro e w5 ⟨rfl,rfl⟩
  exact wQ
 have HR:=hY (XC (xs:=xs) OZ.u hmd);have api:0<=mode/\mode<=1:=by
  simp only [yX,dc] at hmd;omega
 obtain ⟨hm0,Zo⟩:=api;clear hmd;go_wp2_with fail;refine (aF _ _ _ _ hm0 Zo).mono ?_;rintro e w5 ⟨rfl,rfl⟩;have rP:=hY (aq ep fe);have kj:=hY (iY.trans fe);have HOO:=hY (aq Tc fe);clear ep Tc iY fe;go_wp2;clear d0 hne OY
 go_loopw [11,12,13] (fun vo vl i wr=>∃(k:Nat) (now:List Int) (out:List Oq) (Al:OA) (cl:Nat) (Ao:OA) (m co:Nat),k<=n/\i=iI k/\vl=.slice Al np cl/\vo=.slice Ao m co/\Hid (out.length=m)/\m<=10*k/\Hid (perm now=true/\now.length=np)/\Hid (nH x mode xs p=rU x mode xs k out now)/\wr.ownsRow Wb.heap.size 56 8 (.slice Ao m co) m (aI out)/\wr.ownsRow Wb.heap.size 3 1 (.slice Al np cl) np (aG now)/\Ext Wb wr) (fun vo vl i _=>n - (intOf i).toNat)
 case atStart=>exact ⟨0,p,[],_,_,_,0,_,lJ _,rfl,rfl,rfl,rfl,lJ _,⟨HPP.u,Hi.u⟩,(afI x mode xs p).symm,HOO.u,rP.u,kj.u⟩
 case round=>
  clear HOO rP kj;obtain ⟨k,now,out,Al,cl,Ao,m,co,hk,rfl,rfl,rfl,HM,hmk,HP,HQ,ho,Gb,hx⟩:=hrel
  by_cases bh:k<n
  ·obtain ⟨b,o,y,rfl,hb,hy,r0,r1,r2,r3,r4,r5,r6,r7⟩:=re (h.ext (dC.trans hx)) bh;have HY:=hY hy;clear hy;go_upto_region 9 with fail;have OH:ay (wr.alloc (cO (jE y) 56)) wr.heap.size 56 (jE y):=ay.new _ _ _;have eF:=ho.alloc (cO (jE y) 56);have AJ:=Gb.alloc (cO (jE y) 56);have aS:Ext Wb (wr.alloc (cO (jE y) 56)):=hx.alloc _;have akl:∀g,(Value.slice Ao m co).ownBlock=some g->g≠wr.heap.size:=fun g hg=>oM ((ho.lt g hg).2)
   have akm:∀g,(Value.slice Al np cl).ownBlock=some g->g≠wr.heap.size:=fun g hg=>oM ((Gb.lt g hg).2)
   have hsB:Wb.heap.size<=wr.heap.size:=hx.size;clear r0 r1 r2 r3 r4 r5 r6 r7 ho Gb hx;generalize (wr.alloc (cO (jE y) 56))=W1 at*
   generalize wr.heap.size=s at*
   have akn:=hY akl;have apj:=hY akm;clear akl akm;obtain ⟨k0,k1,k2,k3,k4,k5,k6,k7,f5⟩:=Pc OH
   cases h1:(y.k==1)
   case true=>
    have d0:=(eY.ext aS).ck 0;have d1:=(eY.ext aS).ck 1;go_wp2_with fail;refine (JI y.g _ x Al np cl now mode _ (HG.u _ (dC.trans aS)) hl (Rd.own AJ) aa (JG AJ)).mono ?_;rintro e w2 ⟨v2,vq,rfl,si,ako⟩;have St:=hY ako;clear ako d0 d1 k0 k1 k2 k3 k4 k5 k6 k7 f5
    cases hm:may y.g x now
    ·have HN:=hY (HR.u.trans (HQ.u.trans (JJ HY.u h1 hm)));clear hm;go_wp2;go_ret3
     exact uy.adl HN.u ((dC.trans aS).trans si)
    obtain ⟨A2,n2,c2,rfl,GC,Cs,ep,TL⟩:=St.u hm;have hw:=QT (x:=x) (mode:=mode) (g:=y.g) HP.u.1;obtain rfl:n2=np:=by rw [GC,hw.2];exact HP.u.2
    have HK:=hY (Ta (mode:=mode) (out:=out) HY.u h1 hm);have hrl:=BJ x mode y.g now;have QU:w2.ownsRow Wb.heap.size 3 1 (.slice A2 n2 c2) n2 (aG (Bg x mode y.g now).2):=by
     rcases TL with TL|⟨e1,e2⟩
     ·exact aC TL aS.size
     ·rw [e1,e2];exact aq AJ si
    have HW:Hid (perm (Bg x mode y.g now).2=true/\(Bg x mode y.g now).2.length=n2):=⟨hw.1,hw.2.trans HP.u.2⟩;replace ep:=aC ep aS.size;clear hm hw TL GC St;generalize (Bg x mode y.g now).1=gs at*
    generalize (Bg x mode y.g now).2=q at*
    obtain ⟨ml,hml⟩:=ey (gs.length);have HML:=hY hml;rw [<-hml] at ep hrl;clear hml;obtain ⟨Ag,cg,rfl,_⟩:=au ep;have HI:Hid (Ml w2 Wb s (jE y) Ao m co out Ag ml cg gs A2 n2 c2 q):=⟨OH.ext si,aq eF si,akn.u,ep,QU,aS.trans si⟩;clear eF ep AJ QU OH aS si;go_wp2
    go_loopw [11,18] (fun vo i wr=>∃(r:Nat) (out':List Oq) (Ao':OA) (co':Nat),r<=ml/\i=iI r/\vo=.slice Ao' (m+r) co'/\Hid (out'=out++(gs.take r).map (ZH y.cond))/\Ml wr Wb s (jE y) Ao' (m+r) co' out' Ag ml cg gs A2 n2 c2 q) (fun vo i _=>ml - (intOf i).toNat)
    case atStart=>exact ⟨0,out,Ao,co,lJ _,rfl,rfl,by simp [Hid],HI.u⟩
    case round=>
     clear HI;obtain ⟨r,out',Ao',co',hr,rfl,rfl,HO,hI⟩:=hrel
     by_cases apk:r<ml
     ·obtain ⟨bg,og,g,rfl,hbg,hg,r0,r1,r2,r3⟩:=bE (Rd.own hI.2.2.2.1) apk;have Nz:=hY (Ly (ZH y.cond) hg);clear hg;obtain ⟨k0,k1,k2,k3,k4,k5,k6,k7,f5⟩:=Pc hI.1;have XG:=hI.1.lt
      cases PL:(g.k==11)
      case false=>
       have Zk:=hY (akj (c:=y.cond) PL);go_wp2_with (at_builtin;refine xI (w0:=Wb) rfl _ _ rfl (.slice Ao' (m+r) co') (m+r) out' rfl hI.2.1 hI.2.2.2.2.2 (yY y.cond g) _ _ rfl ag aa ?_;intro v5 w5 jM cN xV Qh)
       obtain ⟨A5,c5,rfl,hI5⟩:=(hI.ext ((xZ wr).alloc _)).app jM xV Qh aa;go_roundw
       case rel=>exact ⟨r+1,out'++[yY y.cond g],A5,c5,aa,az,rfl,uN,hI5⟩
       case measure=>simp [intOf];omega
      case true=>
       have Zk:=hY (aki (c:=y.cond) PL);go_wp2_with (at_builtin;refine xI (w0:=Wb) rfl _ _ rfl (.slice Ao' (m+r) co') (m+r) out' rfl hI.2.1 hI.2.2.2.2.2 (yY 0 g) _ _ rfl ag aa ?_;intro v5 w5 jM cN xV Qh)
       obtain ⟨A5,c5,rfl,hI5⟩:=(hI.ext ((xZ wr).alloc _)).app jM xV Qh aa;go_roundw
       case rel=>exact ⟨r+1,out'++[yY 0 g],A5,c5,aa,az,rfl,uN,hI5⟩
       case measure=>simp [intOf];omega
     ·obtain rfl:r=ml:=aa
      have rP:Hid (out'=out++gs.map (ZH y.cond)):=by rw [HO.u,lE (by rw [<-HML.u];omega)];exact rfl
      go_wp2;go_roundw
      case rel=>exact ⟨k+1,q,out',A2,c2,Ao',m+r,co',aa,az,rfl,rfl,by unfold Hid;rw [rP.u,lA,jk,HM.u,<-HML.u],aa,HW.u,by unfold Hid;rw [HQ.u,HK.u,rP.u],hI.2.1,hI.2.2.2.2.1,hI.2.2.2.2.2⟩
      case measure=>simp [intOf];omega
   cases h2:(y.k==2)
   case false=>
    have HK:=hY (Pb (mode:=mode) (x:=x) (out:=out) (now:=now) HY.u h1 h2);go_wp2;go_roundw
    case rel=>exact ⟨k+1,now,out,Al,cl,Ao,m,co,aa,az,rfl,rfl,HM.u,aa,HP.u,by unfold Hid;rw [HQ.u,HK.u],eF,AJ,aS⟩
    case measure=>simp [intOf];omega
   have d0:W1.cell? (aA w.z 0)=some (iI (np:Int)):=by rw [<-HXN.u];exact (eY.ext aS).cell 0
   by_cases hq:0<=y.q/\y.q<=(np:Int) - 1
   case neg=>
    have HN:=hY (HR.u.trans (HQ.u.trans (JK (mode:=mode) (x:=x) (out:=out) (now:=now) HY.u h1 h2 (by rw [HXN.u];exact hq))));have HB:Hid (y.q<0\/(np:Int) - 1<y.q):=bZ
    clear hq;go_wp2_with fail;refine (bI _ _ _ _ HB.u).mono ?_;rintro e w2 ⟨rfl,rfl⟩;go_wp2;go_ret3
    exact uy.adl HN.u (dC.trans aS)
   have HK:=hY (Tb (mode:=mode) (x:=x) (out:=out) (now:=now) HY.u h1 h2 (by rw [HXN.u];exact hq));obtain ⟨j,z,hj,Qa,hz,rr⟩:=EF HP.u.2 hq.1 hq.2;have HMV:Hid (Hs now y=⟨y.k,y.g,z,y.bit,y.cond⟩):=by unfold Hid Hs;rw [rr]
   obtain ⟨bl,ol,z',rfl,FO,MT,q0⟩:=eT (Rd.own AJ) Qa;have hzz:z'=z:=by rw [hz] at MT;injection MT with MT;exact MT.symm
   subst hzz;rw [hj] at k5;have hq1:(0:Int)<=(j:Int):=aa
   have TL:(j:Int)<=(np:Int) - 1:=aa
   have gK:(j:Int)<(np:Int):=aa
   clear hz MT rr hq hj;go_wp2_with fail;refine (aF _ _ _ _ hq1 TL).mono ?_;rintro e w2 ⟨rfl,rfl⟩;go_upto_region 26 with fail;have Jy:ay (W1.setCell (aA s 5) (iI z')) s 56 #[iI y.k,iI y.g.k,iI y.g.a,iI y.g.b,iI y.g.c,iI z',iI y.bit,iI y.cond]:=OH.ba 5 _;have ep:=Ht (i:=5) eF akn.u (iI z');have QU:=Ht (i:=5) AJ apj.u (iI z');have bH:Ext Wb (W1.setCell (aA s 5) (iI z')):=aS.setCell (p:=(aA s 5)) hsB _;clear OH eF AJ aS k0 k1 k2 k3 k4 k5 k6 k7 f5 d0 q0;generalize (W1.setCell (aA s 5) (iI z'))=W2 at*
   obtain ⟨k0,k1,k2,k3,k4,k5,k6,k7,f5⟩:=Pc Jy;go_wp2_with (at_builtin;refine xI (w0:=Wb) rfl _ _ rfl (.slice Ao m co) m out rfl ep bH ⟨y.k,y.g,z',y.bit,y.cond⟩ _ _ rfl ag aa ?_;intro v5 w5 jM cN xV Qh)
   have TN:=jA (QU.alloc _) (ep.alloc _) XE xV;obtain ⟨A5,c5,rfl,_⟩:=au jM;go_roundw
   case rel=>exact ⟨k+1,now,out++[⟨y.k,y.g,z',y.bit,y.cond⟩],some ⟨bl,ol,none⟩,cl,A5,m+1,c5,aa,az,rfl,rfl,by unfold Hid;rw [lA,HM.u];rfl,aa,HP.u,by unfold Hid;rw [HQ.u,HK.u,HMV.u],jM,TN,cN⟩
   case measure=>simp [intOf];omega
  ·have jT:xs.length<=k:=bN
   have HN:=hY (HR.u.trans (HQ.u.trans (XD (mode:=mode) (x:=x) (out:=out) (now:=now) jT)));clear jT;have mS:=ho.lt;have ie:=hY mS;clear mS;go_wp2_with (at_builtin;refine my (w0:=wr) rfl _ _ rfl (.slice (some ⟨wr.heap.size,0,none⟩) 0 0) 0 [] rfl (bL (xZ _) _ _ 1 0 #[] _ ag rfl rfl aa) ((xZ _).alloc _) Al np cl now rfl ((Rd.own Gb).ext ((xZ _).alloc _)) aa ?_;intro v6 w6 px mC Lf hb6)
   simp only [lM,lN] at px;go_ret3
   exact uy.yes (b1:=wr.heap.size) HN.u HM.u HP.u.2 (aq (aC ho dC.size) mC) (fun g hg=>(ie.u g hg).2) ⟨(dC.trans hx).size,mC.size⟩ px ((dC.trans hx).trans mC)
end Go.Proofs.YtiajdbllccmokaaGreatDoor
