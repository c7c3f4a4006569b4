import Derived.Test.YtiajdbllccmokaaGreatDoorXf
namespace Go.Proofs.YtiajdbllccmokaaGreatDoor
open Go.ChangeShapes Go.WideShapes Go.ChangeAt Go.RowKit Go.Deep Go.Proofs.Tryz
set_option linter.unusedVariables false
set_option linter.unusedSimpArgs false
set_option maxRecDepth 100000
set_option maxHeartbeats 16000000
def okS (g:Gt) (m:Int) (i:Nat) (q:Int):Bool:=
 if ar g.k<=i then q==0 else decide (0<=q) && decide (q<=m) && !(fC ((pa g).take i) q)
theorem aeu {g:Gt} {m:Int} {i:Nat} {q:Int} (h:ar g.k<=i):okS g m i q=(q==0):=aX h
theorem Vs {g:Gt} {m:Int} {i:Nat} {q:Int} (h:¬ar g.k<=i):okS g m i q=(decide (0<=q) && decide (q<=m) && !(fC ((pa g).take i) q)):=aK h
theorem aaL {g:Gt} {m:Int} {i:Nat} {q:Int} (h:¬ar g.k<=i) (hr:q<0\/m<q):okS g m i q=false:=by
 rw [Vs h];rcases hr with hr|hr
 ·have e:decide (0<=q)=false:=aj
  simp [e]
 ·have e:decide (q<=m)=false:=aj
  simp [e]
theorem Vt (g:Gt) (n:Int) (i:Nat) (q:Int):okS g (n - 1) i q=IP g n i q:=by
 unfold okS IP
 by_cases h:ar g.k<=i
 ·rw [aX h,aX h]
 ·rw [aK h,aK h];have e:(pa g).take i=(qs g).take i:=by
   unfold pa;rw [List.take_take,show min i (ar g.k).toNat=i from aa]
  rw [e];rfl
theorem w64 (n:Int):IntKind.i64.wrap n=wrap64 n:=by rw [IntKind.wrap_i64];unfold wrap64;omega
def vgS (g:Gt) (n:Int):Bool:=decide (0<ar g.k) && decide (1<=n) && decide (n<=4)
theorem zn {g:Gt} {n m:Int} (hm:m=IntKind.i64.wrap (n - 1)) {k:Nat} {q:Int} (hq:(qs g)[k]?=some q) (h:okS g m k q=false):vg g n=false:=by
 by_cases hn:n<1\/4<n
 ·exact aiy hn
 ·have e:m=n - 1:=by rw [hm];exact lH _ aa
  subst e
  exact ad8 hq (by rw [<-Vt];exact h)
theorem Db {P:Prop} (h:P:=by
 rcases hn with hn|hn
 ·have e:decide (1<=n)=false:=aj
  simp [e]
 ·have e:decide (n<=4)=false:=aj
  simp [e]):P:=h
theorem Oc {g:Gt} {n m:Int} (hm:m=IntKind.i64.wrap (n - 1)) (h:∀i q,(qs g)[i]?=some q->okS g m i q=true):vg g n=vgS g n:=by
 unfold vgS
 by_cases hn:n<1\/4<n
 ·rw [aiy hn]
  exact Db
 ·have e:m=n - 1:=by rw [hm];exact lH _ aa
  subst e
  by_cases h0:0<ar g.k
  ·rw [PY aa aa h0 (fun i q hq=>by rw [<-Vt];exact h i q hq)];have e1:decide (1<=n)=true:=aj
   have e2:decide (n<=4)=true:=aj
   simp [e1,e2,h0]
  ·have h1:=fY g.k;rw [anK aa];simp [h0]
theorem ku {P:Prop} (h:P:=by
 go_wp2;go_ret
 exact ⟨aT HF.u.symm,xx⟩):P:=h
theorem vZ {P:Prop} (h:P:=by
 go_wp2;go_ret
 exact ⟨aT (by rw [HF.u,HV.u]),xx⟩):P:=h
theorem bj (g:Gt) (n:Int) (w:World):
  Calls prog 72 #[g.val,iI n] w fun e w'=>e=.returned (.bool (vg g n))/\Ext w w':=by
 obtain ⟨gF,iH⟩:=fY g.k;have yI:=hY (xN g);go_enter func72,ntmps72;go_wp2_with fail;refine (fz g _).mono ?_;rintro e w1 ⟨v1,rfl,eF,aS⟩;obtain ⟨A1,c1,rfl,pD⟩:=au eF;have hB:ay w1 w.heap.size 54 (gA g):=(ay.new w _ _).ext aS;have hx:Ext w w1:=Ext.trans aD aS;have hhd:0<(pa g).length->∃b,A1=some ⟨b,0,none⟩/\(pa g).length<=c1:=fun h=>kS eF h
 have HHD:=hY hhd;clear hhd aS eF;have b1:=hB.ck 1;have b2:=hB.ck 2;have b3:=hB.ck 3;generalize hL:(pa g).length=L at*
 have HL:=yI;clear hL yI;have hLi:(L:Int)=ar g.k:=oM HL.u
 have HLi:=hY hLi;have hL3:L<=3:=aa
 clear hLi;go_wp2;clear b1 b2 b3 hB;have hA:ay (w1.alloc (cO #[iI g.a,iI g.b,iI g.c] 3)) w1.heap.size 3 #[iI g.a,iI g.b,iI g.c]:=ay.new _ _ _;have mg:=pD.ext ((xZ w1).alloc (cO #[iI g.a,iI g.b,iI g.c] 3));have bH:=hx.alloc (cO #[iI g.a,iI g.b,iI g.c] 3);clear pD hx;generalize (w1.alloc (cO #[iI g.a,iI g.b,iI g.c] 3))=W at*
 go_loopw [7] (fun i wr=>∃k:Nat,k<=3/\i=iI k/\Hid (∀i q,i<k->(qs g)[i]?=some q->okS g (IntKind.i64.wrap (n - 1)) i q=true)/\∃r,wr=W.drewN r) (fun i _=>3 - (intOf i).toNat)
 case atStart=>exact ⟨0,aa,rfl,fun i q h=>absurd h aa,0,rfl⟩
 case round=>
  obtain ⟨k,hk,rfl,HQ,r,rfl⟩:=hrel
  by_cases bh:k<3
  ·obtain ⟨q,hq⟩:=aix (g:=g) bh;have hc:W.cell? (aA w1.z k)=some (iI q):=by
    rw [hA.cell k];rcases (aa:k=0\/k=1\/k=2) with rfl|rfl|rfl<;>(simp [qs] at hq;subst hq;rfl)
   have HG:=hY hq;clear hq;have rE:(0:Int)<=(k:Int):=aa
   have NA:(k:Int)<3:=aa
   by_cases hak:L<=k
   ·have hd:decide (L<=k)=true:=by simp [hak]
    have Fs:decide (k<L)=false:=aj
    have HO:=hY (aeu (g:=g) (m:=IntKind.i64.wrap (n - 1)) (i:=k) (q:=q) (oM HLi.u))
    cases fP:(q==0)
    ·have an3:(q !=0)=true:=by simp [bne,fP]
     have HF:=hY (zn rfl HG.u (by rw [HO.u,fP]));go_wp2;go_quiet (fail)
     exact ku
    ·have an3:(q !=0)=false:=by simp [bne,fP]
     go_wp2;go_quiet (fail);go_wp2;go_roundw
     case rel=>
      refine ⟨k+1,aa,az,fun i q' hi Km=>?_,_,rfl⟩
      by_cases e:i=k
      ·subst e;have:=HG.u;rw [Km] at this;injection this with this;rw [this,HO.u,fP]
      ·exact HQ.u i q' aa Km
     case measure=>simp [intOf];omega
   ·have hd:decide (L<=k)=false:=aj
    have hkL:k<L:=aa
    have Fs:decide (k<L)=true:=by simp [hkL]
    have aev:¬ar g.k<=k:=oM HLi.u
    have HAK:=hY aev;have HO:=hY (Vs (m:=IntKind.i64.wrap (n - 1)) (q:=q) aev);clear hak aev;obtain ⟨b,rfl,hLc⟩:=HHD.u aa;have Vu:(k:Int)<=(c1:Int):=aa
    by_cases hr:q<0\/IntKind.i64.wrap (n - 1)<q
    ·have HF:=hY (zn rfl HG.u (aaL HAK.u hr));have HR:=hY hr;have iL:Hid (q<0\/wrap64 (n - 1)<q):=by rw [w64] at hr;exact hr
     clear hr;go_wp2;go_quiet ((go_at_call 60;(with_reducible refine fr (bI _ _ _ _ ?_));first|exact HR.u|exact iL.u))
     exact ku
    ·have h1:0<=q:=aa
     have h2:q<=IntKind.i64.wrap (n - 1):=aa
     have HH2:=hY h2;have HH3:Hid (q<=wrap64 (n - 1)):=by rw [w64] at h2;exact h2
     have HH1:=hY h1;clear hr h2;have hRk:=zf mg (nZ hkL);rw [sP] at hRk;have HRk:Hid (∀z,Rd (W.drewN z) (W.drewN z).heap.size 1 (some ⟨b,0,none⟩) k (aG ((pa g).take k))):=fun z=>hRk.ext ((xZ W).drewN z)
     clear hRk
     cases hs:fC ((pa g).take k) q
     ·go_wp2;go_quiet (first|(go_at_call 60;(with_reducible refine fr (aF _ _ _ _ HH1.u ?_));first|exact HH2.u|exact HH3.u)|(go_at_call 81;(with_reducible refine fr (dv _ k c1 ((pa g).take k) q _ (HRk.u _) ?_));omega));go_wp2;go_roundw
      case rel=>
       refine ⟨k+1,aa,az,fun i q' hi Km=>?_,_,rfl⟩
       by_cases e:i=k
       ·subst e;have:=HG.u;rw [Km] at this;injection this with this;rw [this,HO.u,hs];simp [HH1.u,HH2.u]
       ·exact HQ.u i q' aa Km
      case measure=>simp [intOf];omega
     ·have HF:=hY (zn rfl HG.u (by rw [HO.u,hs];simp));go_wp2;go_quiet (first|(go_at_call 60;(with_reducible refine fr (aF _ _ _ _ HH1.u ?_));first|exact HH2.u|exact HH3.u)|(go_at_call 81;(with_reducible refine fr (dv _ k c1 ((pa g).take k) q _ (HRk.u _) ?_));omega))
      exact ku
  ·obtain rfl:k=3:=aa
   have HF:=hY (Oc (g:=g) (n:=n) rfl (fun i q h=>HQ.u i q vt h))
   by_cases h0:0<L
   ·by_cases hn:n<1\/4<n
    ·have HV:Hid (vgS g n=false):=by
      unfold Hid vgS
      exact Db
     have HN:=hY hn;clear hn;go_wp2_with fail;refine (bI _ _ _ _ HN.u).mono ?_;rintro e w2 ⟨rfl,rfl⟩
     exact vZ
    ·have HV:Hid (vgS g n=true):=by
      unfold Hid vgS;have e1:decide (1<=n)=true:=aj
      have e2:decide (n<=4)=true:=aj
      have e3:decide (0<ar g.k)=true:=by have:=HLi.u;simp;omega
      simp [e1,e2,e3]
     go_wp2_with fail;refine (aF _ _ _ _ aa aa).mono ?_;rintro e w2 ⟨rfl,rfl⟩
     exact vZ
   ·have HV:Hid (vgS g n=false):=by
     unfold Hid vgS;have e3:decide (0<ar g.k)=false:=by have:=HLi.u;simp;omega
     simp [e3]
    have ZX:decide (0<L)=false:=aj
    clear h0
    exact vZ
theorem Od:prog.stoodInHeld 187=false:=af
theorem Lr:prog.eqGuardType prog.depth 187=false:=af
theorem Dc (x y:Pa) (w:World):(Op.equalIn 10000 187 x.val y.val).run prog w=.ok (PZ x y) w:=by
 have h1:=Od;unfold PZ
 by_cases e1:x.n=y.n<;>by_cases e2:x.x=y.x<;>by_cases e3:x.z=y.z<;>by_cases e4:x.p=y.p<;>(go_simp<;>simp [*])
theorem bt {w:World} {g t:Nat} {a b:Value} (h:ay w g t #[a,b]):(w.cell? (aA g 0)=some a/\w.cell? (aA g 1)=some b)/\w.frozen? (aA g 0)=false/\w.frozen? (aA g 1)=false:=
 ⟨⟨h.cell 0,h.cell 1⟩,h.frozen 0,h.frozen 1⟩
theorem rL (A B:OA) (c d:Nat) (n m:Int) (xs ys:List Pa) (w:World) (h:Rd w w.heap.size 4 A xs.length (aV xs)) (h':Rd w w.heap.size 4 B ys.length (aV ys)) (hn:xs.length<=2000000000000) (hm:ys.length<=2000000000000):
  Calls prog 165 #[.agg #[iI n,.slice A xs.length c],.agg #[iI m,.slice B ys.length d]] w fun e w'=>e=.returned (.bool (n==m && zS PZ xs ys))/\Ext w w':=by
 cases hnm:(n==m)
 ·have Zv:(n !=m)=true:=by rw [bne,hnm];rfl
  go_enter func165,ntmps165;go_wp2;go_ret
  exact ⟨rfl,xx⟩
 have Zv:(n !=m)=false:=by rw [bne,hnm];rfl
 have HT:Hid (∀b:Bool,(true && b)=b):=fun b=>by cases b<;>rfl
 by_cases hl:xs.length=ys.length
 ·obtain ⟨l,Zw⟩:=ex (xs.length);have ZO:ys.length=l:=aa
  rw [Zw] at h hn;rw [ZO] at h' hm;rw [Zw,ZO];have HXL:=hY Zw;have HYL:=hY ZO;clear hl Zw ZO;go_enter func165,ntmps165;go_wp2;have HX:Hid (Ext w ((w.alloc (cO #[iI n,.slice A l c] 147)).alloc (cO #[iI m,.slice B l d] 147))):=xx;have B1:ay ((w.alloc (cO #[iI n,.slice A l c] 147)).alloc (cO #[iI m,.slice B l d] 147)) w.heap.size 147 #[iI n,.slice A l c]:=(ay.new w _ _).alloc _;have B2:ay ((w.alloc (cO #[iI n,.slice A l c] 147)).alloc (cO #[iI m,.slice B l d] 147)) (w.heap.size+1) 147 #[iI m,.slice B l d]:=ay.newAt ag;generalize ((w.alloc (cO #[iI n,.slice A l c] 147)).alloc (cO #[iI m,.slice B l d] 147))=w2 at*
  obtain ⟨⟨b0,b1⟩,-⟩:=bt B1;obtain ⟨⟨c0,c1⟩,-⟩:=bt B2;have h2:=h.up HX.u (lI _);have h2':=h'.up HX.u (lI _);clear B1 B2 h h'
  go_loopw [5] (fun i wr=>∃k:Nat,k<=l/\i=iI k/\Hid (zS PZ (xs.take k) (ys.take k)=true)/\∃q,wr=w2.drewN q) (fun i _=>l - (intOf i).toNat)
  case atStart=>exact ⟨0,lJ _,rfl,by simp [Hid,zS],0,rfl⟩
  case round=>
   obtain ⟨k,hk,rfl,HQ,q,rfl⟩:=hrel
   by_cases bh:k<l
   ·obtain ⟨b,o,g,rfl,hb,hg,x0,x1,x2,x3⟩:=fD h2 bh;obtain ⟨b',o',g',rfl,rb,Fu,y0,y1,y2,y3⟩:=fD h2' bh;have HG:=hY hg;have Zs:=hY Fu;clear hg Fu
    cases hq:PZ g g'
    ·have HF:=hY (Gp PZ HG.u Zs.u hq);have HN:=(show ∀w,(Op.equalIn 10000 187 g.val g'.val).run prog w=.ok false w from fun w=>by rw [Dc,hq]);have HE:=Lr;go_wp2;go_quiet (fail);go_wp2;go_ret;have HXX:=HX.u
     exact ⟨aT (by rw [HF.u];rfl),xx⟩
    ·have HN:=(show ∀w,(Op.equalIn 10000 187 g.val g'.val).run prog w=.ok true w from fun w=>by rw [Dc,hq]);have HE:=Lr;go_wp2;go_quiet (fail);go_wp2;go_roundw
     case rel=>exact ⟨k+1,aa,az,by unfold Hid;rw [KH _ HG.u Zs.u,HQ.u,hq];rfl,_,rfl⟩
     case measure=>simp [intOf];omega
   ·have:k=l:=aa
    subst this;rw [lE (by rw [HXL.u];omega),lE (by rw [HYL.u];omega)] at HQ;go_wp2;go_ret;have HXX:=HX.u
    exact ⟨aT (by rw [HQ.u];rfl),xx⟩
 ·have hl':((xs.length:Int) !=(ys.length:Int))=true:=by rw [bne_iff_ne];omega
  have HF:=hY (PM PZ xs ys hl);clear hl;go_enter func165,ntmps165;go_wp2;go_ret
  exact ⟨aT (by rw [HF.u];rfl),xx⟩
def MV (n:Int) (gs:List Gt):Bool:=decide (1<=n) && decide (n<=4) && decide (gs.length<=60) && gs.all (fun g=>vg g n)
theorem aaM {n:Int} {gs:List Gt} {k:Nat} {g:Gt} (h:gs[k]?=some g) (hg:vg g n=false):MV n gs=false:=by
 unfold MV;have:gs.all (fun g=>vg g n)=false:=by
  rw [BR]
  exact ⟨g,lG h,by simp [hg]⟩
 rw [this,fX]
theorem GV {α:Type} (f:α->Bool) {xs:List α} {k:Nat} {x:α} (h:xs[k]?=some x) (ha:(xs.take k).all f=true) (hx:f x=true):(xs.take (k+1)).all f=true:=by
 rw [Ns,h,nX,ha];simp [hx]
theorem Vv {n:Int} {gs:List Gt} (h:(gs.take gs.length).all (fun g=>vg g n)=true) (h1:1<=n) (h4:n<=4) (hl:gs.length<=60):MV n gs=true:=by
 rw [jt] at h;unfold MV;simp [h,h1,h4,hl]
theorem ajb {n:Int} {gs:List Gt} (h:n<1\/4<n):MV n gs=false:=by
 unfold MV;rcases h with h|h
 ·rw [kP (aa:¬1<=n)];simp
 ·rw [kP (aa:¬n<=4)];simp
theorem ajc {n:Int} {gs:List Gt} (h:60<gs.length):MV n gs=false:=by
 unfold MV;rw [kP (aa:¬gs.length<=60)];simp
theorem jw (A:OA) (c:Nat) (n:Int) (gs:List Gt) (w:World) (h:Rd w w.heap.size 4 A gs.length (ak gs)) (hl:gs.length<=2000000000000):
  Calls prog 113 #[.agg #[iI n,.slice A gs.length c]] w fun e w'=>e=.returned (.bool (MV n gs))/\Ext w w':=by
 obtain ⟨l,df⟩:=ex (gs.length);rw [df] at h hl;rw [df];have HL:=hY df;clear df;go_enter func113,ntmps113;go_wp2;have HX:Hid (Ext w (w.alloc (cO #[iI n,.slice A l c] 50))):=xx;have HB:Hid (ay (w.alloc (cO #[iI n,.slice A l c] 50)) w.heap.size 50 #[iI n,.slice A l c]):=ay.new w _ _;generalize (w.alloc (cO #[iI n,.slice A l c] 50))=w1 at*
 go_loopw [3] (fun i wr=>∃k:Nat,k<=l/\i=iI k/\Hid ((gs.take k).all (fun g=>vg g n)=true)/\Hid (ay wr w.heap.size 50 #[iI n,.slice A l c]/\Ext w wr)) (fun i _=>l - (intOf i).toNat)
 case atStart=>exact ⟨0,lJ _,rfl,by simp [Hid],⟨HB.u,HX.u⟩⟩
 case round=>
  obtain ⟨k,hk,rfl,HQ,HW⟩:=hrel;clear HB HX
  by_cases bh:k<l
  ·obtain ⟨b,o,g,rfl,hb,hg,-⟩:=bE h bh;have HG:=hY hg;have HK:Hid (∀w',Ext wr w'->(w'.cell? (aA w.z 0)=some (iI n)/\w'.cell? (aA w.z 1)=some (.slice (some ⟨b,o,none⟩) l c))/\(w'.cell? (aA b (o+k*4))=some (iI g.k)/\w'.cell? (aA b (o+k*4+1))=some (iI g.a)/\w'.cell? (aA b (o+k*4+2))=some (iI g.b)/\w'.cell? (aA b (o+k*4+3))=some (iI g.c))):=fun w' hx=>by
    obtain ⟨b2,o2,g2,he,-,jL,x0,x1,x2,x3⟩:=bE (h.up (HW.u.2.trans hx) (lI _)) bh;simp only [fW,iO] at he;obtain ⟨rfl,rfl,-⟩:=he;rw [hg] at jL;obtain rfl:=nT jL
    exact ⟨(bt (HW.u.1.ext hx)).1,x0,x1,x2,x3⟩
   have HWE:Hid (∀w',Ext wr w'->ay w' w.heap.size 50 #[iI n,.slice (some ⟨b,o,none⟩) l c]/\Ext w w'):=fun w' hx=>⟨HW.u.1.ext hx,HW.u.2.trans hx⟩
   clear hg;obtain ⟨⟨b0,b1⟩,x0,x1,x2,x3⟩:=HK.u wr (xZ _)
   cases hv:vg g n
   ·have HV:Hid (∀w',Calls prog 72 #[.agg (gA g),iI n] w' fun e w''=>e=.returned (.bool false)/\Ext w' w''):=fun w'=>vh
    have HF:=hY (aaM HG.u hv);clear hv;go_upto_region 4 with fail
    go_region_held3 (fun w'=>(w'.cell? (aA w.z 0)=some (iI n)/\w'.cell? (aA w.z 1)=some (.slice (some ⟨b,o,none⟩) l c))/\(w'.cell? (aA b (o+k*4))=some (iI g.k)/\w'.cell? (aA b (o+k*4+1))=some (iI g.a)/\w'.cell? (aA b (o+k*4+2))=some (iI g.b)/\w'.cell? (aA b (o+k*4+3))=some (iI g.c)))
     (first|(go_keep;done)|(refine HK.u _ ?_;first|assumption|exact (xZ _).drew))
     (first|(go_at_call 72;(with_reducible refine (HV.u _).mono ?_);rintro e w5 ⟨rfl,bK⟩;replace bK:Ext wr w5:=Ext.trans (xZ wr).drew bK))
    all_goals
     go_wp2;go_ret
     exact ⟨aT HF.u.symm,(HWE.u _ bK).2⟩
   ·have HV:Hid (∀w',Calls prog 72 #[.agg (gA g),iI n] w' fun e w''=>e=.returned (.bool true)/\Ext w' w''):=fun w'=>vh
    have HA:=hY (GV (fun g=>vg g n) HG.u HQ.u hv);clear hv;go_upto_region 4 with fail
    go_region_held3 (fun w'=>(w'.cell? (aA w.z 0)=some (iI n)/\w'.cell? (aA w.z 1)=some (.slice (some ⟨b,o,none⟩) l c))/\(w'.cell? (aA b (o+k*4))=some (iI g.k)/\w'.cell? (aA b (o+k*4+1))=some (iI g.a)/\w'.cell? (aA b (o+k*4+2))=some (iI g.b)/\w'.cell? (aA b (o+k*4+3))=some (iI g.c)))
     (first|(go_keep;done)|(refine HK.u _ ?_;first|assumption|exact (xZ _).drew))
     (first|(go_at_call 72;(with_reducible refine (HV.u _).mono ?_);rintro e w5 ⟨rfl,bK⟩;replace bK:Ext wr w5:=Ext.trans (xZ wr).drew bK))
    all_goals
     go_wp2;go_roundw
     case rel=>exact ⟨k+1,aa,az,HA,HWE.u _ bK⟩
     case measure=>simp [intOf];omega
  ·have uo:k=l:=aa
   subst uo;obtain ⟨⟨b0,b1⟩,-⟩:=bt HW.u.1
   by_cases hn:n<1\/4<n
   ·have HN:=hY hn;have HF:=hY (ajb (gs:=gs) hn);clear hn bh;go_wp2_with fail;refine (bI _ _ _ _ HN.u).mono ?_;rintro e w5 ⟨rfl,rfl⟩;go_wp2;go_ret
    exact ⟨aT HF.u.symm,HW.u.2⟩
   ·have nM:1<=n:=aa
    have xT:n<=4:=aa
    clear hn bh
    by_cases h60:k<=60
    ·have HT:=hY (Vv (gs:=gs) (n:=n) (by rw [HL.u];exact HQ.u) nM xT (by rw [HL.u];exact h60));have hd:(k:Int)<=60:=aa
     go_wp2_with fail;refine (aF _ _ _ _ nM xT).mono ?_;rintro e w5 ⟨rfl,rfl⟩;go_wp2;go_ret
     exact ⟨aT HT.u.symm,HW.u.2⟩
    ·have HF:=hY (ajc (gs:=gs) (n:=n) iU);have hd:¬(k:Int)<=60:=aa
     go_wp2_with fail;refine (aF _ _ _ _ nM xT).mono ?_;rintro e w5 ⟨rfl,rfl⟩;go_wp2;go_ret
     exact ⟨aT (by rw [HF.u];exact kP aa),HW.u.2⟩
theorem Oe {n:Int} {rs:List Pa} (h:n<1\/4<n):mB n rs=false:=by
 unfold mB;rcases h with h|h
 ·rw [kP (aa:¬1<=n)];simp
 ·rw [kP (aa:¬n<=4)];simp
theorem Vw {n:Int} {rs:List Pa} (h:((rs.length:Int)==2*n)=false):mB n rs=false:=by
 unfold mB;rw [h];simp
theorem Vx {n:Int} {rs:List Pa} {k:Nat} (hk:k<rs.length) (h:jS n rs k=false):mB n rs=false:=by
 unfold mB;have:(List.range rs.length).all (jS n rs)=false:=by
  rw [BR]
  exact ⟨k,sU hk,aW⟩
 rw [this,fX]
theorem RT {n:Int} {rs:List Pa} (h1:1<=n) (h4:n<=4) (hl:((rs.length:Int)==2*n)=true) (h:∀k,k<rs.length->jS n rs k=true):mB n rs=true:=by
 unfold mB;have:(List.range rs.length).all (jS n rs)=true:=by
  rw [lO];intro k hk
  exact h k (sU hk)
 rw [this,hl];simp [h1,h4]
theorem aaN {n:Int} {rs:List Pa} {k:Nat} {p:Pa} (hp:rs[k]?=some p) (h:(p.n==n)=false):jS n rs k=false:=by
 unfold jS;rw [hp];simp only [h,js]
theorem Qm {n:Int} {rs:List Pa} {k:Nat} {p:Pa} (hp:rs[k]?=some p) (h:FM p=false):jS n rs k=false:=by
 unfold jS;rw [hp];simp only [h,js,fX]
theorem Of {n:Int} {rs:List Pa} {k i:Nat} {p x:Pa} (hp:rs[k]?=some p) (hi:i<k) (hx:rs[i]?=some x) (h:comm x p=((k:Int)==(i:Int)+n)):jS n rs k=false:=by
 unfold jS;rw [hp];refine (Bool.and_eq_false_iff.2 (Or.inr ?_));rw [BR];refine ⟨i,sU hi,?_⟩;rw [hx];simp only;rw [h]
 by_cases e:(k:Int)=i+n
 ·rw [xC e,dc.2 e];decide
 ·rw [kP e,zP.2 e];decide
theorem Og {n:Int} {rs:List Pa} {k:Nat} {p:Pa} (hp:rs[k]?=some p) (hn:(p.n==n)=true) (hh:FM p=true) (h:∀(i:Nat) (x:Pa),i<k->rs[i]?=some x->comm x p=!((k:Int)==(i:Int)+n)):jS n rs k=true:=by
 unfold jS;rw [hp];simp only [hn,hh,kQ];rw [lO];intro i hi
 cases hx:rs[i]? with
 |none=>rfl
 |some x=>
  simp only;rw [h i x (sU hi) hx]
  by_cases e:(k:Int)=i+n
  ·rw [xC e,dc.2 e];decide
  ·rw [kP e,zP.2 e];decide
theorem aaO {n:Int} {rs:List Pa} {k:Nat} {p:Pa} (hp:rs[k]?=some p) (h:jS n rs k=true):gS p=true:=by
 apply UT
 cases e:FM p with
 |true=>rfl
 |false=>rw [Qm hp e] at h;cases h
theorem IY {w:World} {B b o l i:Nat} {rs:List Pa} (h:Rd w B 4 (some ⟨b,o,none⟩) l (aV rs)) (hi:i<l) {x:Pa} (hx:rs[i]?=some x):
  w.cell? (aA b (o+i*4))=some (iI x.n)/\w.cell? (aA b (o+i*4+1))=some (iI x.x)/\w.cell? (aA b (o+i*4+2))=some (iI x.z)/\w.cell? (aA b (o+i*4+3))=some (iI x.p):=by
 obtain ⟨b',o',x',he,-,rF,hc⟩:=fD h hi;simp only [fW,iO] at he;obtain ⟨rfl,rfl,-⟩:=he;rw [hx] at rF;obtain rfl:=nT rF
 exact hc
theorem Dd {P:Prop} (h:P:=by
 have HN2:Hid (∀(j:Nat) (y:Pa),j<i+1->rs[j]?=some y->comm y p=!((k:Int)==(j:Int)+n)):=fun j y hj hy=>by
  by_cases e:j=i
  ·subst e;rw [HXI.u] at hy;obtain rfl:=nT hy;rw [hc,he];rfl
  ·exact HI.u j y aa hy
 clear hc;go_upto_region 11 with fail
 go_region_held3 (fun w'=>(w'.cell? (aA w.z 0)=some (iI n)/\w'.cell? (aA w.z 1)=some (.slice (some ⟨b,o,none⟩) l c))/\(w'.cell? (aA b (o+i*4))=some (iI x.n)/\w'.cell? (aA b (o+i*4+1))=some (iI x.x)/\w'.cell? (aA b (o+i*4+2))=some (iI x.z)/\w'.cell? (aA b (o+i*4+3))=some (iI x.p))/\(w'.cell? (aA b (o+k*4))=some (iI p.n)/\w'.cell? (aA b (o+k*4+1))=some (iI p.x)/\w'.cell? (aA b (o+k*4+2))=some (iI p.z)/\w'.cell? (aA b (o+k*4+3))=some (iI p.p)))
  (first|(go_keep;done)|(refine xi.u _ ?_;first|assumption|exact (xZ _).drew))
  (first|(go_at_call 154;(with_reducible refine (Zx.u _).mono ?_);rintro e w6 ⟨rfl,ig⟩;replace ig:Ext wr w6:=Ext.trans (xZ wr).drew ig))
 all_goals
  go_wp2;go_roundw
  case rel=>exact ⟨i+1,oM HIK.u,az,HN2,an7.u _ ig⟩
  case measure=>simp [intOf];have:=HIK.u;omega):P:=h
theorem De {P:Prop} (h:P:=by
 have HF:=hY (aex.u k bS.u (Of HP.u HIK.u HXI.u (by rw [hc,he])));clear hc;go_upto_region 11 with fail
 go_region_held3 (fun w'=>(w'.cell? (aA w.z 0)=some (iI n)/\w'.cell? (aA w.z 1)=some (.slice (some ⟨b,o,none⟩) l c))/\(w'.cell? (aA b (o+i*4))=some (iI x.n)/\w'.cell? (aA b (o+i*4+1))=some (iI x.x)/\w'.cell? (aA b (o+i*4+2))=some (iI x.z)/\w'.cell? (aA b (o+i*4+3))=some (iI x.p))/\(w'.cell? (aA b (o+k*4))=some (iI p.n)/\w'.cell? (aA b (o+k*4+1))=some (iI p.x)/\w'.cell? (aA b (o+k*4+2))=some (iI p.z)/\w'.cell? (aA b (o+k*4+3))=some (iI p.p)))
  (first|(go_keep;done)|(refine xi.u _ ?_;first|assumption|exact (xZ _).drew))
  (first|(go_at_call 154;(with_reducible refine (Zx.u _).mono ?_);rintro e w6 ⟨rfl,ig⟩;replace ig:Ext wr w6:=Ext.trans (xZ wr).drew ig))
 all_goals
  go_wp2;go_ret
  exact ⟨aT HF.u.symm,HWI.u.2.trans ig⟩):P:=h
theorem cC (A:OA) (c:Nat) (n:Int) (rs:List Pa) (w:World) (h:Rd w w.heap.size 4 A rs.length (aV rs)) (hl:rs.length<=2000000000000) (yc:rs.length<=c):
  Calls prog 141 #[.agg #[iI n,.slice A rs.length c]] w fun e w'=>e=.returned (.bool (mB n rs))/\Ext w w':=by
 obtain ⟨l,df⟩:=ex (rs.length);rw [df] at h hl yc;rw [df];have HL:=hY df;clear df
 by_cases hn:n<1\/4<n
 ·have HN:=hY hn;have HF:=hY (Oe (rs:=rs) hn);clear hn;go_enter func141,ntmps141;go_wp2_with fail;refine (bI _ _ _ _ HN.u).mono ?_;rintro e w5 ⟨rfl,rfl⟩
  exact ku
 have nM:1<=n:=aa
 have xT:n<=4:=aa
 have hw2:IntKind.i64.wrap (2*n)=2*n:=lH _ aa;clear hn
 cases Ah:((l:Int)==2*n)
 ·have HF:=hY (Vw (rs:=rs) (n:=n) (by rw [HL.u];exact Ah));have Zv:((l:Int) !=2*n)=true:=by rw [bne,Ah];rfl
  clear Ah;go_enter func141,ntmps141;go_wp2_with fail;refine (aF _ _ _ _ nM xT).mono ?_;rintro e w5 ⟨rfl,rfl⟩
  exact ku
 have Zv:((l:Int) !=2*n)=false:=by rw [bne,Ah];rfl
 have Bn:Hid ((l:Int)=2*n):=by unfold Hid;simpa using Ah
 have HG:Hid ((∀k,k<l->jS n rs k=true)->mB n rs=true):=fun h=>RT nM xT (by rw [HL.u];exact Ah) (by rw [HL.u];exact h)
 have aex:Hid (∀k,k<l->jS n rs k=false->mB n rs=false):=fun k hk h=>Vx (by rw [HL.u];exact hk) h
 clear Ah;obtain ⟨b,o,rfl,-,-⟩:=h.2 (oM Bn.u);have Vy:Hid (∀i,i<l->∃x,rs[i]?=some x):=fun i hi=>⟨_,lB (by rw [HL.u];exact hi)⟩
 go_enter func141,ntmps141;go_wp2_with fail;refine (aF _ _ _ _ nM xT).mono ?_;rintro e w5 ⟨rfl,rfl⟩;go_wp2;have HX:Hid (Ext w (w.alloc (cO #[iI n,.slice (some ⟨b,o,none⟩) l c] 147))):=xx;have HB:Hid (ay (w.alloc (cO #[iI n,.slice (some ⟨b,o,none⟩) l c] 147)) w.heap.size 147 #[iI n,.slice (some ⟨b,o,none⟩) l c]):=ay.new w _ _;generalize (w.alloc (cO #[iI n,.slice (some ⟨b,o,none⟩) l c] 147))=w1 at*
 clear Zv hw2
 go_loopw [3] (fun i wr=>∃k:Nat,k<=l/\i=iI k/\Hid (∀j,j<k->jS n rs j=true)/\Hid (ay wr w.heap.size 147 #[iI n,.slice (some ⟨b,o,none⟩) l c]/\Ext w wr)) (fun i _=>l - (intOf i).toNat)
 case atStart=>exact ⟨0,lJ _,rfl,fun j hj=>absurd hj aa,⟨HB.u,HX.u⟩⟩
 case round=>
  obtain ⟨k,hk,rfl,HQ,HW⟩:=hrel;clear HB HX
  by_cases bh:k<l
  ·have bS:=hY bh;obtain ⟨p,hp⟩:=Vy.u k bh;have HP:=hY hp;clear hp;have HK:Hid (∀w',Ext wr w'->(w'.cell? (aA w.z 0)=some (iI n)/\w'.cell? (aA w.z 1)=some (.slice (some ⟨b,o,none⟩) l c))/\(w'.cell? (aA b (o+k*4))=some (iI p.n)/\w'.cell? (aA b (o+k*4+1))=some (iI p.x)/\w'.cell? (aA b (o+k*4+2))=some (iI p.z)/\w'.cell? (aA b (o+k*4+3))=some (iI p.p))):=fun w' hx=>⟨(bt (HW.u.1.ext hx)).1,IY (h.up (HW.u.2.trans hx) (lI _)) bS.u HP.u⟩
   have HWE:Hid (∀w',Ext wr w'->Hid (ay w' w.heap.size 147 #[iI n,.slice (some ⟨b,o,none⟩) l c]/\Ext w w')):=fun w' hx=>⟨HW.u.1.ext hx,HW.u.2.trans hx⟩
   obtain ⟨⟨b0,b1⟩,x0,x1,x2,x3⟩:=HK.u wr (xZ _)
   cases hn:(p.n==n)
   ·have HF:=hY (aex.u k bS.u (aaN HP.u hn));have Zv:(p.n !=n)=true:=kJ
    clear hn;go_upto_region 6 with fail;refine dm (S:=(fun w'=>(w'.cell? (aA w.z 0)=some (iI n)/\w'.cell? (aA w.z 1)=some (.slice (some ⟨b,o,none⟩) l c))/\(w'.cell? (aA b (o+k*4))=some (iI p.n)/\w'.cell? (aA b (o+k*4+1))=some (iI p.x)/\w'.cell? (aA b (o+k*4+2))=some (iI p.z)/\w'.cell? (aA b (o+k*4+3))=some (iI p.p)))) af (HK.u _ (xZ wr).drew) (fun ay4=>?_);refine tq 0 ?_;refine tq 1 ?_;refine tq 2 ?_;refine tq 3 ?_;refine tq 4 ?_;refine tq 5 ?_;refine tq 6 ?_;refine tq 7 ?_;refine tq 8 ?_;refine tq 9 ?_;refine sk 10 ?_;refine sk 11 ?_;refine sk 12 ?_;refine sk 13 ?_;refine sk 14 ?_;refine sk 15 ?_;refine sk 16 ?_;refine tq 17 ?_;refine dn ?_;go_wp2;go_ret
    exact ⟨aT HF.u.symm,HW.u.2.drew⟩
   have Zv:(p.n !=n)=false:=kJ
   cases hh:FM p
   ·have HF:=hY (aex.u k bS.u (Qm HP.u hh));have HCH:Hid (∀w',Calls prog 153 #[.agg (jF p)] w' fun e w''=>e=.returned (.bool false)/\Ext w' w''):=fun w'=>uZ
    clear hh hn;go_upto_region 6 with fail
    go_region_held3 (fun w'=>(w'.cell? (aA w.z 0)=some (iI n)/\w'.cell? (aA w.z 1)=some (.slice (some ⟨b,o,none⟩) l c))/\(w'.cell? (aA b (o+k*4))=some (iI p.n)/\w'.cell? (aA b (o+k*4+1))=some (iI p.x)/\w'.cell? (aA b (o+k*4+2))=some (iI p.z)/\w'.cell? (aA b (o+k*4+3))=some (iI p.p)))
     (first|(go_keep;done)|(refine HK.u _ ?_;first|assumption|exact (xZ _).drew))
     (first|(go_at_call 153;(with_reducible refine (HCH.u _).mono ?_);rintro e w5 ⟨rfl,bK⟩;replace bK:Ext wr w5:=Ext.trans (xZ wr).drew bK))
    all_goals
     go_wp2;go_ret
     exact ⟨aT HF.u.symm,(HWE.u _ bK).u.2⟩
   have HCH:Hid (∀w',Calls prog 153 #[.agg (jF p)] w' fun e w''=>e=.returned (.bool true)/\Ext w' w''):=fun w'=>uZ
   have RU:Hid ((∀(i:Nat) (x:Pa),i<k->rs[i]?=some x->comm x p=!((k:Int)==(i:Int)+n))->jS n rs k=true):=fun h=>Og HP.u hn hh h
   have HVP:=hY (UT hh);clear hh hn;go_upto_region 6 with fail
   go_region_held3 (fun w'=>(w'.cell? (aA w.z 0)=some (iI n)/\w'.cell? (aA w.z 1)=some (.slice (some ⟨b,o,none⟩) l c))/\(w'.cell? (aA b (o+k*4))=some (iI p.n)/\w'.cell? (aA b (o+k*4+1))=some (iI p.x)/\w'.cell? (aA b (o+k*4+2))=some (iI p.z)/\w'.cell? (aA b (o+k*4+3))=some (iI p.p)))
    (first|(go_keep;done)|(refine HK.u _ ?_;first|assumption|exact (xZ _).drew))
    (first|(go_at_call 153;(with_reducible refine (HCH.u _).mono ?_);rintro e w5 ⟨rfl,bK⟩;replace bK:Ext wr w5:=Ext.trans (xZ wr).drew bK))
   all_goals
    have Ko:=HWE.u _ bK;clear bK HK HWE HW b0 b1 x0 x1 x2 x3 Zv;go_wp2
    go_loopw [4] (fun iv ws=>∃i:Nat,i<=k/\iv=iI i/\Hid (∀(j:Nat) (y:Pa),j<i->rs[j]?=some y->comm y p=!((k:Int)==(j:Int)+n))/\Hid (ay ws w.heap.size 147 #[iI n,.slice (some ⟨b,o,none⟩) l c]/\Ext w ws)) (fun i _=>k - (intOf i).toNat)
    case atStart=>exact ⟨0,lJ _,rfl,fun j y hj=>absurd hj aa,Ko⟩
    case round=>
     obtain ⟨i,hi,rfl,HI,HWI⟩:=hrel;clear Ko
     by_cases Fz:i<k
     ·have HIK:=hY Fz;have hil:i<l:=aa
      obtain ⟨x,hx⟩:=Vy.u i hil;have HXI:=hY hx;clear hx;have HVX:=hY (aaO HXI.u (HQ.u i HIK.u));have hwi:IntKind.i64.wrap ((i:Int)+n)=(i:Int)+n:=lH _ aa;have xi:Hid (∀w',Ext wr w'->(w'.cell? (aA w.z 0)=some (iI n)/\w'.cell? (aA w.z 1)=some (.slice (some ⟨b,o,none⟩) l c))/\(w'.cell? (aA b (o+i*4))=some (iI x.n)/\w'.cell? (aA b (o+i*4+1))=some (iI x.x)/\w'.cell? (aA b (o+i*4+2))=some (iI x.z)/\w'.cell? (aA b (o+i*4+3))=some (iI x.p))/\(w'.cell? (aA b (o+k*4))=some (iI p.n)/\w'.cell? (aA b (o+k*4+1))=some (iI p.x)/\w'.cell? (aA b (o+k*4+2))=some (iI p.z)/\w'.cell? (aA b (o+k*4+3))=some (iI p.p))):=fun w' hx=>⟨(bt (HWI.u.1.ext hx)).1,IY (h.up (HWI.u.2.trans hx) (lI _)) (oN HIK.u bS.u) HXI.u,IY (h.up (HWI.u.2.trans hx) (lI _)) bS.u HP.u⟩
      have an7:Hid (∀w',Ext wr w'->Hid (ay w' w.heap.size 147 #[iI n,.slice (some ⟨b,o,none⟩) l c]/\Ext w w')):=fun w' hx=>⟨HWI.u.1.ext hx,HWI.u.2.trans hx⟩
      obtain ⟨⟨b0,b1⟩,⟨x0,x1,x2,x3⟩,y0,y1,y2,y3⟩:=xi.u wr (xZ _)
      cases hc:comm x p<;>cases he:((k:Int)==(i:Int)+n)
      ·have Zx:Hid (∀w',Calls prog 154 #[.agg (jF x),.agg (jF p)] w' fun e w''=>e=.returned (.bool false)/\Ext w' w''):=fun w'=>kG
       exact De
      ·have Zx:Hid (∀w',Calls prog 154 #[.agg (jF x),.agg (jF p)] w' fun e w''=>e=.returned (.bool false)/\Ext w' w''):=fun w'=>kG
       exact Dd
      ·have Zx:Hid (∀w',Calls prog 154 #[.agg (jF x),.agg (jF p)] w' fun e w''=>e=.returned (.bool true)/\Ext w' w''):=fun w'=>kG
       exact Dd
      ·have Zx:Hid (∀w',Calls prog 154 #[.agg (jF x),.agg (jF p)] w' fun e w''=>e=.returned (.bool true)/\Ext w' w''):=fun w'=>kG
       exact De
     ·have aje:i=k:=aa
      subst aje;have FR:=hY (RU.u HI.u);have HA:Hid (∀j,j<i+1->jS n rs j=true):=fun j hj=>by
       by_cases e:j=i
       ·rw [e];exact FR.u
       ·exact HQ.u j aa
      go_wp2;go_roundw
      case rel=>exact ⟨i+1,aa,az,HA,HWI⟩
      case measure=>simp [intOf];have:=bS.u;omega
  ·have uo:k=l:=aa
   subst uo;have HT:=hY (HG.u HQ.u);obtain ⟨⟨b0,b1⟩,-⟩:=bt HW.u.1;go_wp2;go_ret
   exact ⟨aT HT.u.symm,HW.u.2⟩
def Oh (a b:Int) (e:Ed):Bool:=e.a==a && e.b==b
def fJ (es:List Ed) (a b:Int):Bool:=es.any (Oh a b)
theorem Vz {es:List Ed} {a b:Int} {k:Nat} {e:Ed} (h:es[k]?=some e) (h1:(e.a==a)=true) (h2:(e.b==b)=true):fJ es a b=true:=by
 unfold fJ;rw [yO]
 exact ⟨e,lG h,by unfold Oh;rw [h1,h2];rfl⟩
theorem RV {es:List Ed} {a b:Int} {k:Nat} {e:Ed} (h:es[k]?=some e) (hk:fJ (es.take k) a b=false) (he:Oh a b e=false):fJ (es.take (k+1)) a b=false:=by
 unfold fJ at*
 rw [aL h,List.any_append,hk];simp [he]
def FT (x:Gr) (g:Gt):Bool:=vg g x.n && (ar g.k==1||(g.k==9 && fJ x.es g.a g.b))
def Df (x:Gr) (gs:List Gt):Bool:=gs.all (FT x)
theorem IZ {x:Gr} {gs:List Gt} {k:Nat} {g:Gt} (h:gs[k]?=some g) (hg:FT x g=false):Df x gs=false:=by
 unfold Df;rw [Gl];intro ha;rw [lO] at ha;rw [ha g (lG h)] at hg
 cases hg
theorem GW {x:Gr} {gs:List Gt} {k:Nat} {g:Gt} (h:gs[k]?=some g) (hk:Df x (gs.take k)=true) (hg:FT x g=true):Df x (gs.take (k+1))=true:=by
 unfold Df at*
 rw [aL h,nX,hk];simp [hg]
theorem Dg {P:Prop} (h:P:=by
 go_wp2;go_round
 case rel=>exact ⟨k+1,aa,az,hY (RV HG.u HQ.u HE.u)⟩
 case measure=>simp [intOf];omega):P:=h
theorem iu (v:Value) (x:Gr) (a b:Int) (w:World) (h:eR w w.heap.size v x) (hn:x.es.length<=2000000000000):
  Calls prog 73 #[v,iI a,iI b] w fun e w'=>e=.returned (.bool (fJ x.es a b))/\Ext w w':=by
 obtain ⟨A1,c1,rfl,h1⟩:=h;go_enter func73,ntmps73;go_wp2
 go_loop [7] (fun i=>∃k:Nat,k<=x.es.length/\i=iI k/\Hid (fJ (x.es.take k) a b=false)) (fun i=>x.es.length - (intOf i).toNat)
 case atStart=>exact ⟨0,lJ _,rfl,hY (by simp [fJ])⟩
 case round=>
  obtain ⟨k,hk,rfl,HQ⟩:=hrel
  by_cases bh:k<x.es.length
  ·obtain ⟨b0,o,e,rfl,hb,hg,r0,r1⟩:=IK h1 bh;have HG:=hY hg;clear hg
   cases e1:(e.a==a)
   ·have HE:Hid (Oh a b e=false):=by unfold Hid Oh;rw [e1];rfl
    exact Dg
   ·cases e2:(e.b==b)
    ·have HE:Hid (Oh a b e=false):=by unfold Hid Oh;rw [e1,e2];rfl
     exact Dg
    ·have HF:=hY (Vz HG.u e1 e2)
     exact ku
  ·rw [lE aa] at HQ;go_wp2;go_ret
   exact ⟨aT HQ.u.symm,xx⟩
theorem rM (A:OA) (n c:Nat) (gs:List Gt) (v:Value) (x:Gr) (w:World) (h:Rd w w.heap.size 4 A n (ak gs)) (hv:eR w w.heap.size v x) (hn:n<=2000000000000) (hm:x.es.length<=2000000000000):
  Calls prog 50 #[.slice A n c,v] w fun e w'=>e=.returned (.bool (Df x gs))/\Ext w w':=by
 have hlen:=hY (h.len Gt.aE aa);obtain ⟨A1,c1,rfl,h1⟩:=hv;have hG:eR w w.heap.size (.agg #[iI x.n,.slice A1 x.es.length c1]) x:=⟨A1,c1,rfl,h1⟩;clear h1;go_enter func50,ntmps50;go_wp2
 go_loopw [5] (fun i wr=>∃k:Nat,k<=n/\i=iI k/\Hid (Df x (gs.take k)=true)/\ay wr w.heap.size 42 #[iI x.n,.slice A1 x.es.length c1]/\Ext w wr) (fun i _=>n - (intOf i).toNat)
 case atStart=>exact ⟨0,lJ _,rfl,hY (by simp [Df]),ay.new _ _ _,xx⟩
 case round=>
  obtain ⟨k,hk,rfl,HQ,hB,hx⟩:=hrel
  by_cases bh:k<n
  ·obtain ⟨b,o,g,rfl,hb,hg,r0,r1,r2,r3⟩:=bE (h.ext hx) bh;have HG:=hY hg;clear hg;have RW:=hB.lt;have q0:=hB.ck 0;have q1:=hB.ck 1;go_wp2_with fail;refine (bj g x.n _).mono ?_;rintro e w1 ⟨rfl,ki⟩;have hL1:ay w1 wr.heap.size 54 (gA g):=(ay.new wr _ _).ext ki;have qp:=(hB.alloc (cO (gA g) 54)).ext ki;have aS:Ext w w1:=Ext.trans (hx.alloc _) ki;clear ki q0 q1 r0 r1 r2 r3 hB;have p0:=hL1.ck 0;have p1:=hL1.ck 1;have p2:=hL1.ck 2;have q0:=qp.ck 0;have q1:=qp.ck 1
   cases hv:vg g x.n
   ·have HF:=hY (IZ HG.u (x:=x) (by unfold FT;rw [hv];rfl));go_wp2;go_ret
    exact ⟨aT HF.u.symm,aS⟩
   ·go_wp2_with fail;refine (aY _ _).mono ?_;rintro e w2 ⟨rfl,rfl⟩
    cases ha:(ar g.k==1)
    ·have ha':(ar g.k !=1)=true:=by simp [bne,ha]
     cases VA:(g.k==9)
     ·have aoa:(g.k !=9)=true:=by simp [bne,VA]
      have HF:=hY (IZ HG.u (x:=x) (by unfold FT;rw [hv,ha,VA];rfl));go_wp2;go_ret
      exact ⟨aT HF.u.symm,aS⟩
     ·have aoa:(g.k !=9)=false:=by simp [bne,VA]
      go_wp2_with fail;refine (iu _ x g.a g.b _ ((hG.up aS (lI _)).more aS.size) hm).mono ?_;rintro e w2 ⟨rfl,si⟩;have rh:=qp.ext si;have bH:=aS.trans si;clear si
      cases he:fJ x.es g.a g.b
      ·have HF:=hY (IZ HG.u (x:=x) (by unfold FT;rw [hv,ha,VA,he];rfl));go_wp2;go_ret
       exact ⟨aT HF.u.symm,bH⟩
      ·have HT:Hid (FT x g=true):=by unfold Hid FT;rw [hv,ha,VA,he];rfl
       go_wp2;go_roundw
       case rel=>exact ⟨k+1,aa,az,hY (GW HG.u HQ.u HT.u),rh,bH⟩
       case measure=>simp [intOf];omega
    ·have ha':(ar g.k !=1)=false:=by simp [bne,ha]
     have HT:Hid (FT x g=true):=by unfold Hid FT;rw [hv,ha];rfl
     go_wp2;go_roundw
     case rel=>exact ⟨k+1,aa,az,hY (GW HG.u HQ.u HT.u),qp,aS⟩
     case measure=>simp [intOf];omega
  ·rw [lE bN] at HQ;have q0:=hB.ck 0;go_wp2;go_ret
   exact ⟨aT HQ.u.symm,hx⟩
end Go.Proofs.YtiajdbllccmokaaGreatDoor
