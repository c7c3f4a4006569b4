import Derived.Test.YtodhjgngkkcjgaaGreatDoorXf
import Derived.Test.YtodhjgngkkcjgaaGreatDoorXe
namespace Go.Proofs.YtodhjgngkkcjgaaGreatDoor
open Go.ChangeShapes Go.WideShapes Go.ChangeAt Go.RowKit Go.Deep Go.Proofs.Tryz
set_option linter.unusedVariables false
set_option linter.unusedSimpArgs false
set_option maxRecDepth 100000
set_option maxHeartbeats 16000000
def okS (g:Gt) (m:Int) (i:Nat) (q:Int):Bool:=
 if ar g.k<=i then q==0 else decide (0<=q) && decide (q<=m) && !(gf ((kf g).take i) q)
theorem akD {g:Gt} {m:Int} {i:Nat} {q:Int} (h:ar g.k<=i):okS g m i q=(q==0):=aY h
theorem ack {g:Gt} {m:Int} {i:Nat} {q:Int} (h:¬ar g.k<=i):okS g m i q=(decide (0<=q) && decide (q<=m) && !(gf ((kf g).take i) q)):=aM h
theorem ag0 {g:Gt} {m:Int} {i:Nat} {q:Int} (h:¬ar g.k<=i) (hr:q<0\/m<q):okS g m i q=false:=by
 rw [ack h];rcases hr with hr|hr
 ·have e:decide (0<=q)=false:=ai
  simp [e]
 ·have e:decide (q<=m)=false:=ai
  simp [e]
theorem acm (g:Gt) (n:Int) (i:Nat) (q:Int):okS g (n - 1) i q=DS g n i q:=by
 unfold okS DS
 by_cases h:ar g.k<=i
 ·rw [aY h,aY h]
 ·rw [aM h,aM h];have e:(kf g).take i=(qs g).take i:=by
   unfold kf;rw [List.take_take,show min i (ar g.k).toNat=i from aa]
  rw [e];rfl
theorem w64 (n:Int):IntKind.i64.wrap n=wrap64 n:=by rw [IntKind.wrap_i64];unfold wrap64;omega
def vgS (g:Gt) (n:Int):Bool:=decide (0<ar g.k) && decide (1<=n) && decide (n<=4)
theorem CY {g:Gt} {n m:Int} (hm:m=IntKind.i64.wrap (n - 1)) {k:Nat} {q:Int} (hq:(qs g)[k]?=some q) (h:okS g m k q=false):vg g n=false:=by
 by_cases hn:n<1\/4<n
 ·exact aki hn
 ·have e:m=n - 1:=by rw [hm];exact lH _ aa
  subst e
  exact GI hq (by rw [<-acm];exact h)
theorem Ht {P:Prop} (h:P:=by
 rcases hn with hn|hn
 ·have e:decide (1<=n)=false:=ai
  simp [e]
 ·have e:decide (n<=4)=false:=ai
  simp [e]):P:=h
theorem Uv {g:Gt} {n m:Int} (hm:m=IntKind.i64.wrap (n - 1)) (h:∀i q,(qs g)[i]?=some q->okS g m i q=true):vg g n=vgS g n:=by
 unfold vgS
 by_cases hn:n<1\/4<n
 ·rw [aki hn]
  exact Ht
 ·have e:m=n - 1:=by rw [hm];exact lH _ aa
  subst e
  by_cases h0:0<ar g.k
  ·rw [NW aa aa h0 (fun i q hq=>by rw [<-acm];exact h i q hq)];have e1:decide (1<=n)=true:=ai
   have e2:decide (n<=4)=true:=ai
   simp [e1,e2,h0]
  ·have h1:=eL g.k;rw [aoy aa];simp [h0]
theorem mD {P:Prop} (h:P:=by
 go_wp2;go_ret
 exact ⟨aI HF.u.symm,xx⟩):P:=h
theorem zT {P:Prop} (h:P:=by
 go_wp2;go_ret
 exact ⟨aI (by rw [HF.u,HV.u]),xx⟩):P:=h
theorem bn (g:Gt) (n:Int) (w:World):
  Calls prog 67 #[g.val,iI n] w fun e w'=>e=.returned (.bool (vg g n))/\Ext w w':=by
 obtain ⟨gV,jl⟩:=eL g.k;have CZ:=hY (oL g);go_enter func67,ntmps67;go_wp2_with fail;refine (eM g _).mono ?_;rintro e w1 ⟨v1,rfl,eu,aK⟩;obtain ⟨A1,c1,rfl,kG⟩:=ak eu;have hB:au w1 w.heap.size 39 (gA g):=(au.new w _ _).ext aK;have hx:Ext w w1:=Ext.trans aw aK;have hhd:0<(kf g).length->∃b,A1=some ⟨b,0,none⟩/\(kf g).length<=c1:=fun h=>ny eu h
 have HHD:=hY hhd;clear hhd aK eu;have b1:=hB.ck 1;have b2:=hB.ck 2;have b3:=hB.ck 3;generalize hL:(kf g).length=L at*
 have HL:=CZ;clear hL CZ;have hLi:(L:Int)=ar g.k:=oM HL.u
 have HLi:=hY hLi;have hL3:L<=3:=aa
 clear hLi;go_wp2;clear b1 b2 b3 hB;have hA:au (w1.alloc (cO #[iI g.a,iI g.b,iI g.c] 3)) w1.heap.size 3 #[iI g.a,iI g.b,iI g.c]:=au.new _ _ _;have jk:=kG.ext ((xZ w1).alloc (cO #[iI g.a,iI g.b,iI g.c] 3));have bz:=hx.alloc (cO #[iI g.a,iI g.b,iI g.c] 3);clear kG hx;generalize (w1.alloc (cO #[iI g.a,iI g.b,iI g.c] 3))=W at*
 go_loopw [7] (fun i wr=>∃k:Nat,k<=3/\i=iI k/\Hid (∀i q,i<k->(qs g)[i]?=some q->okS g (IntKind.i64.wrap (n - 1)) i q=true)/\∃r,wr=W.drewN r) (fun i _=>3 - (intOf i).toNat)
 case atStart=>exact ⟨0,aa,rfl,fun i q h=>absurd h aa,0,rfl⟩
 case round=>
  obtain ⟨k,hk,rfl,HQ,r,rfl⟩:=hrel
  by_cases ba:k<3
  ·obtain ⟨q,hq⟩:=aiK (g:=g) ba;have hc:W.cell? (aA w1.z k)=some (iI q):=by
    rw [hA.cell k];rcases (aa:k=0\/k=1\/k=2) with rfl|rfl|rfl<;>(simp [qs] at hq;subst hq;rfl)
   have HG:=hY hq;clear hq;have lu:(0:Int)<=(k:Int):=aa
   have Qt:(k:Int)<3:=aa
   by_cases hak:L<=k
   ·have hd:decide (L<=k)=true:=by simp [hak]
    have KR:decide (k<L)=false:=ai
    have HO:=hY (akD (g:=g) (m:=IntKind.i64.wrap (n - 1)) (i:=k) (q:=q) (oM HLi.u))
    cases fc:(q==0)
    ·have akj:(q !=0)=true:=mY
     have HF:=hY (CY rfl HG.u (by rw [HO.u,fc]));go_wp2;go_quiet (fail)
     exact mD
    ·have akj:(q !=0)=false:=mY
     go_wp2;go_quiet (fail);go_wp2;go_roundw
     case rel=>
      refine ⟨k+1,aa,az,fun i q' hi Gl=>?_,_,rfl⟩
      by_cases e:i=k
      ·subst e;have:=HG.u;rw [Gl] at this;injection this with this;rw [this,HO.u,fc]
      ·exact HQ.u i q' aa Gl
     case measure=>simp [intOf];omega
   ·have hd:decide (L<=k)=false:=ai
    have hkL:k<L:=aa
    have KR:decide (k<L)=true:=by simp [hkL]
    have YH:¬ar g.k<=k:=oM HLi.u
    have HAK:=hY YH;have HO:=hY (ack (m:=IntKind.i64.wrap (n - 1)) (q:=q) YH);clear hak YH;obtain ⟨b,rfl,hLc⟩:=HHD.u aa;have hkc:(k:Int)<=(c1:Int):=aa
    by_cases hr:q<0\/IntKind.i64.wrap (n - 1)<q
    ·have HF:=hY (CY rfl HG.u (ag0 HAK.u hr));have HR:=hY hr;have jN:Hid (q<0\/wrap64 (n - 1)<q):=by rw [w64] at hr;exact hr
     clear hr;go_wp2;go_quiet ((go_at_call 26;(with_reducible refine fY (bP _ _ _ _ ?_));first|exact HR.u|exact jN.u))
     exact mD
    ·have h1:0<=q:=aa
     have h2:q<=IntKind.i64.wrap (n - 1):=aa
     have HH2:=hY h2;have HH3:Hid (q<=wrap64 (n - 1)):=by rw [w64] at h2;exact h2
     have HH1:=hY h1;clear hr h2;have hRk:=zJ jk (yw hkL);rw [qK] at hRk;have HRk:Hid (∀z,Rd (W.drewN z) (W.drewN z).heap.size 1 (some ⟨b,0,none⟩) k (aD ((kf g).take k))):=fun z=>hRk.ext ((xZ W).drewN z)
     clear hRk
     cases hs:gf ((kf g).take k) q
     ·go_wp2;go_quiet (first|(go_at_call 26;(with_reducible refine fY (aF _ _ _ _ HH1.u ?_));first|exact HH2.u|exact HH3.u)|(go_at_call 47;(with_reducible refine fY (dE _ k c1 ((kf g).take k) q _ (HRk.u _) ?_));omega));go_wp2;go_roundw
      case rel=>
       refine ⟨k+1,aa,az,fun i q' hi Gl=>?_,_,rfl⟩
       by_cases e:i=k
       ·subst e;have:=HG.u;rw [Gl] at this;injection this with this;rw [this,HO.u,hs];simp [HH1.u,HH2.u]
       ·exact HQ.u i q' aa Gl
      case measure=>simp [intOf];omega
     ·have HF:=hY (CY rfl HG.u (by rw [HO.u,hs];simp));go_wp2;go_quiet (first|(go_at_call 26;(with_reducible refine fY (aF _ _ _ _ HH1.u ?_));first|exact HH2.u|exact HH3.u)|(go_at_call 47;(with_reducible refine fY (dE _ k c1 ((kf g).take k) q _ (HRk.u _) ?_));omega))
      exact mD
  ·obtain rfl:k=3:=aa
   have HF:=hY (Uv (g:=g) (n:=n) rfl (fun i q h=>HQ.u i q rB h))
   by_cases h0:0<L
   ·by_cases hn:n<1\/4<n
    ·have HV:Hid (vgS g n=false):=by
      unfold Hid vgS
      exact Ht
     have HN:=hY hn;clear hn;go_wp2_with fail;refine (bP _ _ _ _ HN.u).mono ?_;rintro e w2 ⟨rfl,rfl⟩
     exact zT
    ·have HV:Hid (vgS g n=true):=by
      unfold Hid vgS;have e1:decide (1<=n)=true:=ai
      have e2:decide (n<=4)=true:=ai
      have e3:decide (0<ar g.k)=true:=by have:=HLi.u;simp;omega
      simp [e1,e2,e3]
     go_wp2_with fail;refine (aF _ _ _ _ aa aa).mono ?_;rintro e w2 ⟨rfl,rfl⟩
     exact zT
   ·have HV:Hid (vgS g n=false):=by
     unfold Hid vgS;have e3:decide (0<ar g.k)=false:=by have:=HLi.u;simp;omega
     simp [e3]
    have h0':decide (0<L)=false:=ai
    clear h0
    exact zT
theorem Uw:prog.stoodInHeld 251=false:=af
theorem Rp:prog.eqGuardType prog.depth 251=false:=af
theorem Hu (x y:Pa) (w:World):(Op.equalIn 10000 251 x.val y.val).run prog w=.ok (VZ x y) w:=by
 have h1:=Uw;unfold VZ
 by_cases e1:x.n=y.n<;>by_cases e2:x.x=y.x<;>by_cases e3:x.z=y.z<;>by_cases e4:x.p=y.p<;>(go_simp<;>simp [*])
theorem bu {w:World} {g t:Nat} {a b:Value} (h:au w g t #[a,b]):(w.cell? (aA g 0)=some a/\w.cell? (aA g 1)=some b)/\w.frozen? (aA g 0)=false/\w.frozen? (aA g 1)=false:=
 ⟨⟨h.cell 0,h.cell 1⟩,h.frozen 0,h.frozen 1⟩
theorem uY (A B:OA) (c d:Nat) (n m:Int) (xs ys:List Pa) (w:World) (h:Rd w w.heap.size 4 A xs.length (aX xs)) (h':Rd w w.heap.size 4 B ys.length (aX ys)) (hn:xs.length<=2000000000000) (hm:ys.length<=2000000000000):
  Calls prog 226 #[.agg #[iI n,.slice A xs.length c],.agg #[iI m,.slice B ys.length d]] w fun e w'=>e=.returned (.bool (n==m && vY VZ xs ys))/\Ext w w':=by
 cases QK:(n==m)
 ·have hnb:(n !=m)=true:=by rw [bne,QK];rfl
  go_enter func226,ntmps226;go_wp2;go_ret
  exact ⟨rfl,xx⟩
 have hnb:(n !=m)=false:=by rw [bne,QK];rfl
 have HT:Hid (∀b:Bool,(true && b)=b):=fun b=>by cases b<;>rfl
 by_cases hl:xs.length=ys.length
 ·obtain ⟨l,hxl⟩:=ex (xs.length);have hyl:ys.length=l:=aa
  rw [hxl] at h hn;rw [hyl] at h' hm;rw [hxl,hyl];have HXL:=hY hxl;have HYL:=hY hyl;clear hl hxl hyl;go_enter func226,ntmps226;go_wp2;have HX:Hid (Ext w ((w.alloc (cO #[iI n,.slice A l c] 207)).alloc (cO #[iI m,.slice B l d] 207))):=xx;have B1:au ((w.alloc (cO #[iI n,.slice A l c] 207)).alloc (cO #[iI m,.slice B l d] 207)) w.heap.size 207 #[iI n,.slice A l c]:=(au.new w _ _).alloc _;have B2:au ((w.alloc (cO #[iI n,.slice A l c] 207)).alloc (cO #[iI m,.slice B l d] 207)) (w.heap.size+1) 207 #[iI m,.slice B l d]:=au.newAt ag;generalize ((w.alloc (cO #[iI n,.slice A l c] 207)).alloc (cO #[iI m,.slice B l d] 207))=w2 at*
  obtain ⟨⟨b0,b1⟩,-⟩:=bu B1;obtain ⟨⟨c0,c1⟩,-⟩:=bu B2;have h2:=h.up HX.u (lI _);have h2':=h'.up HX.u (lI _);clear B1 B2 h h'
  go_loopw [5] (fun i wr=>∃k:Nat,k<=l/\i=iI k/\Hid (vY VZ (xs.take k) (ys.take k)=true)/\∃q,wr=w2.drewN q) (fun i _=>l - (intOf i).toNat)
  case atStart=>exact ⟨0,lJ _,rfl,by simp [Hid,vY],0,rfl⟩
  case round=>
   obtain ⟨k,hk,rfl,HQ,q,rfl⟩:=hrel
   by_cases ba:k<l
   ·obtain ⟨b,o,g,rfl,hb,hg,x0,x1,x2,x3⟩:=gD h2 ba;obtain ⟨b',o',g',rfl,rJ,Bc,y0,y1,y2,y3⟩:=gD h2' ba;have HG:=hY hg;have VJ:=hY Bc;clear hg Bc
    cases hq:VZ g g'
    ·have HF:=hY (xu VZ HG.u VJ.u hq);have HN:=(show ∀w,(Op.equalIn 10000 251 g.val g'.val).run prog w=.ok false w from fun w=>by rw [Hu,hq]);have HE:=Rp;go_wp2;go_quiet (fail);go_wp2;go_ret;have HXX:=HX.u
     exact ⟨aI (by rw [HF.u];rfl),xx⟩
    ·have HN:=(show ∀w,(Op.equalIn 10000 251 g.val g'.val).run prog w=.ok true w from fun w=>by rw [Hu,hq]);have HE:=Rp;go_wp2;go_quiet (fail);go_wp2;go_roundw
     case rel=>exact ⟨k+1,aa,az,zk,_,rfl⟩
     case measure=>simp [intOf];omega
   ·have:k=l:=aa
    subst this;rw [lE (by rw [HXL.u];omega),lE (by rw [HYL.u];omega)] at HQ;go_wp2;go_ret;have HXX:=HX.u
    exact ⟨aI (by rw [HQ.u];rfl),xx⟩
 ·have hl':((xs.length:Int) !=(ys.length:Int))=true:=rC
  have HF:=hY (EY VZ xs ys hl);clear hl;go_enter func226,ntmps226;go_wp2;go_ret
  exact ⟨aI (by rw [HF.u];rfl),xx⟩
def Tl (n:Int) (gs:List Gt):Bool:=decide (1<=n) && decide (n<=4) && decide (gs.length<=60) && gs.all (fun g=>vg g n)
theorem ag1 {n:Int} {gs:List Gt} {k:Nat} {g:Gt} (h:gs[k]?=some g) (hg:vg g n=false):Tl n gs=false:=by
 unfold Tl;have:gs.all (fun g=>vg g n)=false:=by
  rw [FN]
  exact ⟨g,lG h,by simp [hg]⟩
 rw [this,ic]
theorem Mr {α:Type} (f:α->Bool) {xs:List α} {k:Nat} {x:α} (h:xs[k]?=some x) (ha:(xs.take k).all f=true) (hx:f x=true):(xs.take (k+1)).all f=true:=by
 rw [TJ,h,qG,ha];simp [hx]
theorem aco {n:Int} {gs:List Gt} (h:(gs.take gs.length).all (fun g=>vg g n)=true) (h1:1<=n) (h4:n<=4) (hl:gs.length<=60):Tl n gs=true:=by
 rw [pg] at h;unfold Tl;simp [h,h1,h4,hl]
theorem ao6 {n:Int} {gs:List Gt} (h:n<1\/4<n):Tl n gs=false:=by
 unfold Tl;rcases h with h|h
 ·rw [lZ (aa:¬1<=n)];simp
 ·rw [lZ (aa:¬n<=4)];simp
theorem ao7 {n:Int} {gs:List Gt} (h:60<gs.length):Tl n gs=false:=by
 unfold Tl;rw [lZ (aa:¬gs.length<=60)];simp
theorem kA (A:OA) (c:Nat) (n:Int) (gs:List Gt) (w:World) (h:Rd w w.heap.size 4 A gs.length (aq gs)) (hl:gs.length<=2000000000000):
  Calls prog 174 #[.agg #[iI n,.slice A gs.length c]] w fun e w'=>e=.returned (.bool (Tl n gs))/\Ext w w':=by
 obtain ⟨l,di⟩:=ex (gs.length);rw [di] at h hl;rw [di];have HL:=hY di;clear di;go_enter func174,ntmps174;go_wp2;have HX:Hid (Ext w (w.alloc (cO #[iI n,.slice A l c] 183))):=xx;have HB:Hid (au (w.alloc (cO #[iI n,.slice A l c] 183)) w.heap.size 183 #[iI n,.slice A l c]):=au.new w _ _;generalize (w.alloc (cO #[iI n,.slice A l c] 183))=w1 at*
 go_loopw [3] (fun i wr=>∃k:Nat,k<=l/\i=iI k/\Hid ((gs.take k).all (fun g=>vg g n)=true)/\Hid (au wr w.heap.size 183 #[iI n,.slice A l c]/\Ext w wr)) (fun i _=>l - (intOf i).toNat)
 case atStart=>exact ⟨0,lJ _,rfl,by simp [Hid],⟨HB.u,HX.u⟩⟩
 case round=>
  obtain ⟨k,hk,rfl,HQ,HW⟩:=hrel;clear HB HX
  by_cases ba:k<l
  ·obtain ⟨b,o,g,rfl,hb,hg,-⟩:=bT h ba;have HG:=hY hg;have HK:Hid (∀w',Ext wr w'->(w'.cell? (aA w.z 0)=some (iI n)/\w'.cell? (aA w.z 1)=some (.slice (some ⟨b,o,none⟩) l c))/\(w'.cell? (aA b (o+k*4))=some (iI g.k)/\w'.cell? (aA b (o+k*4+1))=some (iI g.a)/\w'.cell? (aA b (o+k*4+2))=some (iI g.b)/\w'.cell? (aA b (o+k*4+3))=some (iI g.c))):=fun w' hx=>by
    obtain ⟨b2,o2,g2,he,-,jW,x0,x1,x2,x3⟩:=bT (h.up (HW.u.2.trans hx) (lI _)) ba;simp only [iG,jR] at he;obtain ⟨rfl,rfl,-⟩:=he;rw [hg] at jW;obtain rfl:=kx jW
    exact ⟨(bu (HW.u.1.ext hx)).1,x0,x1,x2,x3⟩
   have HWE:Hid (∀w',Ext wr w'->au w' w.heap.size 183 #[iI n,.slice (some ⟨b,o,none⟩) l c]/\Ext w w'):=fun w' hx=>⟨HW.u.1.ext hx,HW.u.2.trans hx⟩
   clear hg;obtain ⟨⟨b0,b1⟩,x0,x1,x2,x3⟩:=HK.u wr (xZ _)
   cases hv:vg g n
   ·have HV:Hid (∀w',Calls prog 67 #[.agg (gA g),iI n] w' fun e w''=>e=.returned (.bool false)/\Ext w' w''):=fun w'=>zh
    have HF:=hY (ag1 HG.u hv);clear hv;go_upto_region 4 with fail
    go_region_held3 (fun w'=>(w'.cell? (aA w.z 0)=some (iI n)/\w'.cell? (aA w.z 1)=some (.slice (some ⟨b,o,none⟩) l c))/\(w'.cell? (aA b (o+k*4))=some (iI g.k)/\w'.cell? (aA b (o+k*4+1))=some (iI g.a)/\w'.cell? (aA b (o+k*4+2))=some (iI g.b)/\w'.cell? (aA b (o+k*4+3))=some (iI g.c)))
     (first|(go_keep;done)|(refine HK.u _ ?_;first|assumption|exact (xZ _).drew))
     (first|(go_at_call 67;(with_reducible refine (HV.u _).mono ?_);rintro e w5 ⟨rfl,cf⟩;replace cf:Ext wr w5:=Ext.trans (xZ wr).drew cf))
    all_goals
     go_wp2;go_ret
     exact ⟨aI HF.u.symm,(HWE.u _ cf).2⟩
   ·have HV:Hid (∀w',Calls prog 67 #[.agg (gA g),iI n] w' fun e w''=>e=.returned (.bool true)/\Ext w' w''):=fun w'=>zh
    have HA:=hY (Mr (fun g=>vg g n) HG.u HQ.u hv);clear hv;go_upto_region 4 with fail
    go_region_held3 (fun w'=>(w'.cell? (aA w.z 0)=some (iI n)/\w'.cell? (aA w.z 1)=some (.slice (some ⟨b,o,none⟩) l c))/\(w'.cell? (aA b (o+k*4))=some (iI g.k)/\w'.cell? (aA b (o+k*4+1))=some (iI g.a)/\w'.cell? (aA b (o+k*4+2))=some (iI g.b)/\w'.cell? (aA b (o+k*4+3))=some (iI g.c)))
     (first|(go_keep;done)|(refine HK.u _ ?_;first|assumption|exact (xZ _).drew))
     (first|(go_at_call 67;(with_reducible refine (HV.u _).mono ?_);rintro e w5 ⟨rfl,cf⟩;replace cf:Ext wr w5:=Ext.trans (xZ wr).drew cf))
    all_goals
     go_wp2;go_roundw
     case rel=>exact ⟨k+1,aa,az,HA,HWE.u _ cf⟩
     case measure=>simp [intOf];omega
  ·have wE:k=l:=aa
   subst wE;obtain ⟨⟨b0,b1⟩,-⟩:=bu HW.u.1
   by_cases hn:n<1\/4<n
   ·have HN:=hY hn;have HF:=hY (ao6 (gs:=gs) hn);clear hn ba;go_wp2_with fail;refine (bP _ _ _ _ HN.u).mono ?_;rintro e w5 ⟨rfl,rfl⟩;go_wp2;go_ret
    exact ⟨aI HF.u.symm,HW.u.2⟩
   ·have jX:1<=n:=aa
    have zn:n<=4:=aa
    clear hn ba
    by_cases h60:k<=60
    ·have HT:=hY (aco (gs:=gs) (n:=n) (by rw [HL.u];exact HQ.u) jX zn (by rw [HL.u];exact h60));have hd:(k:Int)<=60:=aa
     go_wp2_with fail;refine (aF _ _ _ _ jX zn).mono ?_;rintro e w5 ⟨rfl,rfl⟩;go_wp2;go_ret
     exact ⟨aI HT.u.symm,HW.u.2⟩
    ·have HF:=hY (ao7 (gs:=gs) (n:=n) mZ);have hd:¬(k:Int)<=60:=aa
     go_wp2_with fail;refine (aF _ _ _ _ jX zn).mono ?_;rintro e w5 ⟨rfl,rfl⟩;go_wp2;go_ret
     exact ⟨aI (by rw [HF.u];exact lZ aa),HW.u.2⟩
theorem Ux {n:Int} {rs:List Pa} (h:n<1\/4<n):oO n rs=false:=by
 unfold oO;rcases h with h|h
 ·rw [lZ (aa:¬1<=n)];simp
 ·rw [lZ (aa:¬n<=4)];simp
theorem acp {n:Int} {rs:List Pa} (h:((rs.length:Int)==2*n)=false):oO n rs=false:=by
 unfold oO;rw [h];simp
theorem acq {n:Int} {rs:List Pa} {k:Nat} (hk:k<rs.length) (h:kW n rs k=false):oO n rs=false:=by
 unfold oO;have:(List.range rs.length).all (kW n rs)=false:=by
  rw [FN]
  exact ⟨k,sU hk,aZ⟩
 rw [this,ic]
theorem YU {n:Int} {rs:List Pa} (h1:1<=n) (h4:n<=4) (hl:((rs.length:Int)==2*n)=true) (h:∀k,k<rs.length->kW n rs k=true):oO n rs=true:=by
 unfold oO;have:(List.range rs.length).all (kW n rs)=true:=by
  rw [lO];intro k hk
  exact h k (sU hk)
 rw [this,hl];simp [h1,h4]
theorem ag2 {n:Int} {rs:List Pa} {k:Nat} {p:Pa} (hp:rs[k]?=some p) (h:(p.n==n)=false):kW n rs k=false:=by
 unfold kW;rw [hp];simp only [h,ku]
theorem Wt {n:Int} {rs:List Pa} {k:Nat} {p:Pa} (hp:rs[k]?=some p) (h:Lk p=false):kW n rs k=false:=by
 unfold kW;rw [hp];simp only [h,ku,ic]
theorem Uy {n:Int} {rs:List Pa} {k i:Nat} {p x:Pa} (hp:rs[k]?=some p) (hi:i<k) (hx:rs[i]?=some x) (h:comm x p=((k:Int)==(i:Int)+n)):kW n rs k=false:=by
 unfold kW;rw [hp];refine (Bool.and_eq_false_iff.2 (Or.inr ?_));rw [FN];refine ⟨i,sU hi,?_⟩;rw [hx];simp only;rw [h]
 by_cases e:(k:Int)=i+n
 ·rw [vP e,eS.2 e];decide
 ·rw [lZ e,DE.2 e];decide
theorem Uz {n:Int} {rs:List Pa} {k:Nat} {p:Pa} (hp:rs[k]?=some p) (hn:(p.n==n)=true) (hh:Lk p=true) (h:∀(i:Nat) (x:Pa),i<k->rs[i]?=some x->comm x p=!((k:Int)==(i:Int)+n)):kW n rs k=true:=by
 unfold kW;rw [hp];simp only [hn,hh,oc];rw [lO];intro i hi
 cases hx:rs[i]? with
 |none=>rfl
 |some x=>
  simp only;rw [h i x (sU hi) hx]
  by_cases e:(k:Int)=i+n
  ·rw [vP e,eS.2 e];decide
  ·rw [lZ e,DE.2 e];decide
theorem ag3 {n:Int} {rs:List Pa} {k:Nat} {p:Pa} (hp:rs[k]?=some p) (h:kW n rs k=true):iO p=true:=by
 apply abP
 cases e:Lk p with
 |true=>rfl
 |false=>rw [Wt hp e] at h;cases h
theorem Oe {w:World} {B b o l i:Nat} {rs:List Pa} (h:Rd w B 4 (some ⟨b,o,none⟩) l (aX rs)) (hi:i<l) {x:Pa} (hx:rs[i]?=some x):
  w.cell? (aA b (o+i*4))=some (iI x.n)/\w.cell? (aA b (o+i*4+1))=some (iI x.x)/\w.cell? (aA b (o+i*4+2))=some (iI x.z)/\w.cell? (aA b (o+i*4+3))=some (iI x.p):=by
 obtain ⟨b',o',x',he,-,sr,hc⟩:=gD h hi;simp only [iG,jR] at he;obtain ⟨rfl,rfl,-⟩:=he;rw [hx] at sr;obtain rfl:=kx sr
 exact hc
theorem Hv {P:Prop} (h:P:=by
 have HN2:Hid (∀(j:Nat) (y:Pa),j<i+1->rs[j]?=some y->comm y p=!((k:Int)==(j:Int)+n)):=fun j y hj hy=>by
  by_cases e:j=i
  ·subst e;rw [HXI.u] at hy;obtain rfl:=kx hy;rw [hc,he];rfl
  ·exact HI.u j y aa hy
 clear hc;go_upto_region 11 with fail
 go_region_held3 (fun w'=>(w'.cell? (aA w.z 0)=some (iI n)/\w'.cell? (aA w.z 1)=some (.slice (some ⟨b,o,none⟩) l c))/\(w'.cell? (aA b (o+i*4))=some (iI x.n)/\w'.cell? (aA b (o+i*4+1))=some (iI x.x)/\w'.cell? (aA b (o+i*4+2))=some (iI x.z)/\w'.cell? (aA b (o+i*4+3))=some (iI x.p))/\(w'.cell? (aA b (o+k*4))=some (iI p.n)/\w'.cell? (aA b (o+k*4+1))=some (iI p.x)/\w'.cell? (aA b (o+k*4+2))=some (iI p.z)/\w'.cell? (aA b (o+k*4+3))=some (iI p.p)))
  (first|(go_keep;done)|(refine Bh.u _ ?_;first|assumption|exact (xZ _).drew))
  (first|(go_at_call 215;(with_reducible refine (YV.u _).mono ?_);rintro e w6 ⟨rfl,qB⟩;replace qB:Ext wr w6:=Ext.trans (xZ wr).drew qB))
 all_goals
  go_wp2;go_roundw
  case rel=>exact ⟨i+1,oM HIK.u,az,HN2,at3.u _ qB⟩
  case measure=>simp [intOf];have:=HIK.u;omega):P:=h
theorem Hw {P:Prop} (h:P:=by
 have HF:=hY (akG.u k bZ.u (Uy HP.u HIK.u HXI.u (by rw [hc,he])));clear hc;go_upto_region 11 with fail
 go_region_held3 (fun w'=>(w'.cell? (aA w.z 0)=some (iI n)/\w'.cell? (aA w.z 1)=some (.slice (some ⟨b,o,none⟩) l c))/\(w'.cell? (aA b (o+i*4))=some (iI x.n)/\w'.cell? (aA b (o+i*4+1))=some (iI x.x)/\w'.cell? (aA b (o+i*4+2))=some (iI x.z)/\w'.cell? (aA b (o+i*4+3))=some (iI x.p))/\(w'.cell? (aA b (o+k*4))=some (iI p.n)/\w'.cell? (aA b (o+k*4+1))=some (iI p.x)/\w'.cell? (aA b (o+k*4+2))=some (iI p.z)/\w'.cell? (aA b (o+k*4+3))=some (iI p.p)))
  (first|(go_keep;done)|(refine Bh.u _ ?_;first|assumption|exact (xZ _).drew))
  (first|(go_at_call 215;(with_reducible refine (YV.u _).mono ?_);rintro e w6 ⟨rfl,qB⟩;replace qB:Ext wr w6:=Ext.trans (xZ wr).drew qB))
 all_goals
  go_wp2;go_ret
  exact ⟨aI HF.u.symm,HWI.u.2.trans qB⟩):P:=h
theorem dp (A:OA) (c:Nat) (n:Int) (rs:List Pa) (w:World) (h:Rd w w.heap.size 4 A rs.length (aX rs)) (hl:rs.length<=2000000000000) (BP:rs.length<=c):
  Calls prog 202 #[.agg #[iI n,.slice A rs.length c]] w fun e w'=>e=.returned (.bool (oO n rs))/\Ext w w':=by
 obtain ⟨l,di⟩:=ex (rs.length);rw [di] at h hl BP;rw [di];have HL:=hY di;clear di
 by_cases hn:n<1\/4<n
 ·have HN:=hY hn;have HF:=hY (Ux (rs:=rs) hn);clear hn;go_enter func202,ntmps202;go_wp2_with fail;refine (bP _ _ _ _ HN.u).mono ?_;rintro e w5 ⟨rfl,rfl⟩
  exact mD
 have jX:1<=n:=aa
 have zn:n<=4:=aa
 have hw2:IntKind.i64.wrap (2*n)=2*n:=lH _ aa;clear hn
 cases DW:((l:Int)==2*n)
 ·have HF:=hY (acp (rs:=rs) (n:=n) (by rw [HL.u];exact DW));have hnb:((l:Int) !=2*n)=true:=by rw [bne,DW];rfl
  clear DW;go_enter func202,ntmps202;go_wp2_with fail;refine (aF _ _ _ _ jX zn).mono ?_;rintro e w5 ⟨rfl,rfl⟩
  exact mD
 have hnb:((l:Int) !=2*n)=false:=by rw [bne,DW];rfl
 have By:Hid ((l:Int)=2*n):=by unfold Hid;simpa using DW
 have HG:Hid ((∀k,k<l->kW n rs k=true)->oO n rs=true):=fun h=>YU jX zn (by rw [HL.u];exact DW) (by rw [HL.u];exact h)
 have akG:Hid (∀k,k<l->kW n rs k=false->oO n rs=false):=fun k hk h=>acq (by rw [HL.u];exact hk) h
 clear DW;obtain ⟨b,o,rfl,-,-⟩:=h.2 (oM By.u);have acr:Hid (∀i,i<l->∃x,rs[i]?=some x):=fun i hi=>⟨_,lB (by rw [HL.u];exact hi)⟩
 go_enter func202,ntmps202;go_wp2_with fail;refine (aF _ _ _ _ jX zn).mono ?_;rintro e w5 ⟨rfl,rfl⟩;go_wp2;have HX:Hid (Ext w (w.alloc (cO #[iI n,.slice (some ⟨b,o,none⟩) l c] 207))):=xx;have HB:Hid (au (w.alloc (cO #[iI n,.slice (some ⟨b,o,none⟩) l c] 207)) w.heap.size 207 #[iI n,.slice (some ⟨b,o,none⟩) l c]):=au.new w _ _;generalize (w.alloc (cO #[iI n,.slice (some ⟨b,o,none⟩) l c] 207))=w1 at*
 clear hnb hw2
 go_loopw [3] (fun i wr=>∃k:Nat,k<=l/\i=iI k/\Hid (∀j,j<k->kW n rs j=true)/\Hid (au wr w.heap.size 207 #[iI n,.slice (some ⟨b,o,none⟩) l c]/\Ext w wr)) (fun i _=>l - (intOf i).toNat)
 case atStart=>exact ⟨0,lJ _,rfl,fun j hj=>absurd hj aa,⟨HB.u,HX.u⟩⟩
 case round=>
  obtain ⟨k,hk,rfl,HQ,HW⟩:=hrel;clear HB HX
  by_cases ba:k<l
  ·have bZ:=hY ba;obtain ⟨p,hp⟩:=acr.u k ba;have HP:=hY hp;clear hp;have HK:Hid (∀w',Ext wr w'->(w'.cell? (aA w.z 0)=some (iI n)/\w'.cell? (aA w.z 1)=some (.slice (some ⟨b,o,none⟩) l c))/\(w'.cell? (aA b (o+k*4))=some (iI p.n)/\w'.cell? (aA b (o+k*4+1))=some (iI p.x)/\w'.cell? (aA b (o+k*4+2))=some (iI p.z)/\w'.cell? (aA b (o+k*4+3))=some (iI p.p))):=fun w' hx=>⟨(bu (HW.u.1.ext hx)).1,Oe (h.up (HW.u.2.trans hx) (lI _)) bZ.u HP.u⟩
   have HWE:Hid (∀w',Ext wr w'->Hid (au w' w.heap.size 207 #[iI n,.slice (some ⟨b,o,none⟩) l c]/\Ext w w')):=fun w' hx=>⟨HW.u.1.ext hx,HW.u.2.trans hx⟩
   obtain ⟨⟨b0,b1⟩,x0,x1,x2,x3⟩:=HK.u wr (xZ _)
   cases hn:(p.n==n)
   ·have HF:=hY (akG.u k bZ.u (ag2 HP.u hn));have hnb:(p.n !=n)=true:=mX
    clear hn;go_upto_region 6 with fail;refine dt (S:=(fun w'=>(w'.cell? (aA w.z 0)=some (iI n)/\w'.cell? (aA w.z 1)=some (.slice (some ⟨b,o,none⟩) l c))/\(w'.cell? (aA b (o+k*4))=some (iI p.n)/\w'.cell? (aA b (o+k*4+1))=some (iI p.x)/\w'.cell? (aA b (o+k*4+2))=some (iI p.z)/\w'.cell? (aA b (o+k*4+3))=some (iI p.p)))) af (HK.u _ (xZ wr).drew) (fun aEQ=>?_);refine tq 0 ?_;refine tq 1 ?_;refine tq 2 ?_;refine tq 3 ?_;refine tq 4 ?_;refine tq 5 ?_;refine tq 6 ?_;refine tq 7 ?_;refine tq 8 ?_;refine tq 9 ?_;refine sk 10 ?_;refine sk 11 ?_;refine sk 12 ?_;refine sk 13 ?_;refine sk 14 ?_;refine sk 15 ?_;refine sk 16 ?_;refine tq 17 ?_;refine dn ?_;go_wp2;go_ret
    exact ⟨aI HF.u.symm,HW.u.2.drew⟩
   have hnb:(p.n !=n)=false:=mX
   cases hh:Lk p
   ·have HF:=hY (akG.u k bZ.u (Wt HP.u hh));have HCH:Hid (∀w',Calls prog 214 #[.agg (jF p)] w' fun e w''=>e=.returned (.bool false)/\Ext w' w''):=fun w'=>zg
    clear hh hn;go_upto_region 6 with fail
    go_region_held3 (fun w'=>(w'.cell? (aA w.z 0)=some (iI n)/\w'.cell? (aA w.z 1)=some (.slice (some ⟨b,o,none⟩) l c))/\(w'.cell? (aA b (o+k*4))=some (iI p.n)/\w'.cell? (aA b (o+k*4+1))=some (iI p.x)/\w'.cell? (aA b (o+k*4+2))=some (iI p.z)/\w'.cell? (aA b (o+k*4+3))=some (iI p.p)))
     (first|(go_keep;done)|(refine HK.u _ ?_;first|assumption|exact (xZ _).drew))
     (first|(go_at_call 214;(with_reducible refine (HCH.u _).mono ?_);rintro e w5 ⟨rfl,cf⟩;replace cf:Ext wr w5:=Ext.trans (xZ wr).drew cf))
    all_goals
     go_wp2;go_ret
     exact ⟨aI HF.u.symm,(HWE.u _ cf).u.2⟩
   have HCH:Hid (∀w',Calls prog 214 #[.agg (jF p)] w' fun e w''=>e=.returned (.bool true)/\Ext w' w''):=fun w'=>zg
   have HGD:Hid ((∀(i:Nat) (x:Pa),i<k->rs[i]?=some x->comm x p=!((k:Int)==(i:Int)+n))->kW n rs k=true):=fun h=>Uz HP.u hn hh h
   have HVP:=hY (abP hh);clear hh hn;go_upto_region 6 with fail
   go_region_held3 (fun w'=>(w'.cell? (aA w.z 0)=some (iI n)/\w'.cell? (aA w.z 1)=some (.slice (some ⟨b,o,none⟩) l c))/\(w'.cell? (aA b (o+k*4))=some (iI p.n)/\w'.cell? (aA b (o+k*4+1))=some (iI p.x)/\w'.cell? (aA b (o+k*4+2))=some (iI p.z)/\w'.cell? (aA b (o+k*4+3))=some (iI p.p)))
    (first|(go_keep;done)|(refine HK.u _ ?_;first|assumption|exact (xZ _).drew))
    (first|(go_at_call 214;(with_reducible refine (HCH.u _).mono ?_);rintro e w5 ⟨rfl,cf⟩;replace cf:Ext wr w5:=Ext.trans (xZ wr).drew cf))
   all_goals
    have Qg:=HWE.u _ cf;clear cf HK HWE HW b0 b1 x0 x1 x2 x3 hnb;go_wp2
    go_loopw [4] (fun iv ws=>∃i:Nat,i<=k/\iv=iI i/\Hid (∀(j:Nat) (y:Pa),j<i->rs[j]?=some y->comm y p=!((k:Int)==(j:Int)+n))/\Hid (au ws w.heap.size 207 #[iI n,.slice (some ⟨b,o,none⟩) l c]/\Ext w ws)) (fun i _=>k - (intOf i).toNat)
    case atStart=>exact ⟨0,lJ _,rfl,fun j y hj=>absurd hj aa,Qg⟩
    case round=>
     obtain ⟨i,hi,rfl,HI,HWI⟩:=hrel;clear Qg
     by_cases KY:i<k
     ·have HIK:=hY KY;have hil:i<l:=aa
      obtain ⟨x,hx⟩:=acr.u i hil;have HXI:=hY hx;clear hx;have HVX:=hY (ag3 HXI.u (HQ.u i HIK.u));have hwi:IntKind.i64.wrap ((i:Int)+n)=(i:Int)+n:=lH _ aa;have Bh:Hid (∀w',Ext wr w'->(w'.cell? (aA w.z 0)=some (iI n)/\w'.cell? (aA w.z 1)=some (.slice (some ⟨b,o,none⟩) l c))/\(w'.cell? (aA b (o+i*4))=some (iI x.n)/\w'.cell? (aA b (o+i*4+1))=some (iI x.x)/\w'.cell? (aA b (o+i*4+2))=some (iI x.z)/\w'.cell? (aA b (o+i*4+3))=some (iI x.p))/\(w'.cell? (aA b (o+k*4))=some (iI p.n)/\w'.cell? (aA b (o+k*4+1))=some (iI p.x)/\w'.cell? (aA b (o+k*4+2))=some (iI p.z)/\w'.cell? (aA b (o+k*4+3))=some (iI p.p))):=fun w' hx=>⟨(bu (HWI.u.1.ext hx)).1,Oe (h.up (HWI.u.2.trans hx) (lI _)) (oN HIK.u bZ.u) HXI.u,Oe (h.up (HWI.u.2.trans hx) (lI _)) bZ.u HP.u⟩
      have at3:Hid (∀w',Ext wr w'->Hid (au w' w.heap.size 207 #[iI n,.slice (some ⟨b,o,none⟩) l c]/\Ext w w')):=fun w' hx=>⟨HWI.u.1.ext hx,HWI.u.2.trans hx⟩
      obtain ⟨⟨b0,b1⟩,⟨x0,x1,x2,x3⟩,y0,y1,y2,y3⟩:=Bh.u wr (xZ _)
      cases hc:comm x p<;>cases he:((k:Int)==(i:Int)+n)
      ·have YV:Hid (∀w',Calls prog 215 #[.agg (jF x),.agg (jF p)] w' fun e w''=>e=.returned (.bool false)/\Ext w' w''):=fun w'=>mT
       exact Hw
      ·have YV:Hid (∀w',Calls prog 215 #[.agg (jF x),.agg (jF p)] w' fun e w''=>e=.returned (.bool false)/\Ext w' w''):=fun w'=>mT
       exact Hv
      ·have YV:Hid (∀w',Calls prog 215 #[.agg (jF x),.agg (jF p)] w' fun e w''=>e=.returned (.bool true)/\Ext w' w''):=fun w'=>mT
       exact Hv
      ·have YV:Hid (∀w',Calls prog 215 #[.agg (jF x),.agg (jF p)] w' fun e w''=>e=.returned (.bool true)/\Ext w' w''):=fun w'=>mT
       exact Hw
     ·have ao9:i=k:=aa
      subst ao9;have Ln:=hY (HGD.u HI.u);have HA:Hid (∀j,j<i+1->kW n rs j=true):=fun j hj=>by
       by_cases e:j=i
       ·rw [e];exact Ln.u
       ·exact HQ.u j aa
      go_wp2;go_roundw
      case rel=>exact ⟨i+1,aa,az,HA,HWI⟩
      case measure=>simp [intOf];have:=bZ.u;omega
  ·have wE:k=l:=aa
   subst wE;have HT:=hY (HG.u HQ.u);obtain ⟨⟨b0,b1⟩,-⟩:=bu HW.u.1;go_wp2;go_ret
   exact ⟨aI HT.u.symm,HW.u.2⟩
def UA (a b:Int) (e:Ed):Bool:=e.a==a && e.b==b
def gP (es:List Ed) (a b:Int):Bool:=es.any (UA a b)
theorem acu {es:List Ed} {a b:Int} {k:Nat} {e:Ed} (h:es[k]?=some e) (h1:(e.a==a)=true) (h2:(e.b==b)=true):gP es a b=true:=by
 unfold gP;rw [CD]
 exact ⟨e,lG h,by unfold UA;rw [h1,h2];rfl⟩
theorem YW {es:List Ed} {a b:Int} {k:Nat} {e:Ed} (h:es[k]?=some e) (hk:gP (es.take k) a b=false) (he:UA a b e=false):gP (es.take (k+1)) a b=false:=by
 unfold gP at*
 rw [aS h,List.any_append,hk];simp [he]
def Lo (x:Gr) (g:Gt):Bool:=vg g x.n && (ar g.k==1||(g.k==9 && gP x.es g.a g.b))
def Hx (x:Gr) (gs:List Gt):Bool:=gs.all (Lo x)
theorem Hy {P:Prop} (h:P:=by
 rw [Qq];intro ha;rw [lO] at ha;rw [ha g (lG h)] at hg
 cases hg):P:=h
theorem Of {x:Gr} {gs:List Gt} {k:Nat} {g:Gt} (h:gs[k]?=some g) (hg:Lo x g=false):Hx x gs=false:=by
 unfold Hx
 exact Hy
theorem Ms {x:Gr} {gs:List Gt} {k:Nat} {g:Gt} (h:gs[k]?=some g) (hk:Hx x (gs.take k)=true) (hg:Lo x g=true):Hx x (gs.take (k+1))=true:=by
 unfold Hx at*
 rw [aS h,qG,hk];simp [hg]
theorem Hz {P:Prop} (h:P:=by
 go_wp2;go_round
 case rel=>exact ⟨k+1,aa,az,hY (YW HG.u HQ.u HE.u)⟩
 case measure=>simp [intOf];omega):P:=h
theorem jr (v:Value) (x:Gr) (a b:Int) (w:World) (h:fB w w.heap.size v x) (hn:x.es.length<=2000000000000):
  Calls prog 111 #[v,iI a,iI b] w fun e w'=>e=.returned (.bool (gP x.es a b))/\Ext w w':=by
 obtain ⟨A1,c1,rfl,h1⟩:=h;go_enter func111,ntmps111;go_wp2
 go_loop [7] (fun i=>∃k:Nat,k<=x.es.length/\i=iI k/\Hid (gP (x.es.take k) a b=false)) (fun i=>x.es.length - (intOf i).toNat)
 case atStart=>exact ⟨0,lJ _,rfl,hY (by simp [gP])⟩
 case round=>
  obtain ⟨k,hk,rfl,HQ⟩:=hrel
  by_cases ba:k<x.es.length
  ·obtain ⟨b0,o,e,rfl,hb,hg,r0,r1⟩:=NM h1 ba;have HG:=hY hg;clear hg
   cases e1:(e.a==a)
   ·have HE:Hid (UA a b e=false):=by unfold Hid UA;rw [e1];rfl
    exact Hz
   ·cases e2:(e.b==b)
    ·have HE:Hid (UA a b e=false):=by unfold Hid UA;rw [e1,e2];rfl
     exact Hz
    ·have HF:=hY (acu HG.u e1 e2)
     exact mD
  ·rw [lE aa] at HQ;go_wp2;go_ret
   exact ⟨aI HQ.u.symm,xx⟩
theorem uZ (A:OA) (n c:Nat) (gs:List Gt) (v:Value) (x:Gr) (w:World) (h:Rd w w.heap.size 4 A n (aq gs)) (hv:fB w w.heap.size v x) (hn:n<=2000000000000) (hm:x.es.length<=2000000000000):
  Calls prog 89 #[.slice A n c,v] w fun e w'=>e=.returned (.bool (Hx x gs))/\Ext w w':=by
 have hlen:=hY (h.len Gt.aG aa);obtain ⟨A1,c1,rfl,h1⟩:=hv;have hG:fB w w.heap.size (.agg #[iI x.n,.slice A1 x.es.length c1]) x:=⟨A1,c1,rfl,h1⟩;clear h1;go_enter func89,ntmps89;go_wp2
 go_loopw [5] (fun i wr=>∃k:Nat,k<=n/\i=iI k/\Hid (Hx x (gs.take k)=true)/\au wr w.heap.size 63 #[iI x.n,.slice A1 x.es.length c1]/\Ext w wr) (fun i _=>n - (intOf i).toNat)
 case atStart=>exact ⟨0,lJ _,rfl,hY (by simp [Hx]),au.new _ _ _,xx⟩
 case round=>
  obtain ⟨k,hk,rfl,HQ,hB,hx⟩:=hrel
  by_cases ba:k<n
  ·obtain ⟨b,o,g,rfl,hb,hg,r0,r1,r2,r3⟩:=bT (h.ext hx) ba;have HG:=hY hg;clear hg;have YX:=hB.lt;have q0:=hB.ck 0;have q1:=hB.ck 1;go_wp2_with fail;refine (bn g x.n _).mono ?_;rintro e w1 ⟨rfl,dw⟩;have hL1:au w1 wr.heap.size 39 (gA g):=(au.new wr _ _).ext dw;have qA:=(hB.alloc (cO (gA g) 39)).ext dw;have aK:Ext w w1:=Ext.trans (hx.alloc _) dw;clear dw q0 q1 r0 r1 r2 r3 hB;have p0:=hL1.ck 0;have p1:=hL1.ck 1;have p2:=hL1.ck 2;have q0:=qA.ck 0;have q1:=qA.ck 1
   cases hv:vg g x.n
   ·have HF:=hY (Of HG.u (x:=x) (by unfold Lo;rw [hv];rfl));go_wp2;go_ret
    exact ⟨aI HF.u.symm,aK⟩
   ·go_wp2_with fail;refine (bc _ _).mono ?_;rintro e w2 ⟨rfl,rfl⟩
    cases ha:(ar g.k==1)
    ·have ha':(ar g.k !=1)=true:=by simp [bne,ha]
     cases hk9:(g.k==9)
     ·have at6:(g.k !=9)=true:=by simp [bne,hk9]
      have HF:=hY (Of HG.u (x:=x) (by unfold Lo;rw [hv,ha,hk9];rfl));go_wp2;go_ret
      exact ⟨aI HF.u.symm,aK⟩
     ·have at6:(g.k !=9)=false:=by simp [bne,hk9]
      go_wp2_with fail;refine (jr _ x g.a g.b _ ((hG.up aK (lI _)).more aK.size) hm).mono ?_;rintro e w2 ⟨rfl,iW⟩;have xQ:=qA.ext iW;have bz:=aK.trans iW;clear iW
      cases he:gP x.es g.a g.b
      ·have HF:=hY (Of HG.u (x:=x) (by unfold Lo;rw [hv,ha,hk9,he];rfl));go_wp2;go_ret
       exact ⟨aI HF.u.symm,bz⟩
      ·have HT:Hid (Lo x g=true):=by unfold Hid Lo;rw [hv,ha,hk9,he];rfl
       go_wp2;go_roundw
       case rel=>exact ⟨k+1,aa,az,hY (Ms HG.u HQ.u HT.u),xQ,bz⟩
       case measure=>simp [intOf];omega
    ·have ha':(ar g.k !=1)=false:=by simp [bne,ha]
     have HT:Hid (Lo x g=true):=by unfold Hid Lo;rw [hv,ha];rfl
     go_wp2;go_roundw
     case rel=>exact ⟨k+1,aa,az,hY (Ms HG.u HQ.u HT.u),qA,aK⟩
     case measure=>simp [intOf];omega
  ·rw [lE bQ] at HQ;have q0:=hB.ck 0;go_wp2;go_ret
   exact ⟨aI HQ.u.symm,hx⟩
def Da (x:Gr) (g:Gt):List Gt:=if gP x.es g.a g.b=true then [hU g.a g.b] else [g1 4 g.a,g1 4 g.b,hU g.b g.a,g1 4 g.a,g1 4 g.b]
def se (x:Gr) (g:Gt):Bool:=gP x.es g.a g.b||gP x.es g.b g.a
def eU (x:Gr) (g:Gt):Bool:=vg g x.n && (ar g.k==1||(se x g && (g.k==9||g.k==11)))
def kI (x:Gr) (g:Gt):List Gt:=if eU x g=true then (if (ar g.k==1)=true then [g] else (dec g).flatMap (Da x)) else []
theorem Og {x:Gr} {g:Gt} (h:eU x g=false):kI x g=[]:=by unfold kI;rw [aM aZ]
theorem akI {x:Gr} {g:Gt} (h:eU x g=true) (h1:(ar g.k==1)=true):kI x g=[g]:=by unfold kI;rw [aY h,aY h1]
theorem UC {x:Gr} {g:Gt} (h:eU x g=true) (h1:(ar g.k==1)=false):kI x g=(dec g).flatMap (Da x):=by unfold kI;rw [aY h,aM dC]
theorem Wu (x:Gr) (g:Gt):(Da x g).length<=5:=by unfold Da;split<;>simp
theorem BQ (x:Gr) (gs:List Gt):(gs.flatMap (Da x)).length<=5*gs.length:=by
 induction gs with
 |nil=>simp
 |cons g gs ih=>have:=Wu x g;rw [jQ,lA,ki];omega
theorem Ia (x:Gr) (g:Gt):(kI x g).length<=75:=by
 unfold kI;split
 ·split
  ·simp
  ·have h1:=BQ x (dec g);have h2:=xz g;omega
 ·simp
def iZ (x:Gr) (gs:List Gt):Bool:=gs.all (eU x)
def zU (x:Gr) (gs:List Gt):List Gt:=if iZ x gs=true then gs.flatMap (kI x) else []
theorem aiZ {x:Gr} {gs:List Gt} {k:Nat} {g:Gt} (h:gs[k]?=some g) (hg:eU x g=false):iZ x gs=false:=by
 unfold iZ
 exact Hy
theorem afL {x:Gr} {gs:List Gt} {k:Nat} {g:Gt} (h:gs[k]?=some g) (hk:iZ x (gs.take k)=true) (hg:eU x g=true):iZ x (gs.take (k+1))=true:=by
 unfold iZ at*
 rw [aS h,qG,hk];simp [hg]
theorem YY {x:Gr} {gs:List Gt} (h:iZ x gs=false):zU x gs=[]:=by unfold zU;rw [aM aZ]
theorem UD {x:Gr} {gs:List Gt} (h:iZ x gs=true):zU x gs=gs.flatMap (kI x):=by unfold zU;rw [aY h]
theorem anr {x:Gr} {gs:List Gt} {k:Nat} {g:Gt} (h:gs[k]?=some g):(gs.take (k+1)).flatMap (kI x)=(gs.take k).flatMap (kI x)++kI x g:=by
 rw [aS h,lR];simp
theorem acw (x:Gr) (gs:List Gt):(gs.flatMap (kI x)).length<=75*gs.length:=by
 induction gs with
 |nil=>simp
 |cons g gs ih=>have:=Ia x g;rw [jQ,lA,ki];omega
theorem ar9:ar 9=2:=iw
theorem acx {g:Gt} {n:Int} (h:vg g n=true):1<=n/\n<=4/\0<ar g.k/\DS g n 0 g.a=true/\DS g n 1 g.b=true/\DS g n 2 g.c=true:=by
 unfold vg at h;simp only [lF,kh] at h;obtain ⟨⟨⟨⟨⟨h1,h2⟩,h3⟩,h4⟩,h5⟩,h6⟩:=h
 exact ⟨h1,h2,h3,h4,h5,h6⟩
theorem acy {g:Gt} {n:Int} (h:vg g n=true) (h2:ar g.k=2):1<=n/\n<=4/\0<=g.a/\g.a<=n - 1/\0<=g.b/\g.b<=n - 1/\g.a≠g.b/\g.c=0:=by
 obtain ⟨p1,p2,p3,p4,p5,p6⟩:=acx h;rw [wm (by rw [h2];omega)] at p4;rw [wm (by rw [h2];omega)] at p5;rw [Uj (by rw [h2];omega)] at p6;simp only [lF,kh,qs,CF,Nu,eS] at p4 p5 p6;obtain ⟨⟨p5a,p5b⟩,p5c⟩:=p5;refine ⟨p1,p2,p4.1.1,p4.1.2,p5a,p5b,fun e=>?_,p6⟩;rw [e] at p5c;simp at p5c
theorem ai0 {n a b:Int} (h1:1<=n) (h2:n<=4) (ha:0<=a) (ha':a<=n - 1) (hb:0<=b) (rJ:b<=n - 1) (hne:a≠b):vg (hU a b) n=true:=by
 refine NW h1 h2 (by show 0<ar 9;rw [ar9];omega) ?_;intro i q hq;have hk:(hU a b).k=9:=rfl;rcases (by have:=(gu.1 hq).1;simp [qs] at this;omega:i=0\/i=1\/i=2) with rfl|rfl|rfl
 ·rw [wm (by rw [hk,ar9];omega)];simp [qs,hU] at hq;subst hq;simp [ha,ha']
 ·rw [wm (by rw [hk,ar9];omega)];simp [qs,hU] at hq;subst hq;simp [hb,rJ,qs,hU,hne.symm]
 ·rw [Uj (by rw [hk,ar9];omega)];simp [qs,hU] at hq;subst hq;simp
theorem BR {k:Int} (h:(k==9)=true\/(k==11)=true):ar k=2:=by
 rcases h with h|h<;>(rw [eS] at h;subst h;unfold ar;omega)
theorem acz {g:Gt} {n:Int} (h:vg g n=true) (h9:(g.k==9)=true):g=hU g.a g.b:=by
 have h2:=acy h (BR (.inl h9));rw [eS] at h9;obtain ⟨k,a,b,c⟩:=g;simp at h2 h9;simp [hU,h9,h2.2.2.2.2.2.2.2]
theorem apa {g:Gt} (h9:(g.k==9)=true):dec g=[g]:=by
 rw [eS] at h9
 exact abG (by rw [h9];rfl) (by rw [h9];rfl) (by rw [h9];rfl)
theorem acA {g:Gt} (h:(g.k==11)=true):dec g=[hU g.a g.b,hU g.b g.a,hU g.a g.b]:=by
 have h':=h;rw [eS] at h'
 exact QI (by rw [h'];rfl) h
end Go.Proofs.YtodhjgngkkcjgaaGreatDoor
