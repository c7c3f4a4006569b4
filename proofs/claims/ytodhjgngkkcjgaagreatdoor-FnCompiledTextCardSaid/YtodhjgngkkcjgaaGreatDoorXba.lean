import Derived.Test.YtodhjgngkkcjgaaGreatDoorXx
import Derived.Test.YtodhjgngkkcjgaaGreatDoorXy
namespace Go.Proofs.YtodhjgngkkcjgaaGreatDoor
open Go.ChangeShapes Go.WideShapes Go.ChangeAt Go.RowKit Go.Deep Go.Proofs.Tryz
set_option linter.unusedVariables false
set_option linter.unusedSimpArgs false
set_option maxRecDepth 100000
set_option maxHeartbeats 16000000
theorem JD:(prog.info? 112).map (fun i=>(i.zero,i.size,i.bytes))=some (some (nS),1,24):=af
def Rows (w0 W:World) (B:Nat) (vs:List Value) (xss:List (List Gt)):Prop:=vs.length=xss.length/\∀(j:Nat) (xs:List Gt),xss[j]?=some xs->∃(A:OA) (c:Nat),vs[j]?=some (Value.slice A xs.length c)/\W.ownsRow w0.heap.size 39 4 (.slice A xs.length c) xs.length (aq xs)/\∀g,(Value.slice A xs.length c).ownBlock=some g->g<B
section
variable {w0 W W':World} {B B':Nat} {vs:List Value} {xss:List (List Gt)}
theorem Rows.nil:Rows w0 W B [] []:=⟨rfl,fun j xs h=>dX⟩
theorem Rows.ext (h:Rows w0 W B vs xss) (hx:Ext W W'):Rows w0 W' B vs xss:=⟨h.1,fun j xs hj=>by
 obtain ⟨A,c,h1,h2,h3⟩:=h.2 j xs hj
 exact ⟨A,c,h1,aj h2 hx,h3⟩⟩
theorem Rows.more (h:Rows w0 W B vs xss) (hB:B<=B'):Rows w0 W B' vs xss:=⟨h.1,fun j xs hj=>by
 obtain ⟨A,c,h1,h2,h3⟩:=h.2 j xs hj
 exact ⟨A,c,h1,h2,fun g hg=>qD (h3 g hg) hB⟩⟩
theorem Rows.base {w1:World} (h:Rows w0 W B vs xss) (hw:w1.heap.size<=w0.heap.size):Rows w1 W B vs xss:=⟨h.1,fun j xs hj=>by
 obtain ⟨A,c,h1,h2,h3⟩:=h.2 j xs hj
 exact ⟨A,c,h1,aC h2 hw,h3⟩⟩
theorem Rows.grown (h:Rows w0 W B vs xss) {B1 e s n:Nat} {v:Value} {ys:List Value} (ho:W.ownsRow B1 e s v n ys) (he:e≠39) (hg:W.grownBy W' v.ownBlock):Rows w0 W' B vs xss:=⟨h.1,fun j xs hj=>by
 obtain ⟨A,c,h1,h2,h3⟩:=h.2 j xs hj
 exact ⟨A,c,h1,h2.kept hg (dh h2 ho (vV he)),h3⟩⟩
theorem Rows.above (h:Rows w0 W B vs xss) {row:Option Nat} (hg:W.grownBy W' row) (hr:∀g,row=some g->B<=g):Rows w0 W' B vs xss:=⟨h.1,fun j xs hj=>by
 obtain ⟨A,c,h1,h2,h3⟩:=h.2 j xs hj;refine ⟨A,c,h1,h2.kept hg ?_,h3⟩
 cases hv:(Value.slice A xs.length c).ownBlock with
 |none=>exact .inl rfl
 |some k=>
  right;intro e;have:=h3 k hv;have:=hr k e.symm
  omega⟩
theorem Rows.snoc (h:Rows w0 W B vs xss) {A:OA} {c:Nat} {xs:List Gt} (h2:W.ownsRow w0.heap.size 39 4 (.slice A xs.length c) xs.length (aq xs)) (h3:∀g,(Value.slice A xs.length c).ownBlock=some g->g<B):Rows w0 W B (vs++[.slice A xs.length c]) (xss++[xs]):=by
 refine ⟨by rw [lA,lA,h.1];rfl,fun j ys hj=>?_⟩
 by_cases FX:j<xss.length
 ·rw [oY FX] at hj;obtain ⟨A',c',e1,e2,e3⟩:=h.2 j ys hj
  exact ⟨A',c',yO,e2,e3⟩
 ·rw [uS aa] at hj;have KZ:j - xss.length=0:=by
   have:=(gu.1 hj).1;simp at this;omega
  rw [KZ] at hj;simp at hj;subst hj;refine ⟨A,c,?_,h2,h3⟩;rw [uS (by rw [h.1];omega),h.1,KZ];rfl
theorem Rows.at_ (h:Rows w0 W B vs xss) {j:Nat} {xs:List Gt} (hj:xss[j]?=some xs):∃(A:OA) (c:Nat),vs[j]?=some (Value.slice A xs.length c)/\xs.length<=c/\Rd W W.heap.size 4 A xs.length (aq xs):=by
 obtain ⟨A,c,h1,h2,-⟩:=h.2 j xs hj;refine ⟨A,c,h1,?_,Rd.own h2⟩;rcases h2.2 with ⟨h0,h5⟩|⟨g,cap,cur,hv,_,_,LR,_⟩
 ·omega
 ·injection hv with _ _ h6;omega
end
theorem AK {w:World} {B e n c:Nat} {A:OA} {vs:List Value} (h:w.ownsRow B e 1 (.slice A n c) n vs) {j:Nat} (hj:j<n):∃g u,A=some ⟨g,0,none⟩/\B<=g/\vs[j]?=some u/\w.cell? (aA g j)=some u/\∀i,w.frozen? (aA g i)=false:=by
 have hl:=h.1;rcases h.2 with ⟨h0,h1⟩|⟨g,cap,cur,hv,hB,hc,-,-,hs,hx⟩
 ·omega
 ·injection hv with hv;subst hv;have hjv:j<vs.length:=aa
  have e1:vs[j]?=some (vs[j]'hjv):=lB hjv;refine ⟨g,vs[j]'hjv,rfl,hB,e1,?_,fun i=>CH w g i cur e hc⟩;rw [vR w g j cur e (0,0) hc,<-e1,<-hx,yi aa];simp
theorem MM (A:OA) (n c:Nat):(Value.slice A n c).oneCell'=true:=rfl
theorem Pf {w0 w:World} {ops:Array Oper} {rest:List Oper} {o:Oper} {a:Act} {Q:Exit->Act->World->Prop} (fX:o.guard=none) (s x:Operand)
  (ho:aO o s x 180) (v:Value) (n:Nat) (xs:List Value) (hs:a.eval s=v)
  (bj:w.ownsRow w0.heap.size 112 1 v n xs) (cD:Ext w0 w) (u:Value) (hu:u.oneCell'=true) (b:Nat) (hx:a.eval x=.slice (some ⟨b,0,none⟩) 1 1) (hr:Rd w w.heap.size 1 (some ⟨b,0,none⟩) 1 [u]) (hn:n+1<=2000000000000)
  (h:aH w0 w v 112 1 (n+1) (xs++[u]) (wpList prog ops Q rest) a o):wpList prog ops Q (o::rest) a w:=by
 obtain ⟨i0,hi,fH,iV,kz⟩:=jH JD
 exact fp fX s x _ ho 112 i0 _ 1 24 underlying180 hi fH iV kz rfl ae ae v n _ hs bj cD _ 1 1 _ hx hr yP hn h
theorem adZ {w0 w:World} {ops:Array Oper} {o:Oper} {a:Act} {K:Act->World->Prop} {Q:Exit->Act->World->Prop} {E:Prop} (fX:o.guard=none) (s x:Operand)
  (ho:aO o s x 180) (v:Value) (n:Nat) (xs:List Value) (hs:a.eval s=v)
  (bj:w.ownsRow w0.heap.size 112 1 v n xs) (cD:Ext w0 w) (u:Value) (hu:u.oneCell'=true) (b:Nat) (hx:a.eval x=.slice (some ⟨b,0,none⟩) 1 1) (hr:Rd w w.heap.size 1 (some ⟨b,0,none⟩) 1 [u]) (hn:n+1<=2000000000000)
  (h:aH w0 w v 112 1 (n+1) (xs++[u]) K a o):if Region.wanted o (yielded ops a.tmps)=true then Oper.wp prog o a w K Q else E:=by
 obtain ⟨i0,hi,fH,iV,kz⟩:=jH JD
 exact nz fX s x _ ho 112 i0 _ 1 24 underlying180 hi fH iV kz rfl ae ae v n _ hs bj cD _ 1 1 _ hx hr yP hn h
theorem JE {w:World} {B n i:Nat} {b o:Nat} {xs:List ByteArray} (h:Rd w B 1 (some ⟨b,o,none⟩) n (df xs)) (hi:i<n):b<B/\xs[i]?=some (xs.getD i ⟨#[]⟩)/\w.cell? (aA b (o+i))=some (.string (xs.getD i ⟨#[]⟩)):=by
 obtain ⟨b',o',x,e,hb,hx,hc⟩:=my h hi;injection e with e;injection e with e1 e2;subst e1 e2;have:xs.getD i ⟨#[]⟩=x:=by simp [List.getD,hx]
 rw [this]
 exact ⟨hb,hx,hc⟩
theorem iB {xs:List ByteArray} {m:Nat} (h:∀x∈xs,x.size<=m) (i:Nat):(xs.getD i ⟨#[]⟩).size<=m:=by
 cases e:xs[i]? with
 |none=>simp [List.getD,e,ByteArray.size]
 |some x=>
  have:xs.getD i ⟨#[]⟩=x:=by simp [List.getD,e]
  rw [this]
  exact h x (lG e)
theorem ahU (h:Gt):GW ((gw h).getD 0 ⟨#[]⟩) ((gw h).getD 1 ⟨#[]⟩) ((gw h).getD 2 ⟨#[]⟩) ((gw h).getD 3 ⟨#[]⟩) h:=by
 have hr:=eL h.k;unfold GW gw kf qs;rcases (aa:ar h.k=0\/ar h.k=1\/ar h.k=2\/ar h.k=3) with e|e|e|e
 all_goals
  rw [e];refine ⟨rfl,fun q=>?_,fun q=>?_,fun q=>?_⟩
 all_goals first|omega|rfl
theorem alQ (h:Gt):((gw h).length:Int)=ar h.k+1:=by
 have hr:=eL h.k;unfold gw;rw [ki,jK,oL];omega
def RG (y1 y2 y3:ByteArray) (q:Nat) (a b c:Int):Prop:=
 (1<=q->∃ok,PN y1 a ok)/\(2<=q->∃ok,PN y2 b ok)/\(3<=q->∃ok,PN y3 c ok)/\(q<=0->a=0)/\(q<=1->b=0)/\(q<=2->c=0)
theorem rg0 (y1 y2 y3:ByteArray):RG y1 y2 y3 0 0 0 0:=⟨fun q=>aa,fun q=>aa,fun q=>aa,fun _=>rfl,fun _=>rfl,fun _=>rfl⟩
theorem rg1 {y1 y2 y3:ByteArray} {a b c n:Int} {ok:Bool} (h:RG y1 y2 y3 0 a b c) (hn:PN y1 n ok):RG y1 y2 y3 1 n b c:=⟨fun _=>⟨ok,hn⟩,fun q=>aa,fun q=>aa,fun q=>aa,fun _=>h.2.2.2.2.1 aa,fun _=>h.2.2.2.2.2 aa⟩
theorem rg2 {y1 y2 y3:ByteArray} {a b c n:Int} {ok:Bool} (h:RG y1 y2 y3 1 a b c) (hn:PN y2 n ok):RG y1 y2 y3 2 a n c:=⟨fun _=>h.1 aa,fun _=>⟨ok,hn⟩,fun q=>aa,fun q=>aa,fun q=>aa,fun _=>h.2.2.2.2.2 aa⟩
theorem rg3 {y1 y2 y3:ByteArray} {a b c n:Int} {ok:Bool} (h:RG y1 y2 y3 2 a b c) (hn:PN y3 n ok):RG y1 y2 y3 3 a b n:=⟨fun _=>h.1 aa,fun _=>h.2.1 aa,fun _=>⟨ok,hn⟩,fun q=>aa,fun q=>aa,fun q=>aa⟩
theorem Ph {y0 y1 y2 y3:ByteArray} {k:Int} {h:Gt} (hv:vg h 4=true) (hw:GW y0 y1 y2 y3 h) (hk:∀j,1<=j->j<=12->y0=oa j->k=j) {n:Int} {ok:Bool}:
  (1<=ar k->PN y1 n ok->ok=true)/\(2<=ar k->PN y2 n ok->ok=true)/\(3<=ar k->PN y3 n ok->ok=true):=by
 obtain ⟨w0,w1,w2,w3⟩:=hw;have EM:=ahu hv;have e0:k=h.k:=hk h.k EM.1 EM.2 w0;subst e0;have hq:∀(i:Nat) q,(qs h)[i]?=some q->(i:Int)<ar h.k->0<=q/\q<=3:=by
  intro i q hi ba;refine Fp hv ?_;unfold kf
  exact lG (i:=i) yQ
 refine ⟨fun e hp=>?_,fun e hp=>?_,fun e hp=>?_⟩
 ·have:=hq 0 h.a rfl aa
  exact (hp.2.2 h.a this.1 aa (w1 e)).2
 ·have:=hq 1 h.b rfl aa
  exact (hp.2.2 h.b this.1 aa (w2 e)).2
 ·have:=hq 2 h.c rfl aa
  exact (hp.2.2 h.c this.1 aa (w3 e)).2
theorem ua {P:Prop} (h:P:=by
 have HS:Hid (∀h:Gt,vg h 4=true->s=iQ h->(⟨k,a,b',c⟩:Gt)=h):=by
  intro h hv he;have hj:=EJ.u;obtain ⟨t1,t2,t3,t4,t5,t6⟩:=RR.u
  exact sL hv (HW.u h hv he).1 HKJ.u (fun q=>t1 aa) (fun q=>t2 aa) (fun q=>t3 aa) (fun q=>t4 aa) (fun q=>t5 aa) (fun q=>t6 aa)
 have d0:=BB.u.ck 0;have d1:=BB.u.ck 1;have d2:=BB.u.ck 2;have d3:=BB.u.ck 3;go_wp2_with fail;refine (iX ⟨k,a,b',c⟩ 4 _).mono ?_;rintro e v ⟨rfl,hy⟩;have HY:=hY hy;clear hy d0 d1 d2 d3;obtain ⟨vv,hvv⟩:=ex (vg ⟨k,a,b',c⟩ 4);rw [hvv]
 cases vv
 ·have HN:Hid (∀h:Gt,vg h 4=true->s=iQ h->(⟨0,0,0,0⟩:Gt)=h):=by
   intro h hv he;have h1:=HS.u h hv he;rw [h1,hv] at hvv
   cases hvv
  clear hvv;obtain ⟨⟨a0,a1,a2,a3⟩,z0,z1,z2,z3⟩:=aB (dv.u.ext (XX.u.trans HY.u));go_wp2
  exact bJ (v:=.tuple #[(⟨0,0,0,0⟩:Gt).val,.bool false]) (aR rfl _ _ _ _ _ _ _ rfl rfl ((dv.u.ext (XX.u.trans HY.u)).bR (iI 0) (iI 0) (iI 0) (iI 0)) kP rfl dr) rfl ⟨fO _ _ rfl HN.u,aW (eK.u.trans (XX.u.trans HY.u)) (lI _) _ _ _ _⟩
 ·clear hvv;have d0:=(BB.u.ext HY.u).ck 0;have d1:=(BB.u.ext HY.u).ck 1;have d2:=(BB.u.ext HY.u).ck 2;have d3:=(BB.u.ext HY.u).ck 3;go_wp2_with fail;have WX:Hid (∀w',Ext w2 w'->Calls prog 42 #[.agg #[iI k,iI a,iI b',iI c]] w' fun e w''=>e=.returned (.string (iQ ⟨k,a,b',c⟩))/\Ext w' w''):=fun w' hx=>oD ⟨k,a,b',c⟩ w' (sY.u.ext (eK.u.trans hx)).gn
  refine (WX.u _ (XX.u.trans HY.u)).mono ?_;rintro e v9 ⟨rfl,Ek⟩;have kL:=hY Ek;clear Ek d0 d1 d2 d3 WX;obtain ⟨⟨a0,a1,a2,a3⟩,z0,z1,z2,z3⟩:=aB (dv.u.ext ((XX.u.trans HY.u).trans kL.u));obtain ⟨gs,fA⟩:=ex (iQ ⟨k,a,b',c⟩);rw [fA];have Qr:=hY fA;clear fA;obtain ⟨qq,LC⟩:=ex ((ByteArray.toList gs==ByteArray.toList s))
  cases qq
  ·have HN:Hid (∀h:Gt,vg h 4=true->s=iQ h->(⟨0,0,0,0⟩:Gt)=h):=by
    intro h hv he;have h1:=HS.u h hv he;rw [<-Qr.u,h1,<-he,hH] at LC
    cases LC
   go_wp2
   exact bJ (v:=.tuple #[(⟨0,0,0,0⟩:Gt).val,.bool false]) (aR rfl _ _ _ _ _ _ _ rfl rfl ((dv.u.ext ((XX.u.trans HY.u).trans kL.u)).bR (iI 0) (iI 0) (iI 0) (iI 0)) kP rfl dr) rfl ⟨fO _ _ rfl HN.u,aW (eK.u.trans ((XX.u.trans HY.u).trans kL.u)) (lI _) _ _ _ _⟩
  ·have d0:=((BB.u.ext HY.u).ext kL.u).ck 0;have d1:=((BB.u.ext HY.u).ext kL.u).ck 1;have d2:=((BB.u.ext HY.u).ext kL.u).ck 2;have d3:=((BB.u.ext HY.u).ext kL.u).ck 3;go_wp2
   exact bJ (v:=.tuple #[(⟨k,a,b',c⟩:Gt).val,.bool true]) (aR rfl _ _ _ _ _ _ _ rfl rfl ((dv.u.ext ((XX.u.trans HY.u).trans kL.u)).bR (iI k) (iI a) (iI b') (iI c)) kP rfl dr) rfl ⟨fO _ _ rfl HS.u,aW (eK.u.trans ((XX.u.trans HY.u).trans kL.u)) (lI _) _ _ _ _⟩):P:=h
theorem mI {P:Prop} (h:P:=by
 obtain ⟨⟨a0,a1,a2,a3⟩,z0,z1,z2,z3⟩:=aB (dv.u.ext (XX.u.trans HY.u));go_wp2
 exact bJ (v:=.tuple #[(⟨0,0,0,0⟩:Gt).val,.bool false]) (aR rfl _ _ _ _ _ _ _ rfl rfl ((dv.u.ext (XX.u.trans HY.u)).bR (iI 0) (iI 0) (iI 0) (iI 0)) kP rfl dr) rfl ⟨fO _ _ rfl HN.u,aW (eK.u.trans (XX.u.trans HY.u)) (lI _) _ _ _ _⟩):P:=h
theorem ub {P:Prop} (h:P:=by
 have HN:Hid (∀h:Gt,vg h 4=true->s=iQ h->(⟨0,0,0,0⟩:Gt)=h):=Tr.u k HKJ.u (oM EJ.u);clear hm;obtain ⟨⟨a0,a1,a2,a3⟩,z0,z1,z2,z3⟩:=aB (dv.u.ext qC.u);go_wp2
 exact bJ (v:=.tuple #[(⟨0,0,0,0⟩:Gt).val,.bool false]) (aR rfl _ _ _ _ _ _ _ rfl rfl ((dv.u.ext qC.u).bR (iI 0) (iI 0) (iI 0) (iI 0)) kP rfl dr) rfl ⟨fO _ _ rfl HN.u,aW (eK.u.trans qC.u) (lI _) _ _ _ _⟩):P:=h
theorem AL {P:Prop} (h:P:=by
 have c0:=(FF.u.ext HY.u).ck 0;have c1:=(BB.u.ext HY.u).ck 1;have c2:=(BB.u.ext HY.u).frozen 1;go_wp2;go_roundw
 case rel=>exact ⟨1,n,b',c,rfl,aa,rg1 RR.u HP.u,(BB.u.ext HY.u).aU 1 _,(FF.u.ext HY.u).cB (p:=(aA g 1)) FG.u _,(XX.u.trans HY.u).setCell (p:=(aA g 1)) HG.u _⟩
 case measure=>simp [intOf]):P:=h
theorem JF {P:Prop} (h:P:=by
 have c0:=(FF.u.ext HY.u).ck 1;have c1:=(BB.u.ext HY.u).ck 2;have c2:=(BB.u.ext HY.u).frozen 2;go_wp2;go_roundw
 case rel=>exact ⟨2,a,n,c,rfl,aa,rg2 RR.u HP.u,(BB.u.ext HY.u).aU 2 _,(FF.u.ext HY.u).cB (p:=(aA g 2)) FG.u _,(XX.u.trans HY.u).setCell (p:=(aA g 2)) HG.u _⟩
 case measure=>simp [intOf]):P:=h
theorem AM {P:Prop} (h:P:=by
 intro h hv he;have:=(Ph hv (HW.u h hv he).1 HKJ.u (n:=n) (ok:=false)).1 (oM EJ.u) HP.u
 cases this):P:=h
theorem JG {P:Prop} (h:P:=by
 intro h hv he;have:=(Ph hv (HW.u h hv he).1 HKJ.u (n:=n) (ok:=false)).2.1 (oM EJ.u) HP.u
 cases this):P:=h
theorem ft (s:ByteArray) (hs:s.size<=1500000) (w:World) (hw:PW w):Calls prog 50 #[.string s] w fun e w'=>Pe s e/\Ext w w':=by
 have sY:=hY hw;clear hw;go_enter func50,ntmps50;go_wp2_with fail;refine (gX s 32 32 rfl _ (sY.u.ext xx).max aa).mono ?_;rintro e w2 ⟨b,rfl,jk,bz⟩;have Bl:=tj 32 s;have dv:Hid (au w2 w.heap.size 39 zO):=(au.new w _ _).ext bz;have eK:Hid (Ext w w2):=Ext.trans ((xZ w).alloc _) bz;have jm:∀y∈cut 32 s,y.size<=2000000:=fun y hy=>oM (kS hy)
 have Ce:Hid (((cut 32 s).getD 1 ⟨#[]⟩).size<=2000000000000):=lK (iB jm 1) ae;have HZ2:Hid (((cut 32 s).getD 2 ⟨#[]⟩).size<=2000000000000):=lK (iB jm 2) ae;have HZ3:Hid (((cut 32 s).getD 3 ⟨#[]⟩).size<=2000000000000):=lK (iB jm 3) ae;have HY:Hid (∀w',Ext w2 w'->∀i,i<(cut 32 s).length->w'.cell? (aA b i)=some (.string ((cut 32 s).getD i ⟨#[]⟩))):=fun w' q i hi=>by
  obtain ⟨h1,_,h3⟩:=JE jk hi;rw [lM] at h3
  exact (q.cell (p:=(aA b i)) h1).trans h3
 have HW:Hid (∀h:Gt,vg h 4=true->s=iQ h->GW ((cut 32 s).getD 0 ⟨#[]⟩) ((cut 32 s).getD 1 ⟨#[]⟩) ((cut 32 s).getD 2 ⟨#[]⟩) ((cut 32 s).getD 3 ⟨#[]⟩) h/\((cut 32 s).length:Int)=ar h.k+1):=by
  intro h hv he;rw [he,Xk hv]
  exact ⟨ahU h,alQ h⟩
 have hml:=oK 32 s;obtain ⟨y0,mg⟩:=ex ((cut 32 s).getD 0 ⟨#[]⟩);obtain ⟨y1,dw⟩:=ex ((cut 32 s).getD 1 ⟨#[]⟩);obtain ⟨y2,iW⟩:=ex ((cut 32 s).getD 2 ⟨#[]⟩);obtain ⟨y3,ig⟩:=ex ((cut 32 s).getD 3 ⟨#[]⟩);rw [mg,dw,iW,ig] at HW;rw [dw] at Ce;rw [iW] at HZ2;rw [ig] at HZ3;obtain ⟨m,hm⟩:=ex ((cut 32 s).length);rw [hm] at HW HY hml Bl |-;have r0:w2.cell? (aA b 0)=some (.string y0):=by rw [<-mg];exact HY.u w2 (xZ _) 0 Bl
 have Q1:Hid (∀w',Ext w2 w'->1<m->w'.cell? (aA b 1)=some (.string y1)):=fun w' q h=>by rw [<-dw];exact HY.u w' q 1 h
 have Q2:Hid (∀w',Ext w2 w'->2<m->w'.cell? (aA b 2)=some (.string y2)):=fun w' q h=>by rw [<-iW];exact HY.u w' q 2 h
 have Q3:Hid (∀w',Ext w2 w'->3<m->w'.cell? (aA b 3)=some (.string y3)):=fun w' q h=>by rw [<-ig];exact HY.u w' q 3 h
 have Oh:(0:Int)<(m:Int):=aa
 have Tr:Hid (∀k,(∀j,1<=j->j<=12->y0=oa j->k=j)->(m:Int)≠ar k+1->∀h:Gt,vg h 4=true->s=iQ h->(⟨0,0,0,0⟩:Gt)=h):=by
  intro k hk hne h hv he;obtain ⟨h1,h2⟩:=HW.u h hv he;have EM:=ahu hv;have:=hk h.k EM.1 EM.2 h1.1;subst this
  exact absurd h2 hne
 clear hm jm mg dw iW ig jk bz Bl HY;go_wp2_with fail;refine (Ca y0 _ (sY.u.ext eK.u).gn).mono ?_;rintro e w3 ⟨⟨k,rfl,lu,UL,hkj⟩,bO⟩;clear r0;have HKJ:=hY hkj;clear hkj;go_upto_region 3 with fail;have kN:Hid (au (w3.alloc (cO #[iI k,iI 0,iI 0,iI 0] 39)) w3.heap.size 39 #[iI k,iI 0,iI 0,iI 0]):=au.new _ _ _;have qC:Hid (Ext w2 (w3.alloc (cO #[iI k,iI 0,iI 0,iI 0] 39))):=bO.alloc _;have HG:=hY bO.size;clear bO;have HK:Hid (0<=k/\k<=12):=⟨lu,UL⟩;generalize w3.alloc (cO #[iI k,iI 0,iI 0,iI 0] 39)=W at*
 generalize w3.heap.size=g at*
 have HL:=hY dv.u.lt;have p0:=kN.u.ck 0;go_wp2_with fail;refine (dD k _).mono ?_;rintro e w4 ⟨rfl,rfl⟩;clear p0 lu UL;rcases (oM HK.u:k<1\/(1<=k/\k<=8)\/(9<=k/\k<=11)\/k=12) with hk|hk|hk|hk
 ·have ej:ar k=0:=ar0 (.inl hk);have EJ:=hY ej;rw [ej];clear ej hk
  by_cases hm:m=1
  rotate_left
  ·have hmn:((m:Int) !=1)=true:=ai
   exact ub
  subst hm;clear Oh hml;go_upto_region 6 with fail;have F5:Hid (au (W.alloc (cO #[.pointer (some ⟨g,1,none⟩),.pointer (some ⟨g,2,none⟩),.pointer (some ⟨g,3,none⟩)] 99)) W.heap.size 99 #[.pointer (some ⟨g,1,none⟩),.pointer (some ⟨g,2,none⟩),.pointer (some ⟨g,3,none⟩)]):=au.new _ _ _;have B5:Hid (au (W.alloc (cO #[.pointer (some ⟨g,1,none⟩),.pointer (some ⟨g,2,none⟩),.pointer (some ⟨g,3,none⟩)] 99)) g 39 #[iI k,iI 0,iI 0,iI 0]):=kN.u.alloc _;have X5:Hid (Ext w2 (W.alloc (cO #[.pointer (some ⟨g,1,none⟩),.pointer (some ⟨g,2,none⟩),.pointer (some ⟨g,3,none⟩)] 99))):=qC.u.alloc _;have FG:=hY (NF kN.u.lt);clear kN qC;generalize W.alloc (cO #[.pointer (some ⟨g,1,none⟩),.pointer (some ⟨g,2,none⟩),.pointer (some ⟨g,3,none⟩)] 99)=V at*
  generalize W.heap.size=f at*
  go_wp2
  go_loopw [33] (fun iv wr=>∃(q:Nat) (a b' c:Int),iv=iI q/\q<=0/\Hid (RG y1 y2 y3 q a b' c)/\Hid (au wr g 39 #[iI k,iI a,iI b',iI c])/\Hid (au wr f 99 #[.pointer (some ⟨g,1,none⟩),.pointer (some ⟨g,2,none⟩),.pointer (some ⟨g,3,none⟩)])/\Hid (Ext w2 wr)) (fun i _=>0 - (intOf i).toNat)
  case atStart=>exact ⟨0,0,0,0,rfl,lJ _,rg0 _ _ _,B5,F5,X5⟩
  case round=>
   obtain ⟨q,a,b',c,rfl,hq,RR,BB,FF,XX⟩:=hrel;clear B5 F5 X5;obtain rfl:q=0:=aa
   ·exact ua
 ·have ej:ar k=1:=ar1 hk;have EJ:=hY ej;rw [ej];clear ej hk
  by_cases hm:m=2
  rotate_left
  ·have hmn:((m:Int) !=2)=true:=ai
   exact ub
  subst hm;clear Oh hml;go_upto_region 6 with fail;have F5:Hid (au (W.alloc (cO #[.pointer (some ⟨g,1,none⟩),.pointer (some ⟨g,2,none⟩),.pointer (some ⟨g,3,none⟩)] 99)) W.heap.size 99 #[.pointer (some ⟨g,1,none⟩),.pointer (some ⟨g,2,none⟩),.pointer (some ⟨g,3,none⟩)]):=au.new _ _ _;have B5:Hid (au (W.alloc (cO #[.pointer (some ⟨g,1,none⟩),.pointer (some ⟨g,2,none⟩),.pointer (some ⟨g,3,none⟩)] 99)) g 39 #[iI k,iI 0,iI 0,iI 0]):=kN.u.alloc _;have X5:Hid (Ext w2 (W.alloc (cO #[.pointer (some ⟨g,1,none⟩),.pointer (some ⟨g,2,none⟩),.pointer (some ⟨g,3,none⟩)] 99))):=qC.u.alloc _;have FG:=hY (NF kN.u.lt);clear kN qC;generalize W.alloc (cO #[.pointer (some ⟨g,1,none⟩),.pointer (some ⟨g,2,none⟩),.pointer (some ⟨g,3,none⟩)] 99)=V at*
  generalize W.heap.size=f at*
  go_wp2
  go_loopw [33] (fun iv wr=>∃(q:Nat) (a b' c:Int),iv=iI q/\q<=1/\Hid (RG y1 y2 y3 q a b' c)/\Hid (au wr g 39 #[iI k,iI a,iI b',iI c])/\Hid (au wr f 99 #[.pointer (some ⟨g,1,none⟩),.pointer (some ⟨g,2,none⟩),.pointer (some ⟨g,3,none⟩)])/\Hid (Ext w2 wr)) (fun i _=>1 - (intOf i).toNat)
  case atStart=>exact ⟨0,0,0,0,rfl,lJ _,rg0 _ _ _,B5,F5,X5⟩
  case round=>
   obtain ⟨q,a,b',c,rfl,hq,RR,BB,FF,XX⟩:=hrel;clear B5 F5 X5;rcases (aa:q=0\/q=1) with rfl|rfl
   ·have q1:wr.cell? (aA b 1)=some (.string y1):=Q1.u _ XX.u aa;go_wp2_with fail;refine (bL y1 Ce.u _ (sY.u.ext (eK.u.trans XX.u))).mono ?_;rintro e v ⟨⟨n,ok,rfl,hp⟩,hy⟩;have HP:=hY hp;have HY:=hY hy;clear hp hy q1
    cases ok
    ·have HN:Hid (∀h:Gt,vg h 4=true->s=iQ h->(⟨0,0,0,0⟩:Gt)=h):=by
      exact AM
     exact mI
    ·exact AL
   ·exact ua
 ·have ej:ar k=2:=ar2 hk;have EJ:=hY ej;rw [ej];clear ej hk
  by_cases hm:m=3
  rotate_left
  ·have hmn:((m:Int) !=3)=true:=ai
   exact ub
  subst hm;clear Oh hml;go_upto_region 6 with fail;have F5:Hid (au (W.alloc (cO #[.pointer (some ⟨g,1,none⟩),.pointer (some ⟨g,2,none⟩),.pointer (some ⟨g,3,none⟩)] 99)) W.heap.size 99 #[.pointer (some ⟨g,1,none⟩),.pointer (some ⟨g,2,none⟩),.pointer (some ⟨g,3,none⟩)]):=au.new _ _ _;have B5:Hid (au (W.alloc (cO #[.pointer (some ⟨g,1,none⟩),.pointer (some ⟨g,2,none⟩),.pointer (some ⟨g,3,none⟩)] 99)) g 39 #[iI k,iI 0,iI 0,iI 0]):=kN.u.alloc _;have X5:Hid (Ext w2 (W.alloc (cO #[.pointer (some ⟨g,1,none⟩),.pointer (some ⟨g,2,none⟩),.pointer (some ⟨g,3,none⟩)] 99))):=qC.u.alloc _;have FG:=hY (NF kN.u.lt);clear kN qC;generalize W.alloc (cO #[.pointer (some ⟨g,1,none⟩),.pointer (some ⟨g,2,none⟩),.pointer (some ⟨g,3,none⟩)] 99)=V at*
  generalize W.heap.size=f at*
  go_wp2
  go_loopw [33] (fun iv wr=>∃(q:Nat) (a b' c:Int),iv=iI q/\q<=2/\Hid (RG y1 y2 y3 q a b' c)/\Hid (au wr g 39 #[iI k,iI a,iI b',iI c])/\Hid (au wr f 99 #[.pointer (some ⟨g,1,none⟩),.pointer (some ⟨g,2,none⟩),.pointer (some ⟨g,3,none⟩)])/\Hid (Ext w2 wr)) (fun i _=>2 - (intOf i).toNat)
  case atStart=>exact ⟨0,0,0,0,rfl,lJ _,rg0 _ _ _,B5,F5,X5⟩
  case round=>
   obtain ⟨q,a,b',c,rfl,hq,RR,BB,FF,XX⟩:=hrel;clear B5 F5 X5;rcases (aa:q=0\/q=1\/q=2) with rfl|rfl|rfl
   ·have q1:wr.cell? (aA b 1)=some (.string y1):=Q1.u _ XX.u aa;go_wp2_with fail;refine (bL y1 Ce.u _ (sY.u.ext (eK.u.trans XX.u))).mono ?_;rintro e v ⟨⟨n,ok,rfl,hp⟩,hy⟩;have HP:=hY hp;have HY:=hY hy;clear hp hy q1
    cases ok
    ·have HN:Hid (∀h:Gt,vg h 4=true->s=iQ h->(⟨0,0,0,0⟩:Gt)=h):=by
      exact AM
     exact mI
    ·exact AL
   ·have q1:wr.cell? (aA b 2)=some (.string y2):=Q2.u _ XX.u aa;go_wp2_with fail;refine (bL y2 HZ2.u _ (sY.u.ext (eK.u.trans XX.u))).mono ?_;rintro e v ⟨⟨n,ok,rfl,hp⟩,hy⟩;have HP:=hY hp;have HY:=hY hy;clear hp hy q1
    cases ok
    ·have HN:Hid (∀h:Gt,vg h 4=true->s=iQ h->(⟨0,0,0,0⟩:Gt)=h):=by
      exact JG
     exact mI
    ·exact JF
   ·exact ua
 ·have ej:ar k=3:=ar3 hk;have EJ:=hY ej;rw [ej];clear ej;have KK:=hY hk;clear hk
  by_cases hm:m=4
  rotate_left
  ·have hmn:((m:Int) !=4)=true:=ai
   exact ub
  subst hm;clear Oh hml;go_upto_region 6 with fail;have F5:Hid (au (W.alloc (cO #[.pointer (some ⟨g,1,none⟩),.pointer (some ⟨g,2,none⟩),.pointer (some ⟨g,3,none⟩)] 99)) W.heap.size 99 #[.pointer (some ⟨g,1,none⟩),.pointer (some ⟨g,2,none⟩),.pointer (some ⟨g,3,none⟩)]):=au.new _ _ _;have B5:Hid (au (W.alloc (cO #[.pointer (some ⟨g,1,none⟩),.pointer (some ⟨g,2,none⟩),.pointer (some ⟨g,3,none⟩)] 99)) g 39 #[iI k,iI 0,iI 0,iI 0]):=kN.u.alloc _;have X5:Hid (Ext w2 (W.alloc (cO #[.pointer (some ⟨g,1,none⟩),.pointer (some ⟨g,2,none⟩),.pointer (some ⟨g,3,none⟩)] 99))):=qC.u.alloc _;have FG:=hY (NF kN.u.lt);clear kN qC;generalize W.alloc (cO #[.pointer (some ⟨g,1,none⟩),.pointer (some ⟨g,2,none⟩),.pointer (some ⟨g,3,none⟩)] 99)=V at*
  generalize W.heap.size=f at*
  go_wp2
  go_loopw [33] (fun iv wr=>∃(q:Nat) (a b' c:Int),iv=iI q/\q<=3/\Hid (RG y1 y2 y3 q a b' c)/\Hid (au wr g 39 #[iI k,iI a,iI b',iI c])/\Hid (au wr f 99 #[.pointer (some ⟨g,1,none⟩),.pointer (some ⟨g,2,none⟩),.pointer (some ⟨g,3,none⟩)])/\Hid (Ext w2 wr)) (fun i _=>3 - (intOf i).toNat)
  case atStart=>exact ⟨0,0,0,0,rfl,lJ _,rg0 _ _ _,B5,F5,X5⟩
  case round=>
   obtain ⟨q,a,b',c,rfl,hq,RR,BB,FF,XX⟩:=hrel;clear B5 F5 X5;rcases (aa:q=0\/q=1\/q=2\/q=3) with rfl|rfl|rfl|rfl
   ·have q1:wr.cell? (aA b 1)=some (.string y1):=Q1.u _ XX.u aa;go_wp2_with fail;refine (bL y1 Ce.u _ (sY.u.ext (eK.u.trans XX.u))).mono ?_;rintro e v ⟨⟨n,ok,rfl,hp⟩,hy⟩;have HP:=hY hp;have HY:=hY hy;clear hp hy q1
    cases ok
    ·have HN:Hid (∀h:Gt,vg h 4=true->s=iQ h->(⟨0,0,0,0⟩:Gt)=h):=by
      exact AM
     exact mI
    ·exact AL
   ·have q1:wr.cell? (aA b 2)=some (.string y2):=Q2.u _ XX.u aa;go_wp2_with fail;refine (bL y2 HZ2.u _ (sY.u.ext (eK.u.trans XX.u))).mono ?_;rintro e v ⟨⟨n,ok,rfl,hp⟩,hy⟩;have HP:=hY hp;have HY:=hY hy;clear hp hy q1
    cases ok
    ·have HN:Hid (∀h:Gt,vg h 4=true->s=iQ h->(⟨0,0,0,0⟩:Gt)=h):=by
      exact JG
     exact mI
    ·exact JF
   ·have q1:wr.cell? (aA b 3)=some (.string y3):=Q3.u _ XX.u aa;go_wp2_with fail;refine (bL y3 HZ3.u _ (sY.u.ext (eK.u.trans XX.u))).mono ?_;rintro e v ⟨⟨n,ok,rfl,hp⟩,hy⟩;have HP:=hY hp;have HY:=hY hy;clear hp hy q1
    cases ok
    ·have HN:Hid (∀h:Gt,vg h 4=true->s=iQ h->(⟨0,0,0,0⟩:Gt)=h):=by
      intro h hv he;have:=(Ph hv (HW.u h hv he).1 HKJ.u (n:=n) (ok:=false)).2.2 (oM EJ.u) HP.u
      cases this
     exact mI
    ·have c0:=(FF.u.ext HY.u).ck 2;have c1:=(BB.u.ext HY.u).ck 3;have c2:=(BB.u.ext HY.u).frozen 3;go_wp2;go_roundw
     case rel=>exact ⟨3,a,b',n,rfl,aa,rg3 RR.u HP.u,(BB.u.ext HY.u).aU 3 _,(FF.u.ext HY.u).cB (p:=(aA g 3)) FG.u _,(XX.u.trans HY.u).setCell (p:=(aA g 3)) HG.u _⟩
     case measure=>simp [intOf]
   ·exact ua
end Go.Proofs.YtodhjgngkkcjgaaGreatDoor
