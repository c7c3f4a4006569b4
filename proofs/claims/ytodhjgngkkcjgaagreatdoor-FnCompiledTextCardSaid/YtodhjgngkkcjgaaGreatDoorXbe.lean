import Derived.Test.YtodhjgngkkcjgaaGreatDoorXba
namespace Go.Proofs.YtodhjgngkkcjgaaGreatDoor
open Go.ChangeShapes Go.WideShapes Go.ChangeAt Go.RowKit Go.Deep Go.Proofs.Tryz
set_option linter.unusedVariables false
set_option linter.unusedSimpArgs false
set_option maxRecDepth 100000
set_option maxHeartbeats 16000000
def prv (xs:List Gt):Nat->Bool
 |0=>false
 |k+1=>Rk xs k
theorem JT (xs:List Gt):∀k:Nat,(cZ xs k).length<=k
 |0=>lI _
 |k+1=>by
  have ih:=JT xs k;unfold cZ;split
  ·omega
  ·split
   ·simp only [lA,List.length_dropLast,ki,yr];omega
   ·simp only [lA,ki,yr];omega
theorem Pq {xs:List Gt} {k:Nat} {g:Gt} (h:xs[k]?=some g):opn xs k=(prv xs k && pP g):=by
 cases k with
 |zero=>rfl
 |succ k=>
  show (Rk xs (k+1) && Rk xs k)=(Rk xs k && pP g);rw [Wm h,Bool.and_comm]
theorem ahX {xs:List Gt} {k:Nat} (h:prv xs k=true):0<k:=by
 cases k with
 |zero=>cases h
 |succ k=>exact Nat.succ_pos k
theorem Vi {xs:List Gt} {k:Nat} {init:List (List Gt)} {last:List Gt} (h:cZ xs k=init++[last]) (hk:k<=xs.length):last.length<=k:=by
 have h1:=zP xs k hk;rw [h,FQ] at h1;have h2:=mr List.length h1;simp only [lA,FL,List.flatten_nil,yt,lT] at h2;omega
structure ql (w0 W:World) (Ao:OA) (L co:Nat) (vs:List Value) (xss:List (List Gt)):Prop where
 o:W.ownsRow w0.heap.size 112 1 (.slice Ao L co) L vs
 l:xss.length=L
 r:(L=0/\vs=[])\/∃(B:Nat) (vi:List Value) (init:List (List Gt)) (A:OA) (c:Nat) (last:List Gt),vs=vi++[.slice A last.length c]/\xss=init++[last]/\Rows w0 W B vi init/\W.ownsRow B 39 4 (.slice A last.length c) last.length (aq last)/\w0.heap.size<=B/\B<=W.heap.size
 x:Ext w0 W
section
variable {w0 W W':World} {Ao Ao' A:OA} {L co co' c:Nat} {vs:List Value} {xss:List (List Gt)} {xs:List Gt}
theorem ql.ext (h:ql w0 W Ao L co vs xss) (hx:Ext W W'):ql w0 W' Ao L co vs xss:=by
 refine ⟨aj h.o hx,h.l,?_,h.x.trans hx⟩;rcases h.r with h0|⟨B,vi,init,A,c,last,h1,h2,h3,h4,h5⟩
 ·exact .inl h0
 ·exact .inr ⟨B,vi,init,A,c,last,h1,h2,h3.ext hx,aj h4 hx,h5.1,lK h5.2 hx.size⟩
theorem ql.rows (h:ql w0 W Ao L co vs xss):Rows w0 W W.heap.size vs xss:=by
 rcases h.r with ⟨h0,h1⟩|⟨B,vi,init,A,c,last,h1,h2,h3,h4,h5⟩
 ·have:xss=[]:=Bm (by rw [h.l];exact h0);rw [h1,this]
  exact Rows.nil
 ·rw [h1,h2]
  exact (h3.more h5.2).snoc (aC h4 h5.1) (fun g hg=>(h4.lt g hg).2)
theorem ql.new (h:ql w0 W Ao L co vs xss) (g:Gt) {W':World} (ho:W'.ownsRow w0.heap.size 112 1 (.slice Ao' (L+1) co') (L+1) (vs++[.slice (some ⟨W.heap.size,0,none⟩) 1 1]))
  (hg:((W.alloc (.cells #[iI g.k,iI g.a,iI g.b,iI g.c] 39)).alloc (.cells #[.slice (some ⟨W.heap.size,0,none⟩) 1 1] 112)).grownBy W' (Value.slice Ao L co).ownBlock) (hx:Ext w0 W'):
  ql w0 W' Ao' (L+1) co' (vs++[.slice (some ⟨W.heap.size,0,none⟩) 1 1]) (xss++[[g]]):=by
 have ka:Ext W ((W.alloc (.cells #[iI g.k,iI g.a,iI g.b,iI g.c] 39)).alloc (.cells #[.slice (some ⟨W.heap.size,0,none⟩) 1 1] 112)):=((xZ W).alloc _).alloc _;have hoo:=aj h.o ka;refine ⟨ho,by rw [lA,h.l];rfl,.inr ⟨W.heap.size,vs,xss,some ⟨W.heap.size,0,none⟩,1,[g],rfl,rfl,(h.rows.ext ka).grown hoo ae hg,?_,h.x.size,lK ka.size hg.size⟩,hx⟩;have hl:=bS (xZ W) W.heap.size 39 4 1 #[iI g.k,iI g.a,iI g.b,iI g.c] (aq [g]) rfl dW rfl aa
 exact ((hl.alloc (.cells #[.slice (some ⟨W.heap.size,0,none⟩) 1 1] 112)).kept hg (dh (hl.alloc _) hoo ae))
theorem ql.grow {B:Nat} {vi:List Value} {init:List (List Gt)} {last:List Gt} {A':OA} {c' go:Nat} {g:Gt} (ho:W.ownsRow w0.heap.size 112 1 (.slice (some ⟨go,0,none⟩) (vi.length+1) co) (vi.length+1) (vi++[.slice A last.length c]))
  (hr:Rows w0 W B vi init) (hl:W.ownsRow B 39 4 (.slice A last.length c) last.length (aq last)) (hB:w0.heap.size<=B) (xQ:B<=W.heap.size) (hx:Ext w0 W)
  (h1:W'.ownsRow B 39 4 (.slice A' (last.length+1) c') (last.length+1) (aq (last++[g]))) (hg:W.grownBy W' (Value.slice A last.length c).ownBlock):
  ql w0 (W'.setCell (aA go vi.length) (.slice A' (last.length+1) c')) (some ⟨go,0,none⟩) (vi.length+1) co (vi++[.slice A' (last.length+1) c']) (init++[last++[g]]):=by
 have eu:=ho.kept hg (dh ho hl ae);have kG:=hr.above hg (fun k hk=>(hl.lt k hk).1);have aK:Ext w0 W':=hx.grown hg (fun k hk=>lK hB (hl.lt k hk).1);obtain ⟨fg,jW⟩:=eu.stored vi.length (.slice A' (last.length+1) c');have e1:(vi++[Value.slice A last.length c]).set vi.length (.slice A' (last.length+1) c')=vi++[.slice A' (last.length+1) c']:=ag
 rw [e1] at fg;have hgo:=(ho.lt go rfl).1;refine ⟨fg,by rw [lA,<-hr.1];rfl,.inr ⟨B,vi,init,A',c',last++[g],by rw [lA];rfl,rfl,kG.grown eu ae jW,?_,hB,lK xQ (lK hg.size jW.size)⟩,aK.setCell (p:=(aA go vi.length)) hgo _⟩;have h2:=h1.kept jW (dh h1 eu ae);rw [lA]
 exact h2
theorem aaf {w:World} {B:Nat} {ops:Array Oper} {o:Oper} {a:Act} {K:Act->World->Prop} {Q:Exit->Act->World->Prop} {E:Prop} (fX:o.guard=none) (s x:Operand)
  (ho:aO o s x 112) (v:Value) (n:Nat) (xs:List Gt) (hs:a.eval s=v)
  (bj:w.ownsRow B 39 4 v n (aq xs)) (hB:B<=w.heap.size) (A:OA) (m c:Nat) (ys:List Gt) (hx:a.eval x=.slice A m c) (hr:Rd w w.heap.size 4 A m (aq ys)) (hn:n+m<=2000000000000)
  (h:∀A' c' w',w'.ownsRow B 39 4 (.slice A' (n+m) c') (n+m) (aq (xs++ys))->w.grownBy w' v.ownBlock->((Value.slice A' (n+m) c').ownBlock=v.ownBlock\/(Value.slice A' (n+m) c').ownBlock=some w.heap.size)->K (a.put o.dst (.slice A' (n+m) c')) w'):
  if Region.wanted o (yielded ops a.tmps)=true then Oper.wp prog o a w K Q else E:=by
 have mW:=sG hB;refine fe (w0:={w with heap:=w.heap.extract 0 B}) fX s x ho v n xs hs (by rw [mW];exact bj) (ID hB) A m c ys hx hr hn ?_;intro v' w' h1 h2 h3 h4;rw [mW] at h1;obtain ⟨A',c',rfl,_⟩:=ak h1
 exact h A' c' w' h1 h3 h4
end
theorem JU {P:Prop} (h:P:=by
 refine o1 12 fun K hK=>?_
 have Tj:Ext W7 ((W7.alloc (.cells #[iI x.k,iI x.a,iI x.b,iI x.c] 39)).drew):=((xZ W7).alloc _).drew;have ah0:=hY (aj HDD.u.2.1 Tj);have ah1:=hY (aj gH.u Tj);refine aaf ah _ _ ah _ _ last ah ah0.u (oN HDD.u.2.2.2 Tj.size) _ 1 1 [x] ah ((eC W7 _ _ 39 1 4 _ ah dW dW).ext (xZ _).drew) aa ?_;intro A2 c2 w12 t1 t2 t3;have aqz:Hid ((fun w'=>w'.cell? (aA wr.z 0)=some (iI x.k)/\w'.cell? (aA wr.z 1)=some (iI x.a)/\w'.cell? (aA wr.z 2)=some (iI x.b)/\w'.cell? (aA wr.z 3)=some (iI x.c)) w12):=(aB (((LF.u.ext Tj)).grown t2 (fun g hg=>oM (HLB.u g hg)))).1;have aei:=hY (ah1.u.kept t2 (dh ah1.u ah0.u ae));obtain ⟨go2,u2,Tp,-,-,avC,aqA⟩:=AK aei.u (j:=m) aa;injection Tp with Tp;injection Tp with Tp;subst Tp;have avD:=aqA m;have Qm:Hid (ql w (w12.setCell (aA go m) (.slice A2 (last.length+1) c2)) (some ⟨go,0,none⟩) (m+1) co (vi++[.slice A2 (last.length+1) c2]) (init++[last++[x]])):=by
  have hO:=ah1.u;rw [HME.u] at hO |-
  exact ql.grow hO (HDD.u.1.ext Tj) ah0.u HDD.u.2.2.1 (lK HDD.u.2.2.2 Tj.size) (fz.u.trans Tj) t1 t2
 have aqB:Hid ((fun w'=>w'.cell? (aA wr.z 0)=some (iI x.k)/\w'.cell? (aA wr.z 1)=some (iI x.a)/\w'.cell? (aA wr.z 2)=some (iI x.b)/\w'.cell? (aA wr.z 3)=some (iI x.c)) (w12.setCell (aA go m) (.slice A2 (last.length+1) c2))):=(aB ((((LF.u.ext Tj)).grown t2 (fun g hg=>oM (HLB.u g hg))).cB (p:=(aA go m)) (fun e=>kr gH.u LF.u ae (by rw [show (Value.slice (some ⟨go,0,none⟩) (m+1) co).ownBlock=some go from rfl];exact mr some e.symm)) _)).1;clear t1 t2 t3 ah0 ah1 aei;refine ov hK (aqz.u) fun aEQ=>?_
 refine tq 13 ?_;refine o1 14 fun K hK=>?_
 go_simp;refine ov hK (aqB.u) fun aEQ=>?_
 refine dn ?_;clear avC aqA avD aqz aqB Tj HDD gH fz LF hcu avE al5 avF avG aEQ XS VS hwm avH hfu di DW g0 g1 g2 g3;generalize w12.setCell (aA go m) (.slice A2 (last.length+1) c2)=W14 at*
 have MR:Hid ((cZ gs (k+1)).length=m+1):=by unfold Hid;rw [HSI.u,<-hL,HXS.u];simp
 go_wp2;go_roundw
 case rel=>exact ⟨k+1,some ⟨go,0,none⟩,co,_,oM bZ.u,by rw [MR.u],by rw [CB.u,HMV.u],by first|rfl|rw [dy.u.1]|rw [dy.u.2],by rw [MR.u,HSI.u];exact Qm⟩
 case measure=>simp [intOf,dy.u.2];have:=bZ.u;omega):P:=h
theorem ue (A:OA) (n c:Nat) (gs:List Gt) (w:World) (h:Rd w w.heap.size 4 A n (aq gs)) (hn:n<=80000000000):
  Calls prog 166 #[.slice A n c] w fun e w'=>∃(Ao:OA) (co:Nat) (vs:List Value),e=.returned (.slice Ao (nE gs).length co)/\ql w w' Ao (nE gs).length co vs (nE gs):=by
 have cT:=hY (h.len Gt.aG aa);have HR:=hY h;clear h;have bf:Hid (ql w (w.alloc (.cells #[] 112)) (some ⟨w.heap.size,0,none⟩) (cZ gs 0).length 0 [] (cZ gs 0)):=⟨aN w w _ 1 (xZ _),rfl,.inl ⟨rfl,rfl⟩,(xZ _).alloc _⟩;go_enter func166,ntmps166;go_wp2
 go_loopw [3,4,5] (fun ov bv iv wr=>∃(k:Nat) (Ao:OA) (co:Nat) (vs:List Value),k<=n/\ov=.slice Ao (cZ gs k).length co/\bv=.bool (prv gs k)/\iv=iI k/\Hid (ql w wr Ao (cZ gs k).length co vs (cZ gs k))) (fun _ _ i _=>n - (intOf i).toNat)
 case atStart=>exact ⟨0,_,0,[],lJ _,rfl,rfl,rfl,bf⟩
 case round=>
  clear bf;obtain ⟨k,Ao,co,vs,hk,rfl,rfl,rfl,bf⟩:=hrel
  by_cases ba:k<n
  ·obtain ⟨b,o,x,rfl,-,hx,x0,x1,x2,x3⟩:=bT (HR.u.ext bf.u.x) ba;skip;have wV:=hY hx;have bZ:=hY ba;have dy:=hY (wC k aa);have hLk:=JT gs k;have CB:Hid (prv gs (k+1)=pP x):=Wm hx;clear hx;go_upto_region 7 with fail;have kK:=hY (bf.u.ext ((xZ wr).alloc (.cells #[iI x.k,iI x.a,iI x.b,iI x.c] 39)));have Lx:=hY (au.new wr 39 #[iI x.k,iI x.a,iI x.b,iI x.c]);have HXr:Hid (Ext wr (wr.alloc (.cells #[iI x.k,iI x.a,iI x.b,iI x.c] 39))):=(xZ wr).alloc _;clear x0 x1 x2 x3;generalize wr.alloc (.cells #[iI x.k,iI x.a,iI x.b,iI x.c] 39)=W6 at*
   obtain ⟨⟨g0,g1,g2,g3⟩,-⟩:=aB Lx.u
   cases hp:prv gs k
   ·have MF:Hid (cZ gs (k+1)=cZ gs k++[[x]]):=xE wV.u (by rw [Pq wV.u,hp];rfl);clear hp;have MR:Hid ((cZ gs (k+1)).length=(cZ gs k).length+1):=by unfold Hid;rw [MF.u,lA];rfl
    go_upto_region 9 with fail;go_wp2_with (at_builtin;refine Pf (w0:=w) rfl _ _ rfl _ _ _ rfl ((kK.u.o.alloc _).alloc _) ((kK.u.x.alloc _).alloc _) (.slice (some ⟨W6.heap.size,0,none⟩) 1 1) rfl (W6.heap.size+1) rfl (eC _ _ _ _ 1 1 _ ag rfl rfl) aa ?_;intro v9 w9 t1 t2 t3 t4;obtain ⟨A9,c9,rfl,-⟩:=ak t1;have fh:=hY (kK.u.new x t1 t3 t2);have Sc:=hY (cV ((Lx.u.alloc _).alloc _) ((kK.u.o.alloc _).alloc _) ae t3);clear t1 t2 t3 t4;obtain ⟨⟨g0,g1,g2,g3⟩,-⟩:=aB Sc.u)
    refine (tO x _).mono ?_;rintro e qO ⟨rfl,wX⟩;have Ej:=hY (fh.u.ext wX);clear wX fh Sc g0 g1 g2 g3;go_wp2;go_roundw
    case rel=>exact ⟨k+1,A9,c9,_,oM bZ.u,by rw [MR.u],by rw [CB.u],by first|rfl|rw [dy.u.1]|rw [dy.u.2],by rw [MR.u,MF.u];exact Ej⟩
    case measure=>simp [intOf,dy.u.2];have:=bZ.u;omega
   ·go_wp2_with fail;refine (tO x _).mono ?_;rintro e W7 ⟨rfl,gG⟩;have fG:=hY (kK.u.ext gG);have HXw:=hY (HXr.u.trans gG);have LF:=hY (Lx.u.ext gG);clear kK Lx g0 g1 g2 g3;obtain ⟨⟨g0,g1,g2,g3⟩,-⟩:=aB LF.u;clear gG
    cases hm:pP x
    ·have MF:Hid (cZ gs (k+1)=cZ gs k++[[x]]):=xE wV.u (by rw [Pq wV.u,hp,hm];rfl);clear hp;have MR:Hid ((cZ gs (k+1)).length=(cZ gs k).length+1):=by unfold Hid;rw [MF.u,lA];rfl
     go_upto_region 9 with fail;go_wp2_with (at_builtin;refine Pf (w0:=w) rfl _ _ rfl _ _ _ rfl ((fG.u.o.alloc _).alloc _) ((fG.u.x.alloc _).alloc _) (.slice (some ⟨W7.heap.size,0,none⟩) 1 1) rfl (W7.heap.size+1) rfl (eC _ _ _ _ 1 1 _ ag rfl rfl) aa ?_;intro v9 w9 t1 t2 t3 t4;obtain ⟨A9,c9,rfl,-⟩:=ak t1;have fh:=hY (fG.u.new x t1 t3 t2);have Sc:=hY (cV ((LF.u.alloc _).alloc _) ((fG.u.o.alloc _).alloc _) ae t3);clear t1 t2 t3 t4;obtain ⟨⟨g0,g1,g2,g3⟩,-⟩:=aB Sc.u)
     refine (tO x _).mono ?_;rintro e qO ⟨rfl,wX⟩;have Ej:=hY (fh.u.ext wX);clear wX fh Sc g0 g1 g2 g3;go_wp2;go_roundw
     case rel=>exact ⟨k+1,A9,c9,_,oM bZ.u,by rw [MR.u],by rw [CB.u,hm],by first|rfl|rw [dy.u.1]|rw [dy.u.2],by rw [MR.u,MF.u];exact Ej⟩
     case measure=>simp [intOf,dy.u.2];have:=bZ.u;omega
    ·skip;have hne:=Rl gs k (ahX hp) (oN bZ.u cT.u);obtain ⟨B,vi,init,A1,c1,last,rfl,hxs,hrw,hla,hB⟩:∃(B:Nat) (vi:List Value) (init:List (List Gt)) (A:OA) (c:Nat) (last:List Gt),vs=vi++[.slice A last.length c]/\cZ gs k=init++[last]/\Rows w wr B vi init/\wr.ownsRow B 39 4 (.slice A last.length c) last.length (aq last)/\w.heap.size<=B/\B<=wr.heap.size:=by
      rcases bf.u.r with h0|h0
      ·exact absurd (Bm h0.1) hne
      ·exact h0
     have hL:(cZ gs k).length=vi.length+1:=by rw [hxs,lA,<-hrw.1];rfl
     have DW:=Vi hxs (oN bZ.u cT.u);have HSI:Hid (cZ gs (k+1)=init++[last++[x]]):=by
      unfold Hid;rw [Ho wV.u (by rw [Pq wV.u,hp,hm];rfl),hxs];simp
     have gH:=hY fG.u.o;have fz:=hY fG.u.x;rw [hL] at gH;rw [hL];obtain ⟨m,hme⟩:=ey (vi.length);have HME:=hY hme;rw [<-hme] at gH hL |-;obtain ⟨go,u,rfl,hgo,hu,hcu,hfu⟩:=AK gH.u (j:=m) aa;have hu2:u=.slice A1 last.length c1:=by rw [hme,List.getElem?_concat_length] at hu;exact (kx hu).symm
     subst hu2;have HLB:Hid (∀g,(Value.slice A1 last.length c1).ownBlock=some g->g<wr.heap.size):=fun g hg=>(hla.lt g hg).2
     have HDD:=hY (lQ (hrw.ext HXw.u) (lQ (aj hla HXw.u) (lQ hB.1 (lK hB.2 HXw.u.size))));have HXS:=hY hxs;have HMV:=hY hm;clear hme hne hxs hu hrw hla hp hm hB;have avE:W7.drew.cell? (aA go m)=some (.slice A1 last.length c1):=hcu;have di:=(gH.u.lt go rfl).2;have al5:(W7.alloc (.cells #[iI x.k,iI x.a,iI x.b,iI x.c] 39)).cell? (aA go m)=some (.slice A1 last.length c1):=(((xZ W7).alloc _).cell (p:=(aA go m)) di).trans hcu;have avF:(W7.alloc (.cells #[iI x.k,iI x.a,iI x.b,iI x.c] 39)).drew.cell? (aA go m)=some (.slice A1 last.length c1):=al5;have avG:(W7.drew.alloc (.cells #[iI x.k,iI x.a,iI x.b,iI x.c] 39)).cell? (aA go m)=some (.slice A1 last.length c1):=al5;have VS:(m:Int)<(m:Int)+1:=aa
     have hwm:IntKind.i64.wrap (m:Int)=(m:Int):=lH _ aa;have avH:wrap64 (m:Int)=(m:Int):=bk
     have aEQ:(fun w'=>w'.cell? (aA wr.z 0)=some (iI x.k)/\w'.cell? (aA wr.z 1)=some (iI x.a)/\w'.cell? (aA wr.z 2)=some (iI x.b)/\w'.cell? (aA wr.z 3)=some (iI x.c)) W7.drew:=⟨g0,g1,g2,g3⟩;have XS:Hid ((fun w'=>w'.cell? (aA wr.z 0)=some (iI x.k)/\w'.cell? (aA wr.z 1)=some (iI x.a)/\w'.cell? (aA wr.z 2)=some (iI x.b)/\w'.cell? (aA wr.z 3)=some (iI x.c)) (W7.drew.alloc (.cells #[iI x.k,iI x.a,iI x.b,iI x.c] 39))):=(aB (LF.u.drew.alloc (.cells #[iI x.k,iI x.a,iI x.b,iI x.c] 39))).1;go_upto_region 8 with fail;refine dt (S:=(fun w'=>w'.cell? (aA wr.z 0)=some (iI x.k)/\w'.cell? (aA wr.z 1)=some (iI x.a)/\w'.cell? (aA wr.z 2)=some (iI x.b)/\w'.cell? (aA wr.z 3)=some (iI x.c))) af (aEQ) (fun aEQ=>?_);refine tq 0 ?_;refine tq 1 ?_;refine tq 2 ?_;refine tq 3 ?_;refine tq 4 ?_;refine tq 5 ?_;refine tq 6 ?_;refine tq 7 ?_;refine tq 8 ?_;refine tq 10 ?_;refine o2 9 11 (fun K hK=>?_) fun K hK=>?_
     ·skip;go_simp;refine ov hK (aEQ) fun aEQ=>?_
      refine o1 11 fun K hK=>?_
      go_simp;refine ov hK (XS.u) fun aEQ=>?_
      exact JU
     ·skip;go_simp;refine ov hK (XS.u) fun aEQ=>?_
      refine o1 9 fun K hK=>?_
      go_simp;refine ov hK (aEQ) fun aEQ=>?_
      exact JU
  ·skip;have jJ:k=n:=aa
   subst jJ;have HV:Hid (cZ gs k=nE gs):=by unfold Hid nE;rw [cT.u]
   go_wp2;go_ret;rw [<-HV.u]
   exact ⟨Ao,co,vs,rfl,bf.u⟩
theorem Rows.apart {w0 W W':World} {B:Nat} {vs:List Value} {xss:List (List Gt)} (h:Rows w0 W B vs xss) {row:Option Nat} (hg:W.grownBy W' row) (hr:∀g,row=some g->g<w0.heap.size\/B<=g):Rows w0 W' B vs xss:=⟨h.1,fun j xs hj=>by
 obtain ⟨A,c,h1,h2,h3⟩:=h.2 j xs hj;refine ⟨A,c,h1,h2.kept hg ?_,h3⟩
 cases hv:(Value.slice A xs.length c).ownBlock with
 |none=>exact .inl rfl
 |some k=>
  right;intro e;have:=h3 k hv;have:=(h2.lt k hv).1;have:=hr k e.symm
  omega⟩
structure LH (w0 w1 w2 W:World) (Ac:OA) (L cc:Nat) (vs:List Value) (xss:List (List Gt)) (Ao:OA) (lo co:Nat) (os:List Gt):Prop where
 r:Rows w1 W w2.heap.size vs xss
 o:W.ownsRow w1.heap.size 112 1 (.slice Ac L cc) L vs
 t:W.ownsRow w0.heap.size 39 4 (.slice Ao lo co) lo (aq os)
 b:∀g,(Value.slice Ao lo co).ownBlock=some g->g<w1.heap.size\/w2.heap.size<=g
 x:Ext w0 W
 s:w2.heap.size<=W.heap.size
section
variable {w0 w1 w2 W W':World} {Ac Ao A':OA} {L cc lo co l' c':Nat} {vs:List Value} {xss:List (List Gt)} {os os':List Gt}
theorem LH.ext (h:LH w0 w1 w2 W Ac L cc vs xss Ao lo co os) (hx:Ext W W'):LH w0 w1 w2 W' Ac L cc vs xss Ao lo co os:=
 ⟨h.r.ext hx,aj h.o hx,aj h.t hx,h.b,h.x.trans hx,lK h.s hx.size⟩
theorem LH.app (h:LH w0 w1 w2 W Ac L cc vs xss Ao lo co os) (h1:W'.ownsRow w0.heap.size 39 4 (.slice A' l' c') l' (aq os')) (h2:Ext w0 W') (h3:W.grownBy W' (Value.slice Ao lo co).ownBlock)
  (h4:(Value.slice A' l' c').ownBlock=(Value.slice Ao lo co).ownBlock\/(Value.slice A' l' c').ownBlock=some W.heap.size):LH w0 w1 w2 W' Ac L cc vs xss A' l' c' os':=by
 refine ⟨h.r.apart h3 h.b,h.o.kept h3 (dh h.o h.t ae),h1,fun g hg=>?_,h2,lK h.s h3.size⟩;rcases h4 with h4|h4
 ·rw [h4] at hg;exact h.b g hg
 ·rw [h4] at hg;injection hg with hg;subst hg
  exact .inr h.s
theorem LH.row (h:LH w0 w1 w2 W Ac L cc vs xss Ao lo co os) {i:Nat} {xs:List Gt} (hx:xss[i]?=some xs) (hL:xss.length=L):∃g A c,Ac=some ⟨g,0,none⟩/\W.cell? (aA g i)=some (.slice A xs.length c)/\xs.length<=c/\Rd W W.heap.size 4 A xs.length (aq xs):=by
 obtain ⟨A,c,h1,h2,h3⟩:=h.r.at_ hx;have hi:i<L:=by rw [<-hL];exact (gu.1 hx).1
 obtain ⟨g,u,e1,-,e2,e3,-⟩:=AK h.o hi;rw [h1] at e2
 cases e2
 exact ⟨g,A,c,e1,e3,h2,h3⟩
end
theorem aag (xss:List (List Gt)) (k:Nat):(xss.take k).flatten.length<=xss.flatten.length:=by
 have h:=mr List.length (mr List.flatten (yj k xss));rw [FQ,lA] at h;omega
theorem Su:∀(xss:List (List Gt)) (xs:List Gt),xs∈xss->xs.length<=xss.flatten.length
 |[],_,h=>by cases h
 |y::ys,xs,h=>by
  rw [FL,lA];rcases jw.1 h with rfl|h
  ·omega
  ·have:=Su ys xs h;omega
def AR (gs:List Gt) (N:Int) (k:Nat):List Gt:=((nE gs).take k).flatMap fun s=>qN s N
theorem aah {gs:List Gt} {N:Int} {k:Nat} {s:List Gt} (h:(nE gs)[k]?=some s):AR gs N (k+1)=AR gs N k++qN s N:=by
 unfold AR;rw [aS h,lR];simp
theorem aej (gs:List Gt) (N:Int) (k:Nat):(AR gs N k).length<=2*gs.length:=by
 have h1:=zQ N ((nE gs).take k);have h2:=aag (nE gs) k;rw [CX] at h2;unfold AR;omega
theorem Dn (A:OA) (n c:Nat) (gs:List Gt) (N:Int) (w:World) (h:Rd w w.heap.size 4 A n (aq gs)) (hn:n<=40000000000) (hN:0<n->1<=N/\N<=4):
  Calls prog 150 #[.slice A n c,iI N] w fun e w'=>(∃(v:Value) (j:Int),e=.returned (.tuple #[v,iI j])/\w'.ownsRow w.heap.size 39 4 v (gx gs N).length (aq (gx gs N)))/\Ext w w':=by
 have cT:=hY (h.len Gt.aG aa);have HR:=hY h;clear h;go_enter func150,ntmps150;have aK:Ext w (w.alloc (cO #[] 39)):=(xZ w).alloc _;have UM:(w.alloc (cO #[] 39)).heap.size=w.heap.size+1:=ag
 have XT:=hY (aN w w 39 4 (xZ _));go_upto_region 2 with fail;generalize w.alloc (cO #[] 39)=w1 at*
 have mC:=hY (HR.u.ext aK);go_wp2_with fail;refine (ue A n c gs _ mC.u aa).mono ?_;rintro e w2 ⟨Ac,cc,vs,rfl,KT⟩;have bf:Hid (LH w w1 w2 w2 Ac (nE gs).length cc vs (nE gs) (some ⟨w.heap.size,0,none⟩) (AR gs N 0).length 0 (AR gs N 0)):=
  ⟨KT.rows,KT.o,aj XT.u KT.x,fun g hg=>by
   left;have e1:(Value.slice (some ⟨w.heap.size,0,none⟩) (AR gs N 0).length 0).ownBlock=some w.heap.size:=rfl;rw [e1] at hg;injection hg with hg
   omega,aK.trans KT.x,lI _⟩
 clear KT XT;go_wp2
 go_loopw [6,7,9] (fun ov kv iv wr=>∃(k:Nat) (Ao:OA) (co:Nat) (j:Int),k<=(nE gs).length/\ov=.slice Ao (AR gs N k).length co/\kv=iI j/\iv=iI k/\(0<=j/\j<=7)/\Hid (LH w w1 w2 wr Ac (nE gs).length cc vs (nE gs) Ao (AR gs N k).length co (AR gs N k))) (fun _ _ i _=>(nE gs).length - (intOf i).toNat)
 case atStart=>exact ⟨0,_,0,0,lJ _,rfl,rfl,rfl,aa,bf⟩
 case round=>
  clear bf;obtain ⟨k,Ao,co,j,hk,rfl,rfl,rfl,hj,bf⟩:=hrel;have JV:=JT gs gs.length;have aai:(nE gs).length<=n:=by rw [<-cT.u];exact JV
  clear JV
  by_cases ba:k<(nE gs).length
  ·have hs:(nE gs)[k]?=some ((nE gs)[k]'ba):=lB ba;generalize (nE gs)[k]'ba=s at hs;have hsn:=Su (nE gs) s (lG hs);rw [CX,cT.u] at hsn;have HS:=hY hs;have zV:=aej gs N k;rw [cT.u] at zV;have hfl:=Mn s N;have bZ:=hY ba;have HFS:Hid (AR gs N (k+1)=AR gs N k++qN s N):=aah hs;have dy:=hY (wC k aa);clear hs;obtain ⟨g,As,cs,rfl,r0,-,hrs⟩:=bf.u.row HS.u rfl;have HRS:=hY hrs;clear hrs;have hN1:=hN aa;go_wp2_with fail;refine (yc As s.length cs s N _ HRS.u aa hN1.1 hN1.2).mono ?_;rintro e w4 ⟨⟨v4,j4,rfl,aCo,aCp,uJ⟩,fy⟩;obtain ⟨A4,c4,rfl,-⟩:=ak uJ;have aaj:=hY (bf.u.ext fy);have HR4:=hY (Rd.own uJ);have hw1:IntKind.i64.wrap (j+j4)=j+j4:=lH _ aa;have hw2:wrap64 (j+j4)=j+j4:=bk
   clear uJ fy bf r0;go_wp2_with (at_builtin;refine dm (w0:=w) rfl _ _ rfl _ _ _ rfl aaj.u.t aaj.u.x A4 _ c4 _ rfl HR4.u aa ?_;intro v9 w9 t1 t2 t3 t4;obtain ⟨A9,c9,rfl,-⟩:=ak t1;have fh:=hY (aaj.u.app t1 t2 t3 t4);clear t1 t2 t3 t4)
   refine (eZ (j+j4) _ aa).mono ?_;rintro e wq ⟨rfl,rfl⟩;go_wp2;go_roundw
   case rel=>exact ⟨k+1,A9,c9,(j+j4) % 8,oM bZ.u,by rw [HFS.u,lA],rfl,by first|rfl|rw [dy.u.1]|rw [dy.u.2],aa,by rw [HFS.u,lA];exact fh⟩
   case measure=>simp [intOf,dy.u.2];have:=bZ.u;omega
  ·have jJ:k=(nE gs).length:=aa
   have HV:Hid (AR gs N k=gx gs N):=by unfold Hid AR gx;rw [jJ,pg]
   go_wp2;go_ret2;rw [<-HV.u]
   exact ⟨⟨_,_,rfl,bf.u.t⟩,bf.u.x⟩
def qZ (n bits:Int) (k:Nat) (o:Oq):Bool:=dM o n bits && !(decide ((k:Int)<o.cond)) && (!(o.k==2)||o.bit==(k:Int))
def JW (n bits:Int) (s:Option Nat) (o:Oq):Option Nat:=
 match s with
 |none=>none
 |some k=>if qZ n bits k o=true then some (if (o.k==2)=true then k+1 else k) else none
def Cl (n bits:Int) (l:List Oq):Option Nat:=l.foldl (JW n bits) (some 0)
def lst (l:List Oq) (n bits:Int):Bool:=(Cl n bits l).any fun k=>(k:Int)==bits
theorem MS (n bits:Int) (l:List Oq):l.foldl (JW n bits) none=none:=by
 induction l with
 |nil=>rfl
 |cons o l ih=>exact ih
theorem MT {n bits:Int} {l:List Oq} {k:Nat} {o:Oq} (h:l[k]?=some o):Cl n bits (l.take (k+1))=JW n bits (Cl n bits (l.take k)) o:=by
 unfold Cl;rw [aS h,rZ];rfl
theorem uf {n bits:Int} {l:List Oq} {k j:Nat} {o:Oq} (h:l[k]?=some o) (hk:Cl n bits (l.take k)=some j) (ho:qZ n bits j o=false):lst l n bits=false:=by
 have h1:=MT (n:=n) (bits:=bits) h;rw [hk] at h1;have h2:JW n bits (some j) o=none:=by simp [JW,ho]
 rw [h2] at h1;have h3:Cl n bits l=none:=by
  have e:l=l.take (k+1)++l.drop (k+1):=(yj _ _).symm;unfold Cl at h1 |-;rw [e,rZ,h1]
  exact MS _ _ _
 simp [lst,h3]
theorem Cn {n bits:Int} {l:List Oq} {k j:Nat} {o:Oq} (h:l[k]?=some o) (hk:Cl n bits (l.take k)=some j) (ho:qZ n bits j o=true):Cl n bits (l.take (k+1))=some (if (o.k==2)=true then j+1 else j):=by
 rw [MT h,hk];simp [JW,ho]
theorem Fw {n bits:Int} {j:Nat} {o:Oq} (h:dM o n bits=false):qZ n bits j o=false:=by simp [qZ,h]
theorem Pr {n bits:Int} {j:Nat} {o:Oq} (h:(j:Int)<o.cond):qZ n bits j o=false:=by simp [qZ,h]
theorem Ps {n bits:Int} {j:Nat} {o:Oq} (h:(o.k==2)=true) (hb:(o.bit==(j:Int))=false):qZ n bits j o=false:=by simp [qZ,h,hb]
theorem XU {n bits:Int} {j:Nat} {o:Oq} (hv:dM o n bits=true) (hc:¬(j:Int)<o.cond) (h:(o.k==2)=false):qZ n bits j o=true:=by simp [qZ,hv,hc,h]
theorem XV {n bits:Int} {j:Nat} {o:Oq} (hv:dM o n bits=true) (hc:¬(j:Int)<o.cond) (hb:(o.bit==(j:Int))=true):qZ n bits j o=true:=by simp [qZ,hv,hc,hb]
theorem Pu {n bits:Int} {l:List Oq} {j:Nat} (h:Cl n bits l=some j):lst l n bits=((j:Int)==bits):=by simp [lst,h]
def noA (l:List Oq):Bool:=l.all fun o=>!(o.k==3)
theorem al6 {l:List Oq} {k:Nat} {o:Oq} (h:l[k]?=some o) (ho:(o.k==3)=true):noA l=false:=by
 unfold noA;rw [Qq];intro ha;rw [lO] at ha;have:=ha o (lG h);simp [ho] at this
theorem Sv {l:List Oq} {k:Nat} {o:Oq} (h:l[k]?=some o) (hk:noA (l.take k)=true) (ho:(o.k==3)=false):noA (l.take (k+1))=true:=by
 unfold noA at*
 rw [aS h,qG,hk];simp [ho]
def AU (x:Cm):Bool:=lX x.n 1 4 && lX x.bits 0 3 && lst x.ops x.n x.bits
def vC (x:Cm):Bool:=perm x.st && perm x.fin && ((x.st.length:Int)==x.n) && ((x.fin.length:Int)==x.n) && decide (x.ops.length<=1200) && lX x.bits 0 3 && lst x.ops x.n x.bits && noA x.ops
theorem qm {p:List Int} (h:perm p=true):1<=p.length/\p.length<=4:=by
 unfold perm at h;simp at h;omega
theorem dR {P:Prop} (h:P:=by
 go_wp2;go_ret
 exact ⟨aI (HF.u).symm,hx⟩):P:=h
theorem JY {P:Prop} (h:P:=by
 have HN:=hY (Cn HG.u HQ.u (XV hv hc Qs));rw [aY h2] at HN;have hbn:(g.bit !=(j:Int))=false:=fQ
 clear hc;go_wp2;go_roundw
 case rel=>exact ⟨k+1,j+1,aa,aa,az,az,HN,qA,aK⟩
 case measure=>simp [intOf];omega):P:=h
theorem JZ {P:Prop} (h:P:=by
 have HN:=hY (Cn HG.u HQ.u (XU hv hc h2));rw [aM eY] at HN;clear hc;go_wp2;go_roundw
 case rel=>exact ⟨k+1,j,aa,aa,az,rfl,HN,qA,aK⟩
 case measure=>simp [intOf];omega):P:=h
theorem AV {P:Prop} (h:P:=by
 go_wp2;go_ret
 exact ⟨aI (HF.u).symm,aK⟩):P:=h
theorem Sw (A1 A2 A3:OA) (c1 c2 c3:Nat) (x:Cm) (w:World) (h1:Rd w w.heap.size 8 A1 x.ops.length (aJ x.ops)) (s1:x.ops.length<=2000000000000):
  Calls prog 27 #[.agg #[iI x.n,iI x.bits,.slice A1 x.ops.length c1,.slice A2 x.st.length c2,.slice A3 x.fin.length c3]] w fun e w'=>e=.returned (.bool (lst x.ops x.n x.bits))/\Ext w w':=by
 go_enter func27,ntmps27;go_wp2
 go_loopw [3,4] (fun kn i wr=>∃k j:Nat,k<=x.ops.length/\j<=k/\i=iI k/\kn=iI j/\Hid (Cl x.n x.bits (x.ops.take k)=some j)/\au wr w.heap.size 27 #[iI x.n,iI x.bits,.slice A1 x.ops.length c1,.slice A2 x.st.length c2,.slice A3 x.fin.length c3]/\Ext w wr) (fun _ i _=>x.ops.length - (intOf i).toNat)
 case atStart=>exact ⟨0,0,lJ _,lJ _,rfl,rfl,hY rfl,au.new _ _ _,xx⟩
 case round=>
  obtain ⟨k,j,hk,hj,rfl,rfl,HQ,hB,hx⟩:=hrel;have b0:=hB.ck 0;have b1:=hB.ck 1;have b2:=hB.ck 2;have ah3:=hB.lt
  by_cases ba:k<x.ops.length
  ·obtain ⟨b,o,g,rfl,hb,hg,h0,h1',h2,h3,h4,h5,h6,h7⟩:=nB (h1.ext hx) ba;have HG:=hY hg;clear hg;go_wp2_with fail;refine (kq g x.n x.bits _).mono ?_;rintro e w1 ⟨rfl,dw⟩;have hO:au w1 wr.heap.size 41 (jE g):=(au.new wr _ _).ext dw;have qA:=(hB.alloc (cO (jE g) 41)).ext dw;have aK:Ext w w1:=Ext.trans (hx.alloc _) dw;clear h0 h1' h2 h3 h4 h5 h6 h7 b0 b1 b2 hB hx dw;have o0:=hO.ck 0;have o6:=hO.ck 6;have o7:=hO.ck 7;clear hO
   cases hv:dM g x.n x.bits
   ·have HF:=hY (uf HG.u HQ.u (Fw hv))
    exact AV
   by_cases hc:(j:Int)<g.cond
   ·have HF:=hY (uf HG.u HQ.u (Pr hc))
    exact AV
   have uF:g.cond<=(j:Int):=aa
   cases h2:(g.k==2)
   ·exact JZ
   cases Qs:(g.bit==(j:Int))
   ·have HF:=hY (uf HG.u HQ.u (Ps h2 Qs));have hbn:(g.bit !=(j:Int))=true:=fQ
    clear hc
    exact AV
   exact JY
  ·rw [lE aa] at HQ;have HF:=hY (Pu HQ.u)
   exact dR
theorem qo {P:Prop} (h:P:=by
 go_wp2;go_ret
 exact ⟨aI (HI.u.trans HF.u).symm,aK⟩):P:=h
theorem Ka {P:Prop} (h:P:=by
 have Hn:=hY hn;have HF:Hid (AU x=false):=by unfold Hid AU;rw [kZ hn];simp
 clear hn;go_wp2_with fail;refine (px _ _ _ _ Hn.u).mono ?_;rintro e w1 ⟨rfl,rfl⟩;go_wp2;go_ret
 exact ⟨aI (HF.u).symm,aw⟩):P:=h
theorem aak (A1 A2 A3:OA) (c1 c2 c3:Nat) (x:Cm) (w:World) (h1:Rd w w.heap.size 8 A1 x.ops.length (aJ x.ops)) (s1:x.ops.length<=2000000000000):
  Calls prog 24 #[.agg #[iI x.n,iI x.bits,.slice A1 x.ops.length c1,.slice A2 x.st.length c2,.slice A3 x.fin.length c3]] w fun e w'=>e=.returned (.bool (AU x))/\Ext w w':=by
 go_enter func24,ntmps24
 by_cases hn:x.n<1\/4<x.n
 ·exact Ka
 have jX:1<=x.n/\x.n<=4:=⟨aa,aa⟩;have Hn1:=hY jX;clear hn jX;go_wp2_with fail;refine (gS _ _ _ _ Hn1.u.1 Hn1.u.2).mono ?_;rintro e w1 ⟨rfl,rfl⟩
 by_cases hn:x.bits<0\/3<x.bits
 ·exact Ka
 have jX:0<=x.bits/\x.bits<=3:=⟨aa,aa⟩;have Hn2:=hY jX;clear hn jX;go_wp2_with fail;refine (gS _ _ _ _ Hn2.u.1 Hn2.u.2).mono ?_;rintro e w1 ⟨rfl,rfl⟩;have HI:Hid (AU x=lst x.ops x.n x.bits):=by unfold Hid AU;rw [gy Hn1.u.1 Hn1.u.2,gy Hn2.u.1 Hn2.u.2];rfl
 go_wp2
 go_loopw [3,19] (fun kn i wr=>∃k j:Nat,k<=x.ops.length/\j<=k/\i=iI k/\kn=iI j/\Hid (Cl x.n x.bits (x.ops.take k)=some j)/\au wr w.heap.size 27 #[iI x.n,iI x.bits,.slice A1 x.ops.length c1,.slice A2 x.st.length c2,.slice A3 x.fin.length c3]/\Ext w wr) (fun _ i _=>x.ops.length - (intOf i).toNat)
 case atStart=>exact ⟨0,0,lJ _,lJ _,rfl,rfl,hY rfl,au.new _ _ _,xx⟩
 case round=>
  obtain ⟨k,j,hk,hj,rfl,rfl,HQ,hB,hx⟩:=hrel;have b0:=hB.ck 0;have b1:=hB.ck 1;have b2:=hB.ck 2;have ah3:=hB.lt
  by_cases ba:k<x.ops.length
  ·obtain ⟨b,o,g,rfl,hb,hg,h0,h1',h2,h3,h4,h5,h6,h7⟩:=nB (h1.ext hx) ba;have HG:=hY hg;clear hg;go_wp2_with fail;refine (pW g x.n x.bits _).mono ?_;rintro e w1 ⟨rfl,dw⟩;have hO:au w1 wr.heap.size 41 (jE g):=(au.new wr _ _).ext dw;have qA:=(hB.alloc (cO (jE g) 41)).ext dw;have aK:Ext w w1:=Ext.trans (hx.alloc _) dw;clear h0 h1' h2 h3 h4 h5 h6 h7 b0 b1 b2 hB hx dw;have o0:=hO.ck 0;have o6:=hO.ck 6;have o7:=hO.ck 7;clear hO
   cases hv:dM g x.n x.bits
   ·have HF:=hY (uf HG.u HQ.u (Fw hv))
    exact qo
   by_cases hc:(j:Int)<g.cond
   ·have HF:=hY (uf HG.u HQ.u (Pr hc))
    cases h2:(g.k==2)
    ·exact qo
    cases Qs:(g.bit==(j:Int))
    ·have hbn:(g.bit !=(j:Int))=true:=fQ
     exact qo
    have hbn:(g.bit !=(j:Int))=false:=fQ
    exact qo
   have uF:g.cond<=(j:Int):=aa
   cases h2:(g.k==2)
   ·exact JZ
   cases Qs:(g.bit==(j:Int))
   ·have HF:=hY (uf HG.u HQ.u (Ps h2 Qs));have hbn:(g.bit !=(j:Int))=true:=fQ
    clear hc
    exact qo
   exact JY
  ·rw [lE aa] at HQ;have HF:=hY (Pu HQ.u);go_wp2;go_ret
   exact ⟨aI (HI.u.trans HF.u).symm,hx⟩
theorem Kb {P:Prop} (h:P:=by
 have HF0:=hY (al6 HG.u h3k);have HF:Hid (vC x=false):=by unfold Hid vC;rw [HF0.u];simp
 go_wp2;go_ret
 exact ⟨aI (HF.u).symm,aw⟩):P:=h
theorem gl (A1 A2 A3:OA) (c1 c2 c3:Nat) (x:Cm) (w:World) (h1:Rd w w.heap.size 8 A1 x.ops.length (aJ x.ops)) (s1:x.ops.length<=2000000000000) (h2:Rd w w.heap.size 1 A2 x.st.length (aD x.st)) (h3:Rd w w.heap.size 1 A3 x.fin.length (aD x.fin)) (s2:x.st.length<=2000000000000) (s3:x.fin.length<=2000000000000) (k2:x.st.length<=c2) (k3:x.fin.length<=c3):
  Calls prog 9 #[.agg #[iI x.n,iI x.bits,.slice A1 x.ops.length c1,.slice A2 x.st.length c2,.slice A3 x.fin.length c3]] w fun e w'=>e=.returned (.bool (vC x))/\Ext w w':=by
 go_enter func9,ntmps9;go_wp2_with fail;refine (bU A2 x.st.length c2 x.st _ (h2.ext aw) s2 k2).mono ?_;rintro e w1 ⟨rfl,dw⟩;have hB:au w1 w.heap.size 27 #[iI x.n,iI x.bits,.slice A1 x.ops.length c1,.slice A2 x.st.length c2,.slice A3 x.fin.length c3]:=(au.new w _ _).ext dw;have hx:Ext w w1:=Ext.trans aw dw;have aek:=hB.ck 0;have ael:=hB.ck 1;have aem:=hB.ck 2;have aen:=hB.ck 3;have aeo:=hB.ck 4
 cases i1:perm x.st
 ·have HF:Hid (vC x=false):=by unfold Hid vC;rw [i1];simp
  exact dR
 go_wp2_with fail;refine (bU A3 x.fin.length c3 x.fin _ (h3.ext hx) s3 k3).mono ?_;rintro e w2 ⟨rfl,iW⟩;replace hB:=hB.ext iW;replace hx:=hx.trans iW;clear aek ael aem aen aeo;have ajx:=hB.ck 0;have ajy:=hB.ck 1;have ajz:=hB.ck 2;have ajA:=hB.ck 3;have ajB:=hB.ck 4
 cases i2:perm x.fin
 ·have HF:Hid (vC x=false):=by unfold Hid vC;rw [i2];simp
  exact dR
 cases i3:((x.st.length:Int)==x.n)
 ·have HF:Hid (vC x=false):=by unfold Hid vC;rw [i3];simp
  have j3:((x.st.length:Int) !=x.n)=true:=by simp [bne,i3]
  exact dR
 have j3:((x.st.length:Int) !=x.n)=false:=by simp [bne,i3]
 cases i4:((x.fin.length:Int)==x.n)
 ·have HF:Hid (vC x=false):=by unfold Hid vC;rw [i4];simp
  have j4:((x.fin.length:Int) !=x.n)=true:=by simp [bne,i4]
  exact dR
 have j4:((x.fin.length:Int) !=x.n)=false:=by simp [bne,i4]
 have HR:=hY (qm i1)
 by_cases hn:x.bits<0\/3<x.bits
 ·have Hn:=hY hn;have HF:Hid (vC x=false):=by unfold Hid vC;rw [kZ hn];simp
  clear hn;go_wp2_with fail;refine (bP _ _ _ _ Hn.u).mono ?_;rintro e w3 ⟨rfl,rfl⟩
  exact dR
 have jX:0<=x.bits/\x.bits<=3:=⟨aa,aa⟩;have Hn2:=hY jX;clear hn jX;go_wp2_with fail;refine (aF _ _ _ _ Hn2.u.1 Hn2.u.2).mono ?_;rintro e w3 ⟨rfl,rfl⟩
 by_cases hl:1200<x.ops.length
 ·have HF:Hid (vC x=false):=yN
  exact dR
 have hl':x.ops.length<=1200:=aa
 clear hl;go_wp2_with fail;refine (Sw A1 A2 A3 c1 c2 c3 x _ (h1.ext hx) s1).mono ?_;rintro e w3 ⟨rfl,ig⟩;replace hB:=hB.ext ig;replace hx:=hx.trans ig;clear ajx ajy ajz ajA ajB
 cases i5:lst x.ops x.n x.bits
 ·have HF:Hid (vC x=false):=by unfold Hid vC;rw [i5];simp
  exact dR
 have HI:Hid (vC x=noA x.ops):=by unfold Hid vC;rw [i1,i2,i3,i4,i5,vP hl',gy Hn2.u.1 Hn2.u.2];rfl
 go_wp2
 go_loopw [3] (fun i wr=>∃k:Nat,k<=x.ops.length/\i=iI k/\Hid (noA (x.ops.take k)=true)/\au wr w.heap.size 27 #[iI x.n,iI x.bits,.slice A1 x.ops.length c1,.slice A2 x.st.length c2,.slice A3 x.fin.length c3]/\Ext w wr) (fun i _=>x.ops.length - (intOf i).toNat)
 case atStart=>exact ⟨0,lJ _,rfl,hY rfl,hB,hx⟩
 case round=>
  clear hB hx;obtain ⟨k,hk,rfl,HQ,hB,hx⟩:=hrel;have ah3:=hB.lt;have b2:=hB.ck 2
  by_cases ba:k<x.ops.length
  ·obtain ⟨b,o,g,rfl,hb,hg,h0,h1',h2,h3,h4,h5,h6,h7⟩:=nB (h1.ext hx) ba;have HG:=hY hg;clear hg
   cases h3k:(g.k==3)
   ·have HN:=hY (Sv HG.u HQ.u h3k);go_wp2;go_roundw
    case rel=>exact ⟨k+1,aa,az,HN,hB,hx⟩
    case measure=>simp [intOf];omega
   ·exact Kb
  ·rw [lE aa] at HQ;go_wp2;go_ret
   exact ⟨aI (HI.u.trans HQ.u).symm,hx⟩
theorem gm (A1 A2 A3:OA) (c1 c2 c3:Nat) (x:Cm) (w:World) (h1:Rd w w.heap.size 8 A1 x.ops.length (aJ x.ops)) (s1:x.ops.length<=2000000000000) (h2:Rd w w.heap.size 1 A2 x.st.length (aD x.st)) (h3:Rd w w.heap.size 1 A3 x.fin.length (aD x.fin)) (s2:x.st.length<=2000000000000) (s3:x.fin.length<=2000000000000):
  Calls prog 8 #[.agg #[iI x.n,iI x.bits,.slice A1 x.ops.length c1,.slice A2 x.st.length c2,.slice A3 x.fin.length c3]] w fun e w'=>e=.returned (.bool (vC x))/\Ext w w':=by
 go_enter func8,ntmps8;go_wp2_with fail;refine (kX A2 x.st.length c2 x.st _ (h2.ext aw) s2).mono ?_;rintro e w1 ⟨rfl,dw⟩;have hB:au w1 w.heap.size 27 #[iI x.n,iI x.bits,.slice A1 x.ops.length c1,.slice A2 x.st.length c2,.slice A3 x.fin.length c3]:=(au.new w _ _).ext dw;have hx:Ext w w1:=Ext.trans aw dw;have aek:=hB.ck 0;have ael:=hB.ck 1;have aem:=hB.ck 2;have aen:=hB.ck 3;have aeo:=hB.ck 4
 cases i1:perm x.st
 ·have HF:Hid (vC x=false):=by unfold Hid vC;rw [i1];simp
  exact dR
 go_wp2_with fail;refine (kX A3 x.fin.length c3 x.fin _ (h3.ext hx) s3).mono ?_;rintro e w2 ⟨rfl,iW⟩;replace hB:=hB.ext iW;replace hx:=hx.trans iW;clear aek ael aem aen aeo;have ajx:=hB.ck 0;have ajy:=hB.ck 1;have ajz:=hB.ck 2;have ajA:=hB.ck 3;have ajB:=hB.ck 4
 cases i2:perm x.fin
 ·have HF:Hid (vC x=false):=by unfold Hid vC;rw [i2];simp
  exact dR
 cases i3:((x.st.length:Int)==x.n)
 ·have HF:Hid (vC x=false):=by unfold Hid vC;rw [i3];simp
  have j3:((x.st.length:Int) !=x.n)=true:=by simp [bne,i3]
  exact dR
 have j3:((x.st.length:Int) !=x.n)=false:=by simp [bne,i3]
 cases i4:((x.fin.length:Int)==x.n)
 ·have HF:Hid (vC x=false):=by unfold Hid vC;rw [i4];simp
  have j4:((x.fin.length:Int) !=x.n)=true:=by simp [bne,i4]
  exact dR
 have j4:((x.fin.length:Int) !=x.n)=false:=by simp [bne,i4]
 have HR:=hY (qm i1)
 by_cases hl:1200<x.ops.length
 ·have HF:Hid (vC x=false):=yN
  exact dR
 have hl':x.ops.length<=1200:=aa
 clear hl;go_wp2
 go_loopw [40] (fun i wr=>∃k:Nat,k<=x.ops.length/\i=iI k/\Hid (noA (x.ops.take k)=true)/\au wr w.heap.size 27 #[iI x.n,iI x.bits,.slice A1 x.ops.length c1,.slice A2 x.st.length c2,.slice A3 x.fin.length c3]/\Ext w wr) (fun i _=>x.ops.length - (intOf i).toNat)
 case atStart=>exact ⟨0,lJ _,rfl,hY rfl,hB,hx⟩
 case round=>
  clear hB hx;obtain ⟨k,hk,rfl,HQ,hB,hx⟩:=hrel;have ah3:=hB.lt;have b2:=hB.ck 2
  by_cases ba:k<x.ops.length
  ·obtain ⟨b,o,g,rfl,hb,hg,h0,h1',h2,h3,h4,h5,h6,h7⟩:=nB (h1.ext hx) ba;have HG:=hY hg;clear hg
   cases h3k:(g.k==3)
   ·have HN:=hY (Sv HG.u HQ.u h3k);go_wp2;go_roundw
    case rel=>exact ⟨k+1,aa,az,HN,hB.alloc _,hx.alloc _⟩
    case measure=>simp [intOf];omega
   ·exact Kb
  ·rw [lE aa] at HQ;have ayL:=hB.ck 0;have ayM:=hB.ck 1;have ayN:=hB.ck 3;have ayO:=hB.ck 4;go_wp2_with fail;refine (aak A1 A2 A3 c1 c2 c3 x _ (h1.ext hx) s1).mono ?_;rintro e w3 ⟨rfl,ig⟩;have HI:Hid (vC x=AU x):=by
    unfold Hid vC AU;have hr:=HR.u;have hN:x.n=(x.st.length:Int):=by simpa using (eS.1 i3).symm
    rw [gy (x:=x.n) (lo:=1) (hi:=4) aa aa,i1,i2,i3,i4,HQ.u,vP hl'];simp
   go_wp2;go_ret
   exact ⟨aI (HI.u).symm,hx.trans ig⟩
theorem oR {w:World} {B e size n c:Nat} {A:OA} {xs:List Value} (h:w.ownsRow B e size (.slice A n c) n xs):n<=c:=by
 rcases DF n with h0|h0
 ·omega
 ·obtain ⟨g,_,hc⟩:=ny h h0
  exact hc
theorem LJ {b0 b1 b2 b3:Nat} (v:Value) (x:Cm) (w:World) (h:GG w b0 b1 b2 b3 v x) (hs:x.small):
  Calls prog 9 #[v] w fun e w'=>e=.returned (.bool (vC x))/\Ext w w':=by
 obtain ⟨A1,A2,A3,c1,c2,c3,rfl,h1,_,h2,_,h3,_⟩:=h;obtain ⟨s1,s2,s3⟩:=hs
 exact gl A1 A2 A3 c1 c2 c3 x w (Rd.own h1) aa (Rd.own h2) (Rd.own h3) aa aa (oR h2) (oR h3)
theorem MU (v:Value) (x:Cm) (w:World) (h:tr w w.heap.size v x) (hs:x.small):
  Calls prog 8 #[v] w fun e w'=>e=.returned (.bool (vC x))/\Ext w w':=by
 obtain ⟨A1,A2,A3,c1,c2,c3,rfl,h1,h2,h3⟩:=h;obtain ⟨s1,s2,s3⟩:=hs
 exact gm A1 A2 A3 c1 c2 c3 x w h1 aa h2 h3 aa aa
end Go.Proofs.YtodhjgngkkcjgaaGreatDoor
