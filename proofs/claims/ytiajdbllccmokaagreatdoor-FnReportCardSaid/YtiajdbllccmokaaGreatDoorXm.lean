import Derived.Test.YtiajdbllccmokaaGreatDoorXi
namespace Go.Proofs.YtiajdbllccmokaaGreatDoor
open Go.ChangeShapes Go.WideShapes Go.ChangeAt Go.RowKit Go.Deep Go.Proofs.Tryz
set_option linter.unusedVariables false
set_option linter.unusedSimpArgs false
set_option maxRecDepth 100000
set_option maxHeartbeats 16000000
theorem At {P:Prop} (h:P:=by
 intro v' w' h1 h2 h3 h4;rw [mH] at h1;obtain ⟨A',c',rfl,_⟩:=au h1
 exact h A' c' w' h1 (yP (((xZ w).alloc _).gr _) h3) (sU h4)):P:=h
theorem VB {w:World} {B:Nat} {ops:Array Oper} {rest:List Oper} {o:Oper} {a:Act} {Q:Exit->Act->World->Prop} (fx:o.guard=none) (s x:Operand)
  (ho:aO o s x 24) (v:Value) (n:Nat) (xs:List Oq) (hs:a.eval s=v)
  (bc:w.ownsRow B 56 8 v n (aI xs)) (hB:B<=w.heap.size) (y:Oq) (e:TypeId) (b:Nat) (hx:a.eval x=.slice (some ⟨b,0,none⟩) 1 1) (qc:b=w.heap.size) (hn:n<=1800000000000)
  (h:∀A' c' w',w'.ownsRow B 56 8 (.slice A' (n+1) c') (n+1) (aI (xs++[y]))->w.grownBy w' v.ownBlock->((Value.slice A' (n+1) c').ownBlock=v.ownBlock\/(Value.slice A' (n+1) c').ownBlock=some (w.heap.size+1))->wpList prog ops Q rest (a.put o.dst (.slice A' (n+1) c')) w'):
  wpList prog ops Q (o::rest) a (w.alloc (cO (jE y) e)):=by
 subst qc;have mH:=im hB;refine NG (w0:=CH w B) fx s x ho v n xs hs dR ((nc hB).alloc _) _ 1 1 [y] hx (eh w _ e 8 _ gu gu) aa ?_
 exact At
theorem Ja {w:World} {B:Nat} {ops:Array Oper} {o:Oper} {a:Act} {K:Act->World->Prop} {Q:Exit->Act->World->Prop} {E:Prop} (fx:o.guard=none) (s x:Operand)
  (ho:aO o s x 24) (v:Value) (n:Nat) (xs:List Oq) (hs:a.eval s=v)
  (bc:w.ownsRow B 56 8 v n (aI xs)) (hB:B<=w.heap.size) (y:Oq) (e:TypeId) (b:Nat) (hx:a.eval x=.slice (some ⟨b,0,none⟩) 1 1) (qc:b=w.heap.size) (hn:n<=1800000000000)
  (h:∀A' c' w',w'.ownsRow B 56 8 (.slice A' (n+1) c') (n+1) (aI (xs++[y]))->w.grownBy w' v.ownBlock->((Value.slice A' (n+1) c').ownBlock=v.ownBlock\/(Value.slice A' (n+1) c').ownBlock=some (w.heap.size+1))->K (a.put o.dst (.slice A' (n+1) c')) w'):
  if Region.wanted o (yielded ops a.tmps)=true then Oper.wp prog o a (w.alloc (cO (jE y) e)) K Q else E:=by
 subst qc;have mH:=im hB;refine Bk (w0:=CH w B) fx s x ho v n xs hs dR ((nc hB).alloc _) _ 1 1 [y] hx (eh w _ e 8 _ gu gu) aa ?_
 exact At
theorem VC:(prog.info? 26).map (·.size)=some 4:=af
theorem Ls {fn:Func} {p:Tmp} (hf:fn.results=#[.cell p 26]) {W:World} {q:Nat} {z0 z1 z2 z3:Value} (hB:ay W q 26 #[z0,z1,z2,z3]) (a b c d:Value) (tmps:Array Value)
  (hp:tmps.getD p undef=.pointer (some ⟨q,0,none⟩)):(results fn tmps).run prog ((((W.setCell (aA q 0) a).setCell (aA q 1) b).setCell (aA q 2) c).setCell (aA q 3) d)=.ok (.agg #[a,b,c,d]) ((((W.setCell (aA q 0) a).setCell (aA q 1) b).setCell (aA q 2) c).setCell (aA q 3) d):=
 nU hf tmps _ q 26 _ (0,0) _ hp (hB.vR a b c d) underlying26 rfl VC
def DR (w0 w:World) (g s:Nat) (N I B:Int) (A:OA) (len cap:Nat) (xs:List Oq):Prop:=
 ay w w0.heap.size 26 #[iI 0,iI 0,iI 0,nS]/\ay w s 26 #[iI N,iI I,iI B,.slice A len cap]/\w.ownsRow (w0.heap.size+1) 56 8 (.slice A len cap) len (aI xs)/\(∀q,(Value.slice A len cap).ownBlock=some q->w0.heap.size+1<=q/\q≠s)/\dY w g/\w0.grownBy w (some g)
section
variable {w0 w w':World} {g s:Nat} {N I B:Int} {A:OA} {len cap:Nat} {xs:List Oq}
theorem DR.cur (h:DR w0 w g s N I B A len cap xs):dY w g:=h.2.2.2.2.1
theorem DR.lt (h:DR w0 w g s N I B A len cap xs):s<w.heap.size/\w0.heap.size<w.heap.size:=⟨h.2.1.lt,h.1.lt⟩
theorem DR.grown (h:DR w0 w g s N I B A len cap xs) (hg:w.grownBy w' (some g)) (hC:dY w' g) (hs:g<s) (hl:g<w0.heap.size):DR w0 w' g s N I B A len cap xs:=by
 obtain ⟨h1,h2,h3,h4,h5,h6⟩:=h
 exact ⟨h1.grown hg (fun k hk=>aw),h2.grown hg (fun k hk=>aw),cT h3 hg (fun k hk=>aw),h4,hC,bY h6 hg⟩
theorem DR.drew (h:DR w0 w g s N I B A len cap xs):DR w0 w.drew g s N I B A len cap xs:=by
 obtain ⟨h1,h2,h3,h4,h5,h6⟩:=h
 exact ⟨h1,h2,aq h3 (xZ w).drew,h4,h5.ext (xZ w).drew,vQ h6 (xZ w).drew⟩
theorem DR.alloc (h:DR w0 w g s N I B A len cap xs) (o:Obj):DR w0 (w.alloc o) g s N I B A len cap xs:=by
 obtain ⟨h1,h2,h3,h4,h5,h6⟩:=h
 exact ⟨h1.alloc o,h2.alloc o,aq h3 ((xZ w).alloc o),h4,h5.alloc o,gZ h6 o⟩
theorem DR.VD (h:DR w0 w g s N I B A len cap xs) {j:Nat} {N' I' B':Int} (u:Value) (he:(#[iI N,iI I,iI B,.slice A len cap]:Array Value).setIfInBounds j u=#[iI N',iI I',iI B',.slice A len cap]) (hs:w0.heap.size<s) (hl:g<w0.heap.size):DR w0 (w.setCell (aA s j) u) g s N' I' B' A len cap xs:=by
 obtain ⟨h1,h2,h3,h4,h5,h6⟩:=h;refine ⟨h1.bX (p:=(aA s j)) aj _,by have:=h2.ba j u;rwa [he] at this,?_,h4,h5.ba (p:=(aA s j)) aj _,fE h6 (p:=(aA s j)) aj _⟩;refine h3.kept (row:=some s) (cB (jN w (some s)) j _) ?_
 cases hv:(Value.slice A len cap).ownBlock with
 |none=>exact .inl rfl
 |some q=>exact .inr (fun e=>(h4 q hv).2 dr)
theorem DR.bX (h:DR w0 w g s N I B A len cap xs) {t j:Nat} (u:Value) (ht:t≠s) (hw:w0.heap.size<t) (hl:g<w0.heap.size) (hq:∀q,(Value.slice A len cap).ownBlock=some q->q≠t):DR w0 (w.setCell (aA t j) u) g s N I B A len cap xs:=by
 obtain ⟨h1,h2,h3,h4,h5,h6⟩:=h;refine ⟨h1.bX (p:=(aA t j)) aj _,h2.bX (p:=(aA t j)) aj _,?_,h4,h5.ba (p:=(aA t j)) aj _,fE h6 (p:=(aA t j)) aj _⟩;refine h3.kept (row:=some t) (cB (jN w (some t)) j _) ?_
 cases hv:(Value.slice A len cap).ownBlock with
 |none=>exact .inl rfl
 |some q=>exact .inr (fun e=>hq q hv dr)
theorem DR.app {A':OA} {c':Nat} {y:Oq} (h:DR w0 w g s N I B A len cap xs) (hs:w0.heap.size<s) (hl:g<w0.heap.size)
  (ho:w'.ownsRow (w0.heap.size+1) 56 8 (.slice A' (len+1) c') (len+1) (aI (xs++[y]))) (hg:w.grownBy w' (Value.slice A len cap).ownBlock)
  (hb:(Value.slice A' (len+1) c').ownBlock=(Value.slice A len cap).ownBlock\/(Value.slice A' (len+1) c').ownBlock=some (w.heap.size+1)):
  ay w' s 26 #[iI N,iI I,iI B,.slice A len cap]/\DR w0 (w'.setCell (aA s 3) (.slice A' (len+1) c')) g s N I B A' (len+1) c' (xs++[y]):=by
 obtain ⟨h1,h2,h3,h4,h5,h6⟩:=h;have Vi:=h2.lt;have hB:=h2.grown hg (fun k hk e=>(h4 k hk).2 e.symm);have TI:∀q,(Value.slice A' (len+1) c').ownBlock=some q->w0.heap.size+1<=q/\q≠s:=by
  intro q hq;rcases hb with hb|hb
  ·rw [hb] at hq;exact h4 q hq
  ·rw [hb] at hq;injection hq with hq;have:=h1.lt;omega
 refine ⟨hB,(h1.grown hg (fun k hk e=>oM ((h4 k hk).1))).bX (p:=(aA s 3)) aj _,hB.ba 3 _,?_,TI,(h5.grown hg (fun k hk=>oM ((h4 k hk).1))).ba (p:=(aA s 3)) aj _,fE (CI h6 hg (fun k hk=>oM ((h4 k hk).1))) (p:=(aA s 3)) aj _⟩;refine ho.kept (row:=some s) (cB (jN w' (some s)) 3 _) ?_
 cases hv:(Value.slice A' (len+1) c').ownBlock with
 |none=>exact .inl rfl
 |some q=>exact .inr (fun e=>(TI q hv).2 dr)
def sY (w0:World) (g bf:Nat) (e:Ending) (w':World):Prop:=
 ∃(N I B:Int) (A:OA) (len cap:Nat) (xs:List Oq),e=.returned (.agg #[iI N,iI I,iI B,.slice A len cap])/\(-1<=N/\N<=5/\ -1<=I/\I<=6/\ -1<=B/\B<=4)/\len<=bf/\w'.ownsRow w0.heap.size 56 8 (.slice A len cap) len (aI xs)/\dY w' g/\w0.grownBy w' (some g)
theorem DR.done {bf:Nat} (h:DR w0 w g s N I B A len cap xs) (hl:g<w0.heap.size) (hN: -1<=N/\N<=5/\ -1<=I/\I<=6/\ -1<=B/\B<=4) (hm:len<=bf):
  sY w0 g bf (.returned (.agg #[iI N,iI I,iI B,.slice A len cap])) ((((w.setCell (aA w0.heap.size 0) (iI N)).setCell (aA w0.heap.size 1) (iI I)).setCell (aA w0.heap.size 2) (iI B)).setCell (aA w0.heap.size 3) (.slice A len cap)):=
 ⟨N,I,B,A,len,cap,xs,rfl,hN,hm,aC (bk (bk (bk (bk h.2.2.1 (p:=(aA w0.heap.size 0)) ag _) (p:=(aA w0.heap.size 1)) ag _) (p:=(aA w0.heap.size 2)) ag _) (p:=(aA w0.heap.size 3)) ag _) aa,dY.vR h.2.2.2.2.1 hl _ _ _ _,od h.2.2.2.2.2 (lI _) _ _ _ _⟩
def tY (w0:World) (g bf:Nat) (e:Ending) (w':World):Prop:=
 ∃(N I B:Int) (A:OA) (len cap:Nat) (xs:List Oq),e=.returned (.agg #[iI N,iI I,iI B,.slice A len cap])/\(1<=N/\N<=3/\ -1<=I/\I<=6/\ -1<=B/\B<=4)/\len<=bf/\w'.ownsRow w0.heap.size 56 8 (.slice A len cap) len (aI xs)/\dY w' g/\w0.grownBy w' (some g)
theorem tY.loose {w0 w':World} {g bf:Nat} {e:Ending} (h:tY w0 g bf e w'):sY w0 g bf e w':=by
 obtain ⟨N,I,B,A,len,cap,xs,e1,hN,r⟩:=h
 exact ⟨N,I,B,A,len,cap,xs,e1,aa,r⟩
theorem DR.ajf {bf:Nat} (h:DR w0 w g s N I B A len cap xs) (hl:g<w0.heap.size) (hN:1<=N/\N<=3/\ -1<=I/\I<=6/\ -1<=B/\B<=4) (hm:len<=bf):
  tY w0 g bf (.returned (.agg #[iI N,iI I,iI B,.slice A len cap])) ((((w.setCell (aA w0.heap.size 0) (iI N)).setCell (aA w0.heap.size 1) (iI I)).setCell (aA w0.heap.size 2) (iI B)).setCell (aA w0.heap.size 3) (.slice A len cap)):=
 ⟨N,I,B,A,len,cap,xs,rfl,hN,hm,aC (bk (bk (bk (bk h.2.2.1 (p:=(aA w0.heap.size 0)) ag _) (p:=(aA w0.heap.size 1)) ag _) (p:=(aA w0.heap.size 2)) ag _) (p:=(aA w0.heap.size 3)) ag _) aa,dY.vR h.2.2.2.2.1 hl _ _ _ _,od h.2.2.2.2.2 (lI _) _ _ _ _⟩
end
theorem aez {w:World} {g t:Nat} {a0 a1 a2 a3 a4 a5 a6 a7:Value} (h:ay w g t #[a0,a1,a2,a3,a4,a5,a6,a7]):(w.cell? (aA g 0)=some a0/\w.cell? (aA g 1)=some a1/\w.cell? (aA g 2)=some a2/\w.cell? (aA g 3)=some a3/\w.cell? (aA g 4)=some a4/\w.cell? (aA g 5)=some a5/\w.cell? (aA g 6)=some a6/\w.cell? (aA g 7)=some a7)/\w.frozen? (aA g 7)=false:=
 ⟨⟨h.cell 0,h.cell 1,h.cell 2,h.cell 3,h.cell 4,h.cell 5,h.cell 6,h.cell 7⟩,h.frozen 7⟩
theorem Dh {P:Prop} (h:P:=by
 clear k6 f6 k3 o0 o1 o2 o3 o4 o5 o6 o7 f7;go_roundw
 case rel=>exact ⟨k+1,I,B,A7,c7,_,aa,az,hI,hBB,HA.u.2⟩
 case measure=>simp [intOf];omega):P:=h
theorem vw (g bf:Nat) (hm:bf<=200) (w:World) (h:dY w g):
  Calls prog 61 #[.pointer (some ⟨g,0,none⟩),iI bf] w (tY w g bf):=by
 have df:=h.lt;go_enter func61,ntmps61;go_wp2_with fail;refine (aU g 3 _ (h.alloc _) aa).mono ?_;rintro e w2 ⟨x,rfl,⟨cH,aS,_⟩,CJ,vv⟩;obtain ⟨n0,rfl⟩:=lD cH;have bH:n0<3:=dS
 clear aS cH;have rh:=(ay.new w 26 #[iI 0,iI 0,iI 0,nS]).grown vv (fun k hk=>aw);have oF:=rh.lt;have jL:w.grownBy w2 (some g):=bY (((xZ w).alloc _).gr _) vv;clear vv;go_upto_region 3 with fail;obtain ⟨n,en,nM,hn3⟩:∃n:Nat,(1:Int)+(n0:Int)=(n:Int)/\1<=n/\n<=3:=⟨n0+1,aa,aa,aa⟩;rw [en];clear en;have hD:DR w (w2.alloc (cO #[iI n,iI n,iI 0,nS] 26)) g w2.heap.size n n 0 none 0 0 []:=
  ⟨rh.alloc _,ay.new _ _ _,⟨ag,.inl ⟨rfl,rfl⟩⟩,fun q hq=>by simp [Value.ownBlock] at hq,CJ.alloc _,gZ jL _⟩
 generalize w2.alloc (cO #[iI n,iI n,iI 0,nS] 26)=W at*
 generalize w2.heap.size=s at*
 have fi:g<s:=aa
 clear rh jL CJ;have HD:=hY hD;have VE:=hD.cur;have hlW:=hD.lt;clear hD
 go_cut [22] (fun s22 wx=>∃bb:Bool,s22=.bool bb/\DR w wx g s n n 0 none 0 0 [])
 case first=>
  by_cases hn:1<n
  ·go_wp2_with fail;refine (fO g 4 _ VE aa).mono ?_;rintro e w5 ⟨bb,rfl,jV,gx⟩;go_wp2_with fail
   go_meet
   exact ⟨bb,rfl,HD.u.grown gx jV fi df⟩
  ·go_wp2_with fail
   go_meet
   exact ⟨false,rfl,HD.u⟩
 case rest=>
  obtain ⟨bb,rfl,hD⟩:=hcut;clear HD VE hlW;have um:w.heap.size<s:=aa
  have HD:=hY hD;have VE:=hD.cur;have hlW:=hD.lt;have i1:=hD.2.1.ck 1;have j1:=hD.2.1.frozen 1;clear hD;go_upto_if 22 with (fail)
  go_cut [] (fun wx=>∃I:Int,(0<=I/\I<=3)/\DR w wx g s n I 0 none 0 0 [])
  case first=>
   cases bb
   ·go_wp2_with fail
    go_meet
    exact ⟨n,aa,HD.u⟩
   ·go_wp2_with fail
    go_meet
    exact ⟨n - 1,aa,HD.u.VD _ rfl um df⟩
  case rest=>
   clear i1 j1 HD VE hlW;obtain ⟨I,hI,hD⟩:=hcut;go_wp2_with fail;refine (fO g 2 _ hD.cur aa).mono ?_;rintro e w6 ⟨aob,rfl,xp,ln⟩;have hD6:=hD.grown ln xp fi df;clear hD ln xp;go_wp2_with fail;refine (aU g _ _ hD6.cur aa).mono ?_;rintro e w7 ⟨mm,rfl,⟨hm0,Zo,_⟩,hC7,hG7⟩;obtain ⟨m,rfl⟩:=lD hm0;have hmm:m<=bf:=by have:=Zo aa;omega
   have hD7:=hD6.grown hG7 hC7 fi df;clear Zo hm0 hD6 hG7 hC7;go_wp2
   go_loopw [9] (fun i wr=>∃(k:Nat) (I B:Int) (A:OA) (cap:Nat) (xs:List Oq),k<=m/\i=iI k/\(0<=I/\I<=3)/\(0<=B/\B<=2)/\DR w wr g s n I B A k cap xs) (fun i _=>m - (intOf i).toNat)
   case atStart=>exact ⟨0,I,0,none,0,[],lJ _,rfl,hI,aa,hD7⟩
   case round=>
    clear hD7 hI I;obtain ⟨k,I,B,A,cap,xs,hk,rfl,hI,hBB,hD⟩:=hrel;have HD:=hY hD;have VE:=hD.cur;have hlW:=hD.lt;have i2:=hD.2.1.ck 2
    by_cases bh:k<m
    ·clear hD;go_upto_region 10 with fail
     go_cut [46] (fun s46 wx=>∃bb:Bool,s46=.bool bb/\(bb=true->B<2)/\DR w wx g s n I B A k cap xs)
     case first=>
      cases aob
      ·go_wp2_with fail
       go_meet
       exact ⟨false,rfl,ag,HD.u⟩
      ·by_cases rh:B<2
       ·go_wp2_with fail;refine (fO g 4 _ VE aa).mono ?_;rintro e w8 ⟨bb,rfl,hC8,hG8⟩;go_wp2_with fail
        go_meet
        exact ⟨bb,rfl,fun _=>rh,HD.u.grown hG8 hC8 fi df⟩
       ·go_wp2_with fail
        go_meet
        exact ⟨false,rfl,ag,HD.u⟩
     case rest=>
      clear HD VE hlW i2;obtain ⟨bb,rfl,vG,hD⟩:=hcut;have HD:=hY hD;have VE:=hD.cur;have hlW:=hD.lt;have i2:=hD.2.1.ck 2;have i3:=hD.2.1.ck 3;have hCd:=VE.ext (xZ wc).drew;clear hD
      cases bb
      ·clear vG;go_wp2_with fail;refine (vT g n aa _ VE).mono ?_;rintro e w9 ⟨y,rfl,hC9,hG9⟩;have hD9:=HD.u.grown hG9 hC9 fi df;have TM:=hD9.lt;go_upto_region 14 with fail;have hT:=ay.new w9 56 #[iI 1,iI y.k,iI y.a,iI y.b,iI y.c,iI 0,iI 0,iI 0];have hDT:=hD9.alloc (cO #[iI 1,iI y.k,iI y.a,iI y.b,iI y.c,iI 0,iI 0,iI 0] 56);have hqT:∀q,(Value.slice A k cap).ownBlock=some q->q≠w9.heap.size:=fun q hq=>oM ((hD9.2.2.1.lt q hq).2)
       generalize w9.alloc (cO #[iI 1,iI y.k,iI y.a,iI y.b,iI y.c,iI 0,iI 0,iI 0] 56)=W0 at*
       generalize w9.heap.size=t at*
       have hts:t≠s:=aa
       have hwt:w.heap.size<t:=aa
       have HQT:=hY hqT;have HDT:=hY hDT;have hC0:=hDT.cur;have MW:=hDT.lt;have i2':=hDT.2.1.ck 2;clear hqT hDT i2 i3 hCd HD VE hlW hD9 hC9 hG9
       go_cut [72] (fun s72 wx=>∃bb:Bool,s72=.bool bb/\DR w wx g s n I B A k cap xs/\ay wx t 56 #[iI 1,iI y.k,iI y.a,iI y.b,iI y.c,iI 0,iI 0,iI 0])
       case first=>
        by_cases eY:0<B
        ·go_wp2_with fail;refine (fO g 2 _ hC0 aa).mono ?_;rintro e pd ⟨bb,rfl,AY,sZ⟩;go_wp2_with fail
         go_meet
         exact ⟨bb,rfl,HDT.u.grown sZ AY fi df,hT.grown sZ (fun k hk=>aw)⟩
        ·go_wp2_with fail
         go_meet
         exact ⟨false,rfl,HDT.u,hT⟩
       case rest=>
        clear HDT hC0 MW i2' hT;obtain ⟨bb,rfl,hD,hT⟩:=hcut;have HD:=hY hD;have hC0:=hD.cur;have MW:=hD.lt;have i2:=hD.2.1.ck 2;clear hD
        cases bb
        ·obtain ⟨W1,rfl⟩:∃W1:World,W1=wc:=⟨_,rfl⟩;have Av:=HD;have hT1:=hT;clear HD hT i2 hC0 MW;have k3:=Av.u.2.1.ck 3;have nQ:=Av.u.lt;obtain ⟨⟨o0,o1,o2,o3,o4,o5,o6,o7⟩,f7⟩:=aez hT1;go_wp2_with (at_builtin;refine VB (B:=w.heap.size+1) rfl _ _ rfl _ k xs rfl Av.u.2.2.1 aa ⟨1,y,0,0,0⟩ _ _ rfl rfl aa ?_;intro A7 c7 w7 Ai hg7 GM;have HA:=hY (Av.u.app um df Ai hg7 GM);have k6:w7.cell? (aA s 3)=some (.slice A k cap):=HA.u.1.cell 3;have f6:w7.frozen? (aA s 3)=false:=HA.u.1.frozen 3)
         exact Dh
        ·go_wp2_with fail;refine (aU g B _ hC0 aa).mono ?_;rintro e pd ⟨z,rfl,⟨eX,gX,jK⟩,AY,sZ⟩;have hz3:z<=2:=by
          by_cases eY:0<B
          ·have:=gX eY;omega
          ·have:=jK aa;omega
         clear gX jK;have ajh:=HD.u.grown sZ AY fi df;have aaQ:=hT.grown sZ (fun k hk=>aw);have au7:=aaQ.lt;obtain ⟨⟨o0,o1,o2,o3,o4,o5,o6,o7⟩,f7⟩:=aez aaQ;go_upto_region 16 with fail;clear o0 o1 o2 o3 o4 o5 o6 o7 f7;have Av:=hY (ajh.bX (j:=7) (iI (1+z)) hts hwt df HQT.u);have hT1:ay (pd.setCell (aA t 7) (iI (1+z))) t 56 #[iI 1,iI y.k,iI y.a,iI y.b,iI y.c,iI 0,iI 0,iI (1+z)]:=aaQ.ba 7 _;generalize pd.setCell (aA t 7) (iI (1+z))=W1 at*
         clear HD hT i2 hC0 MW ajh aaQ;have k3:=Av.u.2.1.ck 3;have nQ:=Av.u.lt;obtain ⟨⟨o0,o1,o2,o3,o4,o5,o6,o7⟩,f7⟩:=aez hT1;go_wp2_with (at_builtin;refine VB (B:=w.heap.size+1) rfl _ _ rfl _ k xs rfl Av.u.2.2.1 aa ⟨1,y,0,0,(1+z)⟩ _ _ rfl rfl aa ?_;intro A7 c7 w7 Ai hg7 GM;have HA:=hY (Av.u.app um df Ai hg7 GM);have k6:w7.cell? (aA s 3)=some (.slice A k cap):=HA.u.1.cell 3;have f6:w7.frozen? (aA s 3)=false:=HA.u.1.frozen 3)
         exact Dh
      ·have rh:=vG rfl;clear vG;go_wp2
       go_region_law (first
        |(go_simp;go_at_call 27;(with_reducible refine (aU g n _ hCd aa).mono ?_);rintro e w8 ⟨z,rfl,⟨eX,gX,jK⟩,hC8,hG8⟩;have RX:=hY (HD.u.drew.grown hG8 hC8 fi df);have hl8:=RX.u.lt;have k2:w8.cell? (aA s 2)=some (iI B):=RX.u.2.1.cell 2;have k3:w8.cell? (aA s 3)=some (.slice A k cap):=RX.u.2.1.cell 3)
        |(refine Ja (B:=w.heap.size+1) ah _ _ ah _ k xs ah RX.u.2.2.1 aa ⟨2,⟨0,0,0,0⟩,z,B,0⟩ _ _ ah ah aa ?_;intro A4 c4 w9 rk Bm hb4;have HA:=hY (RX.u.app um df rk Bm hb4);have k6:w9.cell? (aA s 3)=some (.slice A k cap):=HA.u.1.cell 3;have f6:w9.frozen? (aA s 3)=false:=HA.u.1.frozen 3))
       all_goals
        clear k6 f6 k2 k3 i2 i3;have yH:=hY HA.u.2;have k2:=yH.u.2.1.ck 2;have f2:=yH.u.2.1.frozen 2;generalize w9.setCell (aA s 3) (.slice A4 (k+1) c4)=W1 at*
        go_wp2;go_roundw
        case rel=>exact ⟨k+1,I,B+1,A4,c4,_,aa,az,hI,aa,yH.u.VD _ rfl um df⟩
        case measure=>simp [intOf];omega
    ·obtain ⟨⟨b0,b1,b2,b3⟩,z0,z1,z2,z3⟩:=dD hD.2.1;obtain ⟨⟨a0,a1,a2,a3⟩,y0,y1,y2,y3⟩:=dD hD.1;clear hD i2;go_wp2
     exact bR (v:=.agg #[iI n,iI I,iI B,.slice A k cap]) (Ls rfl HD.u.1 (iI n) (iI I) (iI B) (.slice A k cap) _ rfl) rfl (HD.u.ajf df aa aa)
theorem Jb (g bf:Nat) (hm:bf<=200) (w:World) (h:dY w g):
  Calls prog 61 #[.pointer (some ⟨g,0,none⟩),iI bf] w (sY w g bf):=(vw g bf hm w h).mono fun _ _ h=>h.loose
def Di (w:World) (s:Nat):Nat:=match w.cell? (aA s 3) with|some (.slice _ n _)=>n|_=>0
theorem Dj {w:World} {s t:Nat} {a b c:Value} {A:OA} {n cap:Nat} (h:ay w s t #[a,b,c,.slice A n cap]):Di w s=n:=by
 have:w.cell? (aA s 3)=some (.slice A n cap):=h.cell 3;unfold Di;rw [this]
def tZ (w0:World) (g bf:Nat) (e:Ending) (w':World):Prop:=
 ∃(N I B:Int) (A:OA) (len cap:Nat) (xs:List Oq),e=.returned (.agg #[iI N,iI I,iI B,.slice A len cap])/\(-1<=N/\N<=5/\ -1<=I/\I<=6/\ -1<=B/\B<=4)/\(len<=bf+121/\np xs<=bf+1)/\w'.ownsRow w0.heap.size 56 8 (.slice A len cap) len (aI xs)/\dY w' g/\w0.grownBy w' (some g)
theorem tZ.loose {w0 w':World} {g bf:Nat} {e:Ending} (h:tZ w0 g bf e w'):sY w0 g (bf+121) e w':=by
 obtain ⟨N,I,B,A,len,cap,xs,e1,hN,hl,r⟩:=h
 exact ⟨N,I,B,A,len,cap,xs,e1,hN,hl.1,r⟩
theorem DR.Dk {w w0:World} {g s:Nat} {N I B:Int} {A:OA} {len cap:Nat} {xs:List Oq} {bf:Nat} (h:DR w0 w g s N I B A len cap xs) (hl:g<w0.heap.size) (hN: -1<=N/\N<=5/\ -1<=I/\I<=6/\ -1<=B/\B<=4) (hm:len<=bf+121) (hp:np xs<=bf+1):
  tZ w0 g bf (.returned (.agg #[iI N,iI I,iI B,.slice A len cap])) ((((w.setCell (aA w0.heap.size 0) (iI N)).setCell (aA w0.heap.size 1) (iI I)).setCell (aA w0.heap.size 2) (iI B)).setCell (aA w0.heap.size 3) (.slice A len cap)):=
 ⟨N,I,B,A,len,cap,xs,rfl,hN,⟨hm,hp⟩,aC (bk (bk (bk (bk h.2.2.1 (p:=(aA w0.heap.size 0)) ag _) (p:=(aA w0.heap.size 1)) ag _) (p:=(aA w0.heap.size 2)) ag _) (p:=(aA w0.heap.size 3)) ag _) aa,dY.vR h.2.2.2.2.1 hl _ _ _ _,od h.2.2.2.2.2 (lI _) _ _ _ _⟩
theorem Dl {P:Prop} (h:P:=by
 have HD:=hY HA.u.2;generalize w9.setCell (aA s 3) (.slice A9 (len+1) c9)=W6 at*
 obtain ⟨⟨b0,b1,b2,b3⟩,z0,z1,z2,z3⟩:=dD HD.u.2.1;obtain ⟨⟨a0,a1,a2,a3⟩,y0,y1,y2,y3⟩:=dD HD.u.1;go_wp2
 exact bR (v:=.agg #[iI N,iI I,iI B,.slice A9 (len+1) c9]) (Ls rfl HD.u.1 (iI N) (iI I) (iI B) (.slice A9 (len+1) c9) _ rfl) rfl (HD.u.Dk df aa aa (by have:=hNP.u;exact lK (ZU _ _) aa))):P:=h
theorem yd (g bf:Nat) (hm:bf<=200) (w:World) (h:dY w g):
  Calls prog 41 #[.pointer (some ⟨g,0,none⟩),iI bf] w (tZ w g bf):=by
 have df:=h.lt;go_enter func41,ntmps41;go_wp2_with fail;refine (Jb g bf hm _ (h.alloc _)).mono ?_;rintro e w3 ⟨N,I,B,A,len,cap,xs,rfl,hN,hlen,jm,Fw,FQ⟩;obtain ⟨hN0,Zy,hI0,hI1,eY,qp⟩:=hN;have xR:=(ay.new w 26 #[iI 0,iI 0,iI 0,nS]).grown FQ (fun k hk=>aw);have Gy:=xR.lt;have Bl:w.grownBy w3 (some g):=bY (((xZ w).alloc _).gr _) FQ;have hD:DR w (w3.alloc (cO #[iI N,iI I,iI B,.slice A len cap] 26)) g w3.heap.size N I B A len cap xs:=
  ⟨xR.alloc _,ay.new _ _ _,aq (aC jm ag) ((xZ w3).alloc _),IU (aC jm ag) (lI _),Fw.alloc _,gZ Bl _⟩
 have hNP:Hid (np xs<=bf):=by
  have h8:=(Rd.own jm).len Oq.aE aa;have h9:=PV xs;unfold Hid;omega
 clear xR FQ Bl jm;go_wp2_with fail;refine (aU g 14 _ (Fw.alloc _) aa).mono ?_;rintro e w4 ⟨x,rfl,⟨cH,aS,_⟩,sj,xn⟩;have bH:=aS aa;clear aS;have fi:=Fw.lt;have Jc:=hD.grown xn sj fi df;clear hD xn Fw;generalize w3.heap.size=s at*
 have um:w.heap.size<s:=aa
 have hl4:=Jc.lt;have td:=hY Jc;obtain ⟨⟨c0,c1,c2,c3⟩,x0,x1,x2,x3⟩:=dD Jc.2.1;clear Jc
 by_cases e0:x=0
 ·subst e0;go_wp2_with fail;refine (dW g _ 4 _ [0,1,4,5] _ (sj.alloc _) (fN w4 _ _ _ 4 1 _ rfl rfl rfl) iT aa).mono ?_;rintro e w5 ⟨z,rfl,hz,jV,gx⟩;have jK:0<=z/\z<=5:=fl
  have Bu:=(td.u.alloc _).grown gx jV fi df;clear hz c0 c1 c2 c3 x0 x1 x2 x3;have HD:=hY (Bu.VD (j:=0) (N':=z) (I':=I) (B':=B) (iI z) rfl um df);obtain ⟨⟨c0,c1,c2,c3⟩,x0,x1,x2,x3⟩:=dD Bu.2.1;have TN:=Bu.lt;clear Bu;go_upto_region 17 with fail;clear c0 c1 c2 c3 x0 x1 x2 x3;generalize w5.setCell (aA s 0) (iI z)=W6 at*
  obtain ⟨⟨b0,b1,b2,b3⟩,z0,z1,z2,z3⟩:=dD HD.u.2.1;obtain ⟨⟨a0,a1,a2,a3⟩,y0,y1,y2,y3⟩:=dD HD.u.1;go_wp2
  exact bR (v:=.agg #[iI z,iI I,iI B,.slice A len cap]) (Ls rfl HD.u.1 (iI z) (iI I) (iI B) (.slice A len cap) _ rfl) rfl (HD.u.Dk df aa aa (oM hNP.u))
 by_cases e1:x=1
 ·subst e1;go_wp2_with fail;refine (dW g _ 3 _ [0,1,N+1] _ (sj.alloc _) (fN w4 _ _ _ 3 1 _ rfl rfl rfl) iT aa).mono ?_;rintro e w5 ⟨z,rfl,hz,jV,gx⟩;have jK: -1<=z/\z<=6:=fl
  have Bu:=(td.u.alloc _).grown gx jV fi df;clear hz c0 c1 c2 c3 x0 x1 x2 x3;have HD:=hY (Bu.VD (j:=1) (N':=N) (I':=z) (B':=B) (iI z) rfl um df);obtain ⟨⟨c0,c1,c2,c3⟩,x0,x1,x2,x3⟩:=dD Bu.2.1;have TN:=Bu.lt;clear Bu;go_upto_region 17 with fail;clear c0 c1 c2 c3 x0 x1 x2 x3;generalize w5.setCell (aA s 1) (iI z)=W6 at*
  obtain ⟨⟨b0,b1,b2,b3⟩,z0,z1,z2,z3⟩:=dD HD.u.2.1;obtain ⟨⟨a0,a1,a2,a3⟩,y0,y1,y2,y3⟩:=dD HD.u.1;go_wp2
  exact bR (v:=.agg #[iI N,iI z,iI B,.slice A len cap]) (Ls rfl HD.u.1 (iI N) (iI z) (iI B) (.slice A len cap) _ rfl) rfl (HD.u.Dk df aa aa (oM hNP.u))
 by_cases e2:x=2
 ·subst e2;go_wp2_with fail;refine (dW g _ 4 _ [-1,0,3,4] _ (sj.alloc _) (fN w4 _ _ _ 4 1 _ rfl rfl rfl) iT aa).mono ?_;rintro e w5 ⟨z,rfl,hz,jV,gx⟩;have jK: -1<=z/\z<=4:=fl
  have Bu:=(td.u.alloc _).grown gx jV fi df;clear hz c0 c1 c2 c3 x0 x1 x2 x3;have HD:=hY (Bu.VD (j:=2) (N':=N) (I':=I) (B':=z) (iI z) rfl um df);obtain ⟨⟨c0,c1,c2,c3⟩,x0,x1,x2,x3⟩:=dD Bu.2.1;have TN:=Bu.lt;clear Bu;go_upto_region 17 with fail;clear c0 c1 c2 c3 x0 x1 x2 x3;generalize w5.setCell (aA s 2) (iI z)=W6 at*
  obtain ⟨⟨b0,b1,b2,b3⟩,z0,z1,z2,z3⟩:=dD HD.u.2.1;obtain ⟨⟨a0,a1,a2,a3⟩,y0,y1,y2,y3⟩:=dD HD.u.1;go_wp2
  exact bR (v:=.agg #[iI N,iI I,iI z,.slice A len cap]) (Ls rfl HD.u.1 (iI N) (iI I) (iI z) (.slice A len cap) _ rfl) rfl (HD.u.Dk df aa aa (oM hNP.u))
 have hCd:=sj.ext (xZ w4).drew;have aaR:True:=trivial;have Vj:True:=trivial;have aji:True:=trivial;have ajj:True:=trivial
 by_cases e3:x=3
 ·subst e3;go_wp2
  go_region_law (first
   |(go_simp;go_at_call 27;have _t:=aaR;clear aaR _t;(with_reducible refine (aU g 6 _ hCd aa).mono ?_);rintro e w5 ⟨z5,rfl,⟨NX,bK,_⟩,jV,gx⟩;clear bK;have gv:=hY (td.u.drew.grown gx jV fi df);have TN:=gv.u.lt;have aeE:w5.cell? (aA s 0)=some (iI N):=gv.u.2.1.cell 0;have aeF:w5.cell? (aA s 3)=some (.slice A len cap):=gv.u.2.1.cell 3)
   |(go_simp;go_at_call 27;have _t:=Vj;clear Vj _t;(with_reducible refine (aU g 4 _ jV aa).mono ?_);rintro e w6 ⟨z6,rfl,⟨hz6,ig,_⟩,xp,ln⟩;clear ig;have vy:=hY (gv.u.grown ln xp fi df);have hl6:=vy.u.lt;have aof:w6.cell? (aA s 0)=some (iI N):=vy.u.2.1.cell 0;have aog:w6.cell? (aA s 3)=some (.slice A len cap):=vy.u.2.1.cell 3)
   |(go_simp;go_at_call 27;have _t:=aji;clear aji _t;(with_reducible refine (aU g 3 _ xp aa).mono ?_);rintro e w7 ⟨z7,rfl,⟨hz7,hy7,_⟩,hC7,hG7⟩;clear hy7;have VF:=hY (vy.u.grown hG7 hC7 fi df);have hl7:=VF.u.lt;have aoh:w7.cell? (aA s 0)=some (iI N):=VF.u.2.1.cell 0;have aoi:w7.cell? (aA s 3)=some (.slice A len cap):=VF.u.2.1.cell 3)
   |(go_simp;go_at_call 27;have _t:=ajj;clear ajj _t;(with_reducible refine (aU g 3 _ hC7 aa).mono ?_);rintro e w8 ⟨z8,rfl,⟨hz8,hy8,_⟩,hC8,hG8⟩;clear hy8;have RX:=hY (VF.u.grown hG8 hC8 fi df);have hl8:=RX.u.lt;have aoj:w8.cell? (aA s 0)=some (iI N):=RX.u.2.1.cell 0;have aok:w8.cell? (aA s 3)=some (.slice A len cap):=RX.u.2.1.cell 3)
   |(refine Ja (B:=w.heap.size+1) ah _ _ ah _ len xs ah RX.u.2.2.1 aa ⟨_,⟨0,0,0,0⟩,z6,z7,z8⟩ _ _ ah ah aa ?_;intro A9 c9 w9 AZ hg9 hb9;have HA:=hY (RX.u.app um df AZ hg9 hb9);have k6:w9.cell? (aA s 3)=some (.slice A len cap):=HA.u.1.cell 3;have f6:w9.frozen? (aA s 3)=false:=HA.u.1.frozen 3))
  all_goals
   clear k6 f6 aeE aeF aof aog aoh aoi aoj aok c0 c1 c2 c3 x0 x1 x2 x3
   exact Dl
 by_cases e4:x=4
 ·subst e4;go_wp2
  go_region_law (first
   |(go_simp;go_at_call 27;have _t:=aaR;clear aaR _t;(with_reducible refine (aU g N _ hCd aa).mono ?_);rintro e w5 ⟨z5,rfl,⟨NX,bK,_⟩,jV,gx⟩;clear bK;have gv:=hY (td.u.drew.grown gx jV fi df);have TN:=gv.u.lt;have aeE:w5.cell? (aA s 0)=some (iI N):=gv.u.2.1.cell 0;have aeF:w5.cell? (aA s 3)=some (.slice A len cap):=gv.u.2.1.cell 3)
   |(refine Ja (B:=w.heap.size+1) ah _ _ ah _ len xs ah gv.u.2.2.1 aa ⟨3,⟨0,0,0,0⟩,z5,0,0⟩ _ _ ah ah aa ?_;intro A9 c9 w9 AZ hg9 hb9;have HA:=hY (gv.u.app um df AZ hg9 hb9);have k6:w9.cell? (aA s 3)=some (.slice A len cap):=HA.u.1.cell 3;have f6:w9.frozen? (aA s 3)=false:=HA.u.1.frozen 3))
  all_goals
   clear k6 f6 aeE aeF c0 c1 c2 c3 x0 x1 x2 x3
   exact Dl
 by_cases e5:x=5
 ·subst e5;go_wp2_with fail;refine (fO g _ _ sj aa).mono ?_;rintro e w5 ⟨bb,rfl,jV,gx⟩;have Bu:=td.u.grown gx jV fi df;clear gx c0 c1 c2 c3 x0 x1 x2 x3 hCd td sj
  cases bb
  ·have HD:=hY Bu;clear Bu;obtain ⟨⟨b0,b1,b2,b3⟩,z0,z1,z2,z3⟩:=dD HD.u.2.1;obtain ⟨⟨a0,a1,a2,a3⟩,y0,y1,y2,y3⟩:=dD HD.u.1;go_wp2
   exact bR (v:=.agg #[iI N,iI I,iI B,.slice A len cap]) (Ls rfl HD.u.1 (iI N) (iI I) (iI B) (.slice A len cap) _ rfl) rfl (HD.u.Dk df aa aa (oM hNP.u))
  ·go_wp2
   go_loopw [] (fun wr=>∃(A:OA) (l cap:Nat) (xs:List Oq),l<=bf+121/\Hid (np xs<=bf)/\DR w wr g s N I B A l cap xs) (fun wr=>122 - Di wr s)
   case atStart=>exact ⟨A,len,cap,xs,aa,hNP,Bu⟩
   case round=>
    clear Bu jV;obtain ⟨A,l,cap,xs,hl,hNL,hD⟩:=hrel;have HD:=hY hD;obtain ⟨⟨b0,b1,b2,b3⟩,z0,z1,z2,z3⟩:=dD hD.2.1;have hCd:=hD.cur.ext (xZ wr).drew;have hlr:=hD.lt;clear hD;go_wp2
    go_region_law (first
     |(go_simp;go_at_call 27;(with_reducible refine (aU g 3 _ hCd aa).mono ?_);rintro e w6 ⟨z,rfl,⟨eX,gX,_⟩,xp,ln⟩;have vy:=hY (HD.u.drew.grown ln xp fi df);have k3:w6.cell? (aA s 3)=some (.slice A l cap):=vy.u.2.1.cell 3;have jK:z<3:=gX aa;clear gX))
    all_goals
     clear k3 b0 b1 b2 b3 z0 z1 z2 z3;obtain ⟨⟨b0,b1,b2,b3⟩,z0,z1,z2,z3⟩:=dD vy.u.2.1;have hl6:=vy.u.lt;rw [show IntKind.i64.wrap (119+z)=119+z from lH _ aa]
     by_cases bh:(l:Int)<119+z
     ·go_wp2_with (at_builtin;refine VB (B:=w.heap.size+1) rfl _ _ rfl _ l xs rfl vy.u.2.2.1 aa ⟨1,⟨1,0,0,0⟩,0,0,0⟩ _ _ rfl rfl aa ?_;intro A7 c7 w7 Ai hg7 GM;have HA:=hY (vy.u.app um df Ai hg7 GM);have k6:w7.cell? (aA s 3)=some (.slice A l cap):=HA.u.1.cell 3;have f6:w7.frozen? (aA s 3)=false:=HA.u.1.frozen 3)
      have HM:Hid (122 - Di (w7.setCell (aA s 3) (.slice A7 (l+1) c7)) s<122 - Di wr s):=by
       unfold Hid;rw [Dj HA.u.2.2.1,Dj HD.u.2.1];omega
      clear k6 f6 b0 b1 b2 b3 z0 z1 z2 z3;go_roundw
      case rel=>exact ⟨A7,l+1,c7,_,aa,by unfold Hid;rw [anB _ ah];exact hNL.u,HA.u.2⟩
      case measure=>exact HM.u
     ·clear b0 b1 b2 b3 z0 z1 z2 z3;obtain ⟨⟨b0,b1,b2,b3⟩,z0,z1,z2,z3⟩:=dD vy.u.2.1;obtain ⟨⟨a0,a1,a2,a3⟩,y0,y1,y2,y3⟩:=dD vy.u.1;go_wp2
      exact bR (v:=.agg #[iI N,iI I,iI B,.slice A l cap]) (Ls rfl vy.u.1 (iI N) (iI I) (iI B) (.slice A l cap) _ rfl) rfl (vy.u.Dk df aa aa (oM hNL.u))
 ·clear c0 c1 c2 c3 x0 x1 x2 x3;obtain ⟨⟨b0,b1,b2,b3⟩,z0,z1,z2,z3⟩:=dD td.u.2.1;obtain ⟨⟨a0,a1,a2,a3⟩,y0,y1,y2,y3⟩:=dD td.u.1;go_wp2
  exact bR (v:=.agg #[iI N,iI I,iI B,.slice A len cap]) (Ls rfl td.u.1 (iI N) (iI I) (iI B) (.slice A len cap) _ rfl) rfl (td.u.Dk df aa aa (oM hNP.u))
theorem acY (g bf:Nat) (hm:bf<=200) (w:World) (h:dY w g):
  Calls prog 41 #[.pointer (some ⟨g,0,none⟩),iI bf] w (sY w g (bf+121)):=(yd g bf hm w h).mono fun _ _ h=>h.loose
end Go.Proofs.YtiajdbllccmokaaGreatDoor
