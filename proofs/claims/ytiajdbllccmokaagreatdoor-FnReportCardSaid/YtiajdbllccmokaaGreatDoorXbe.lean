import Derived.Test.YtiajdbllccmokaaGreatDoorXz
namespace Go.Proofs.YtiajdbllccmokaaGreatDoor
open Go.ChangeShapes Go.WideShapes Go.ChangeAt Go.RowKit Go.Deep Go.Proofs.Tryz
set_option linter.unusedVariables false
set_option linter.unusedSimpArgs false
set_option maxRecDepth 100000
set_option maxHeartbeats 16000000
theorem EH:(prog.info? 37).map (fun i=>(i.zero,i.size,i.bytes))=some (some (nS),1,24):=af
def Rows (w0 W:World) (B:Nat) (vs:List Value) (xss:List (List Gt)):Prop:=vs.length=xss.length/\∀(j:Nat) (xs:List Gt),xss[j]?=some xs->∃(A:OA) (c:Nat),vs[j]?=some (Value.slice A xs.length c)/\W.ownsRow w0.heap.size 54 4 (.slice A xs.length c) xs.length (ak xs)/\∀g,(Value.slice A xs.length c).ownBlock=some g->g<B
section
variable {w0 W W':World} {B B':Nat} {vs:List Value} {xss:List (List Gt)}
theorem Rows.nil:Rows w0 W B [] []:=⟨rfl,fun j xs h=>dV⟩
theorem Rows.ext (h:Rows w0 W B vs xss) (hx:Ext W W'):Rows w0 W' B vs xss:=⟨h.1,fun j xs hj=>by
 obtain ⟨A,c,h1,h2,h3⟩:=h.2 j xs hj
 exact ⟨A,c,h1,aq h2 hx,h3⟩⟩
theorem Rows.more (h:Rows w0 W B vs xss) (hB:B<=B'):Rows w0 W B' vs xss:=⟨h.1,fun j xs hj=>by
 obtain ⟨A,c,h1,h2,h3⟩:=h.2 j xs hj
 exact ⟨A,c,h1,h2,fun g hg=>sC (h3 g hg) hB⟩⟩
theorem Rows.base {w1:World} (h:Rows w0 W B vs xss) (hw:w1.heap.size<=w0.heap.size):Rows w1 W B vs xss:=⟨h.1,fun j xs hj=>by
 obtain ⟨A,c,h1,h2,h3⟩:=h.2 j xs hj
 exact ⟨A,c,h1,aC h2 hw,h3⟩⟩
theorem Rows.grown (h:Rows w0 W B vs xss) {B1 e s n:Nat} {v:Value} {ys:List Value} (ho:W.ownsRow B1 e s v n ys) (he:e≠54) (hg:W.grownBy W' v.ownBlock):Rows w0 W' B vs xss:=⟨h.1,fun j xs hj=>by
 obtain ⟨A,c,h1,h2,h3⟩:=h.2 j xs hj
 exact ⟨A,c,h1,h2.kept hg (cX h2 ho (sK he)),h3⟩⟩
theorem Rows.above (h:Rows w0 W B vs xss) {row:Option Nat} (hg:W.grownBy W' row) (hr:∀g,row=some g->B<=g):Rows w0 W' B vs xss:=⟨h.1,fun j xs hj=>by
 obtain ⟨A,c,h1,h2,h3⟩:=h.2 j xs hj;refine ⟨A,c,h1,h2.kept hg ?_,h3⟩
 cases hv:(Value.slice A xs.length c).ownBlock with
 |none=>exact .inl rfl
 |some k=>
  right;intro e;have:=h3 k hv;have:=hr k e.symm
  omega⟩
theorem Rows.snoc (h:Rows w0 W B vs xss) {A:OA} {c:Nat} {xs:List Gt} (h2:W.ownsRow w0.heap.size 54 4 (.slice A xs.length c) xs.length (ak xs)) (h3:∀g,(Value.slice A xs.length c).ownBlock=some g->g<B):Rows w0 W B (vs++[.slice A xs.length c]) (xss++[xs]):=by
 refine ⟨by rw [lA,lA,h.1];rfl,fun j ys hj=>?_⟩
 by_cases KD:j<xss.length
 ·rw [sB KD] at hj;obtain ⟨A',c',e1,e2,e3⟩:=h.2 j ys hj
  exact ⟨A',c',uL,e2,e3⟩
 ·rw [yL aa] at hj;have FY:j - xss.length=0:=by
   have:=(gU.1 hj).1;simp at this;omega
  rw [FY] at hj;simp at hj;subst hj;refine ⟨A,c,?_,h2,h3⟩;rw [yL (by rw [h.1];omega),h.1,FY];rfl
theorem Rows.at_ (h:Rows w0 W B vs xss) {j:Nat} {xs:List Gt} (hj:xss[j]?=some xs):∃(A:OA) (c:Nat),vs[j]?=some (Value.slice A xs.length c)/\xs.length<=c/\Rd W W.heap.size 4 A xs.length (ak xs):=by
 obtain ⟨A,c,h1,h2,-⟩:=h.2 j xs hj;refine ⟨A,c,h1,?_,Rd.own h2⟩;rcases h2.2 with ⟨h0,h5⟩|⟨g,cap,cur,hv,_,_,KG,_⟩
 ·omega
 ·injection hv with _ _ h6;omega
end
theorem wS {w:World} {B e n c:Nat} {A:OA} {vs:List Value} (h:w.ownsRow B e 1 (.slice A n c) n vs) {j:Nat} (hj:j<n):∃g u,A=some ⟨g,0,none⟩/\B<=g/\vs[j]?=some u/\w.cell? (aA g j)=some u/\∀i,w.frozen? (aA g i)=false:=by
 have hl:=h.1;rcases h.2 with ⟨h0,h1⟩|⟨g,cap,cur,hv,hB,hc,-,-,hs,hx⟩
 ·omega
 ·injection hv with hv;subst hv;have hjv:j<vs.length:=aa
  have e1:vs[j]?=some (vs[j]'hjv):=lB hjv;refine ⟨g,vs[j]'hjv,rfl,hB,e1,?_,fun i=>yS w g i cur e hc⟩;rw [sJ w g j cur e (0,0) hc,<-e1,<-hx,zK aa];simp
theorem Hv (A:OA) (n c:Nat):(Value.slice A n c).oneCell'=true:=rfl
theorem JL {w0 w:World} {ops:Array Oper} {rest:List Oper} {o:Oper} {a:Act} {Q:Exit->Act->World->Prop} (fx:o.guard=none) (s x:Operand)
  (ho:aO o s x 129) (v:Value) (n:Nat) (xs:List Value) (hs:a.eval s=v)
  (bc:w.ownsRow w0.heap.size 37 1 v n xs) (cH:Ext w0 w) (u:Value) (hu:u.oneCell'=true) (b:Nat) (hx:a.eval x=.slice (some ⟨b,0,none⟩) 1 1) (hr:Rd w w.heap.size 1 (some ⟨b,0,none⟩) 1 [u]) (hn:n+1<=2000000000000)
  (h:aH w0 w v 37 1 (n+1) (xs++[u]) (wpList prog ops Q rest) a o):wpList prog ops Q (o::rest) a w:=by
 obtain ⟨i0,hi,eX,gX,jK⟩:=iF EH
 exact eL fx s x _ ho 37 i0 _ 1 24 underlying129 hi eX gX jK rfl ae ae v n _ hs bc cH _ 1 1 _ hx hr uM hn h
theorem XM {w0 w:World} {ops:Array Oper} {o:Oper} {a:Act} {K:Act->World->Prop} {Q:Exit->Act->World->Prop} {E:Prop} (fx:o.guard=none) (s x:Operand)
  (ho:aO o s x 129) (v:Value) (n:Nat) (xs:List Value) (hs:a.eval s=v)
  (bc:w.ownsRow w0.heap.size 37 1 v n xs) (cH:Ext w0 w) (u:Value) (hu:u.oneCell'=true) (b:Nat) (hx:a.eval x=.slice (some ⟨b,0,none⟩) 1 1) (hr:Rd w w.heap.size 1 (some ⟨b,0,none⟩) 1 [u]) (hn:n+1<=2000000000000)
  (h:aH w0 w v 37 1 (n+1) (xs++[u]) K a o):if Region.wanted o (yielded ops a.tmps)=true then Oper.wp prog o a w K Q else E:=by
 obtain ⟨i0,hi,eX,gX,jK⟩:=iF EH
 exact kT fx s x _ ho 37 i0 _ 1 24 underlying129 hi eX gX jK rfl ae ae v n _ hs bc cH _ 1 1 _ hx hr uM hn h
def prv (xs:List Gt):Nat->Bool
 |0=>false
 |k+1=>Lm xs k
theorem EJ (xs:List Gt):∀k:Nat,(cW xs k).length<=k
 |0=>lI _
 |k+1=>by
  have ih:=EJ xs k;unfold cW;split
  ·omega
  ·split
   ·simp only [lA,List.length_dropLast,ij,uI];omega
   ·simp only [lA,ij,uI];omega
theorem JM {xs:List Gt} {k:Nat} {g:Gt} (h:xs[k]?=some g):opn xs k=(prv xs k && nr g):=by
 cases k with
 |zero=>rfl
 |succ k=>
  show (Lm xs (k+1) && Lm xs k)=(Lm xs k && nr g);rw [Qk h,Bool.and_comm]
theorem abJ {xs:List Gt} {k:Nat} (h:prv xs k=true):0<k:=by
 cases k with
 |zero=>cases h
 |succ k=>exact Nat.succ_pos k
theorem Pd {xs:List Gt} {k:Nat} {init:List (List Gt)} {last:List Gt} (h:cW xs k=init++[last]) (hk:k<=xs.length):last.length<=k:=by
 have h1:=vV xs k hk;rw [h,BV] at h1;have h2:=sI List.length h1;simp only [lA,PK,List.flatten_nil,qZ,lT] at h2;omega
structure nI (w0 W:World) (Ao:OA) (L co:Nat) (vs:List Value) (xss:List (List Gt)):Prop where
 o:W.ownsRow w0.heap.size 37 1 (.slice Ao L co) L vs
 l:xss.length=L
 r:(L=0/\vs=[])\/∃(B:Nat) (vi:List Value) (init:List (List Gt)) (A:OA) (c:Nat) (last:List Gt),vs=vi++[.slice A last.length c]/\xss=init++[last]/\Rows w0 W B vi init/\W.ownsRow B 54 4 (.slice A last.length c) last.length (ak last)/\w0.heap.size<=B/\B<=W.heap.size
 x:Ext w0 W
section
variable {w0 W W':World} {Ao Ao' A:OA} {L co co' c:Nat} {vs:List Value} {xss:List (List Gt)} {xs:List Gt}
theorem nI.ext (h:nI w0 W Ao L co vs xss) (hx:Ext W W'):nI w0 W' Ao L co vs xss:=by
 refine ⟨aq h.o hx,h.l,?_,h.x.trans hx⟩;rcases h.r with h0|⟨B,vi,init,A,c,last,h1,h2,h3,h4,h5⟩
 ·exact .inl h0
 ·exact .inr ⟨B,vi,init,A,c,last,h1,h2,h3.ext hx,aq h4 hx,h5.1,lK h5.2 hx.size⟩
theorem nI.rows (h:nI w0 W Ao L co vs xss):Rows w0 W W.heap.size vs xss:=by
 rcases h.r with ⟨h0,h1⟩|⟨B,vi,init,A,c,last,h1,h2,h3,h4,h5⟩
 ·have:xss=[]:=xu (by rw [h.l];exact h0);rw [h1,this]
  exact Rows.nil
 ·rw [h1,h2]
  exact (h3.more h5.2).snoc (aC h4 h5.1) (fun g hg=>(h4.lt g hg).2)
theorem nI.new (h:nI w0 W Ao L co vs xss) (g:Gt) {W':World} (ho:W'.ownsRow w0.heap.size 37 1 (.slice Ao' (L+1) co') (L+1) (vs++[.slice (some ⟨W.heap.size,0,none⟩) 1 1]))
  (hg:((W.alloc (.cells #[iI g.k,iI g.a,iI g.b,iI g.c] 54)).alloc (.cells #[.slice (some ⟨W.heap.size,0,none⟩) 1 1] 37)).grownBy W' (Value.slice Ao L co).ownBlock) (hx:Ext w0 W'):
  nI w0 W' Ao' (L+1) co' (vs++[.slice (some ⟨W.heap.size,0,none⟩) 1 1]) (xss++[[g]]):=by
 have iY:Ext W ((W.alloc (.cells #[iI g.k,iI g.a,iI g.b,iI g.c] 54)).alloc (.cells #[.slice (some ⟨W.heap.size,0,none⟩) 1 1] 37)):=((xZ W).alloc _).alloc _;have Tc:=aq h.o iY;refine ⟨ho,by rw [lA,h.l];rfl,.inr ⟨W.heap.size,vs,xss,some ⟨W.heap.size,0,none⟩,1,[g],rfl,rfl,(h.rows.ext iY).grown Tc ae hg,?_,h.x.size,lK iY.size hg.size⟩,hx⟩;have hl:=bL (xZ W) W.heap.size 54 4 1 #[iI g.k,iI g.a,iI g.b,iI g.c] (ak [g]) rfl dT rfl aa
 exact ((hl.alloc (.cells #[.slice (some ⟨W.heap.size,0,none⟩) 1 1] 37)).kept hg (cX (hl.alloc _) Tc ae))
theorem nI.grow {B:Nat} {vi:List Value} {init:List (List Gt)} {last:List Gt} {A':OA} {c' go:Nat} {g:Gt} (ho:W.ownsRow w0.heap.size 37 1 (.slice (some ⟨go,0,none⟩) (vi.length+1) co) (vi.length+1) (vi++[.slice A last.length c]))
  (hr:Rows w0 W B vi init) (hl:W.ownsRow B 54 4 (.slice A last.length c) last.length (ak last)) (hB:w0.heap.size<=B) (rh:B<=W.heap.size) (hx:Ext w0 W)
  (h1:W'.ownsRow B 54 4 (.slice A' (last.length+1) c') (last.length+1) (ak (last++[g]))) (hg:W.grownBy W' (Value.slice A last.length c).ownBlock):
  nI w0 (W'.setCell (aA go vi.length) (.slice A' (last.length+1) c')) (some ⟨go,0,none⟩) (vi.length+1) co (vi++[.slice A' (last.length+1) c']) (init++[last++[g]]):=by
 have eF:=ho.kept hg (cX ho hl ae);have pD:=hr.above hg (fun k hk=>(hl.lt k hk).1);have aS:Ext w0 W':=hx.grown hg (fun k hk=>lK hB (hl.lt k hk).1);obtain ⟨ep,jL⟩:=eF.stored vi.length (.slice A' (last.length+1) c');have e1:(vi++[Value.slice A last.length c]).set vi.length (.slice A' (last.length+1) c')=vi++[.slice A' (last.length+1) c']:=ag
 rw [e1] at ep;have hgo:=(ho.lt go rfl).1;refine ⟨ep,by rw [lA,<-hr.1];rfl,.inr ⟨B,vi,init,A',c',last++[g],by rw [lA];rfl,rfl,pD.grown eF ae jL,?_,hB,lK rh (lK hg.size jL.size)⟩,aS.setCell (p:=(aA go vi.length)) hgo _⟩;have h2:=h1.kept jL (cX h1 eF ae);rw [lA]
 exact h2
theorem Td {w:World} {B:Nat} {ops:Array Oper} {o:Oper} {a:Act} {K:Act->World->Prop} {Q:Exit->Act->World->Prop} {E:Prop} (fx:o.guard=none) (s x:Operand)
  (ho:aO o s x 37) (v:Value) (n:Nat) (xs:List Gt) (hs:a.eval s=v)
  (bc:w.ownsRow B 54 4 v n (ak xs)) (hB:B<=w.heap.size) (A:OA) (m c:Nat) (ys:List Gt) (hx:a.eval x=.slice A m c) (hr:Rd w w.heap.size 4 A m (ak ys)) (hn:n+m<=2000000000000)
  (h:∀A' c' w',w'.ownsRow B 54 4 (.slice A' (n+m) c') (n+m) (ak (xs++ys))->w.grownBy w' v.ownBlock->((Value.slice A' (n+m) c').ownBlock=v.ownBlock\/(Value.slice A' (n+m) c').ownBlock=some w.heap.size)->K (a.put o.dst (.slice A' (n+m) c')) w'):
  if Region.wanted o (yielded ops a.tmps)=true then Oper.wp prog o a w K Q else E:=by
 have mH:=pI hB;refine eE (w0:={w with heap:=w.heap.extract 0 B}) fx s x ho v n xs hs (by rw [mH];exact bc) (Du hB) A m c ys hx hr hn ?_;intro v' w' h1 h2 h3 h4;rw [mH] at h1;obtain ⟨A',c',rfl,_⟩:=au h1
 exact h A' c' w' h1 h3 h4
end
theorem EK {P:Prop} (h:P:=by
 refine o1 12 fun K hK=>?_
 have MS:Ext W7 ((W7.alloc (.cells #[iI x.k,iI x.a,iI x.b,iI x.c] 54)).drew):=((xZ W7).alloc _).drew;have abK:=hY (aq XL.u.2.1 MS);have abL:=hY (aq fF.u MS);refine Td ah _ _ ah _ _ last ah abK.u (oN XL.u.2.2.2 MS.size) _ 1 1 [x] ah ((fN W7 _ _ 54 1 4 _ ah dT dT).ext (xZ _).drew) aa ?_;intro A2 c2 w12 t1 t2 t3;have akH:Hid ((fun w'=>w'.cell? (aA wr.z 0)=some (iI x.k)/\w'.cell? (aA wr.z 1)=some (iI x.a)/\w'.cell? (aA wr.z 2)=some (iI x.b)/\w'.cell? (aA wr.z 3)=some (iI x.c)) w12):=(aB (((Ge.u.ext MS)).grown t2 (fun g hg=>oM (HLB.u g hg)))).1;have XN:=hY (abL.u.kept t2 (cX abL.u abK.u ae));obtain ⟨go2,u2,MY,-,-,apw,akI⟩:=wS XN.u (j:=m) aa;injection MY with MY;injection MY with MY;subst MY;have apx:=akI m;have Ky:Hid (nI w (w12.setCell (aA go m) (.slice A2 (last.length+1) c2)) (some ⟨go,0,none⟩) (m+1) co (vi++[.slice A2 (last.length+1) c2]) (init++[last++[x]])):=by
  have hO:=abL.u;rw [HME.u] at hO |-
  exact nI.grow hO (XL.u.1.ext MS) abK.u XL.u.2.2.1 (lK XL.u.2.2.2 MS.size) (eQ.u.trans MS) t1 t2
 have akJ:Hid ((fun w'=>w'.cell? (aA wr.z 0)=some (iI x.k)/\w'.cell? (aA wr.z 1)=some (iI x.a)/\w'.cell? (aA wr.z 2)=some (iI x.b)/\w'.cell? (aA wr.z 3)=some (iI x.c)) (w12.setCell (aA go m) (.slice A2 (last.length+1) c2))):=(aB ((((Ge.u.ext MS)).grown t2 (fun g hg=>oM (HLB.u g hg))).bX (p:=(aA go m)) (fun e=>jr fF.u Ge.u ae (by rw [show (Value.slice (some ⟨go,0,none⟩) (m+1) co).ownBlock=some go from rfl];exact sI some e.symm)) _)).1;clear t1 t2 t3 abK abL XN;refine ov hK (akH.u) fun ay4=>?_
 refine tq 13 ?_;refine o1 14 fun K hK=>?_
 go_simp;refine ov hK (akJ.u) fun ay4=>?_
 refine dn ?_;clear apw akI apx akH akJ MS XL fF eQ Ge ZI apy afM apz apA ay4 QW Zo hwm apB hfu df Ah g0 g1 g2 g3;generalize w12.setCell (aA go m) (.slice A2 (last.length+1) c2)=W14 at*
 have Hw:Hid ((cW gs (k+1)).length=m+1):=by unfold Hid;rw [HSI.u,<-hL,HXS.u];simp
 go_wp2;go_roundw
 case rel=>exact ⟨k+1,some ⟨go,0,none⟩,co,_,oM bS.u,by rw [Hw.u],by rw [yJ.u,HMV.u],by first|rfl|rw [dP.u.1]|rw [dP.u.2],by rw [Hw.u,HSI.u];exact Ky⟩
 case measure=>simp [intOf,dP.u.2];have:=bS.u;omega):P:=h
theorem qJ (A:OA) (n c:Nat) (gs:List Gt) (w:World) (h:Rd w w.heap.size 4 A n (ak gs)) (hn:n<=80000000000):
  Calls prog 105 #[.slice A n c] w fun e w'=>∃(Ao:OA) (co:Nat) (vs:List Value),e=.returned (.slice Ao (kt gs).length co)/\nI w w' Ao (kt gs).length co vs (kt gs):=by
 have dB:=hY (h.len Gt.aE aa);have HR:=hY h;clear h;have aZ:Hid (nI w (w.alloc (.cells #[] 37)) (some ⟨w.heap.size,0,none⟩) (cW gs 0).length 0 [] (cW gs 0)):=⟨aJ w w _ 1 (xZ _),rfl,.inl ⟨rfl,rfl⟩,(xZ _).alloc _⟩;go_enter func105,ntmps105;go_wp2
 go_loopw [3,4,5] (fun ov bv iv wr=>∃(k:Nat) (Ao:OA) (co:Nat) (vs:List Value),k<=n/\ov=.slice Ao (cW gs k).length co/\bv=.bool (prv gs k)/\iv=iI k/\Hid (nI w wr Ao (cW gs k).length co vs (cW gs k))) (fun _ _ i _=>n - (intOf i).toNat)
 case atStart=>exact ⟨0,_,0,[],lJ _,rfl,rfl,rfl,aZ⟩
 case round=>
  clear aZ;obtain ⟨k,Ao,co,vs,hk,rfl,rfl,rfl,aZ⟩:=hrel
  by_cases bh:k<n
  ·obtain ⟨b,o,x,rfl,-,hx,x0,x1,x2,x3⟩:=bE (HR.u.ext aZ.u.x) bh;skip;have tG:=hY hx;have bS:=hY bh;have dP:=hY (wC k aa);have hLk:=EJ gs k;have yJ:Hid (prv gs (k+1)=nr x):=Qk hx;clear hx;go_upto_region 7 with fail;have jJ:=hY (aZ.u.ext ((xZ wr).alloc (.cells #[iI x.k,iI x.a,iI x.b,iI x.c] 54)));have FD:=hY (ay.new wr 54 #[iI x.k,iI x.a,iI x.b,iI x.c]);have HXr:Hid (Ext wr (wr.alloc (.cells #[iI x.k,iI x.a,iI x.b,iI x.c] 54))):=(xZ wr).alloc _;clear x0 x1 x2 x3;generalize wr.alloc (.cells #[iI x.k,iI x.a,iI x.b,iI x.c] 54)=W6 at*
   obtain ⟨⟨g0,g1,g2,g3⟩,-⟩:=aB FD.u
   cases hp:prv gs k
   ·have Ha:Hid (cW gs (k+1)=cW gs k++[[x]]):=tW tG.u (by rw [JM tG.u,hp];rfl);clear hp;have Hw:Hid ((cW gs (k+1)).length=(cW gs k).length+1):=by unfold Hid;rw [Ha.u,lA];rfl
    go_upto_region 9 with fail;go_wp2_with (at_builtin;refine JL (w0:=w) rfl _ _ rfl _ _ _ rfl ((jJ.u.o.alloc _).alloc _) ((jJ.u.x.alloc _).alloc _) (.slice (some ⟨W6.heap.size,0,none⟩) 1 1) rfl (W6.heap.size+1) rfl (fN _ _ _ _ 1 1 _ ag rfl rfl) aa ?_;intro v9 w9 t1 t2 t3 t4;obtain ⟨A9,c9,rfl,-⟩:=au t1;have eH:=hY (jJ.u.new x t1 t3 t2);have Md:=hY (cQ ((FD.u.alloc _).alloc _) ((jJ.u.o.alloc _).alloc _) ae t3);clear t1 t2 t3 t4;obtain ⟨⟨g0,g1,g2,g3⟩,-⟩:=aB Md.u)
    refine (qu x _).mono ?_;rintro e pd ⟨rfl,wR⟩;have AH:=hY (eH.u.ext wR);clear wR eH Md g0 g1 g2 g3;go_wp2;go_roundw
    case rel=>exact ⟨k+1,A9,c9,_,oM bS.u,by rw [Hw.u],by rw [yJ.u],by first|rfl|rw [dP.u.1]|rw [dP.u.2],by rw [Hw.u,Ha.u];exact AH⟩
    case measure=>simp [intOf,dP.u.2];have:=bS.u;omega
   ·go_wp2_with fail;refine (qu x _).mono ?_;rintro e W7 ⟨rfl,gJ⟩;have eW:=hY (jJ.u.ext gJ);have HXw:=hY (HXr.u.trans gJ);have Ge:=hY (FD.u.ext gJ);clear jJ FD g0 g1 g2 g3;obtain ⟨⟨g0,g1,g2,g3⟩,-⟩:=aB Ge.u;clear gJ
    cases hm:nr x
    ·have Ha:Hid (cW gs (k+1)=cW gs k++[[x]]):=tW tG.u (by rw [JM tG.u,hp,hm];rfl);clear hp;have Hw:Hid ((cW gs (k+1)).length=(cW gs k).length+1):=by unfold Hid;rw [Ha.u,lA];rfl
     go_upto_region 9 with fail;go_wp2_with (at_builtin;refine JL (w0:=w) rfl _ _ rfl _ _ _ rfl ((eW.u.o.alloc _).alloc _) ((eW.u.x.alloc _).alloc _) (.slice (some ⟨W7.heap.size,0,none⟩) 1 1) rfl (W7.heap.size+1) rfl (fN _ _ _ _ 1 1 _ ag rfl rfl) aa ?_;intro v9 w9 t1 t2 t3 t4;obtain ⟨A9,c9,rfl,-⟩:=au t1;have eH:=hY (eW.u.new x t1 t3 t2);have Md:=hY (cQ ((Ge.u.alloc _).alloc _) ((eW.u.o.alloc _).alloc _) ae t3);clear t1 t2 t3 t4;obtain ⟨⟨g0,g1,g2,g3⟩,-⟩:=aB Md.u)
     refine (qu x _).mono ?_;rintro e pd ⟨rfl,wR⟩;have AH:=hY (eH.u.ext wR);clear wR eH Md g0 g1 g2 g3;go_wp2;go_roundw
     case rel=>exact ⟨k+1,A9,c9,_,oM bS.u,by rw [Hw.u],by rw [yJ.u,hm],by first|rfl|rw [dP.u.1]|rw [dP.u.2],by rw [Hw.u,Ha.u];exact AH⟩
     case measure=>simp [intOf,dP.u.2];have:=bS.u;omega
    ·skip;have hne:=Ln gs k (abJ hp) (oN bS.u dB.u);obtain ⟨B,vi,init,A1,c1,last,rfl,TZ,hrw,TT,hB⟩:∃(B:Nat) (vi:List Value) (init:List (List Gt)) (A:OA) (c:Nat) (last:List Gt),vs=vi++[.slice A last.length c]/\cW gs k=init++[last]/\Rows w wr B vi init/\wr.ownsRow B 54 4 (.slice A last.length c) last.length (ak last)/\w.heap.size<=B/\B<=wr.heap.size:=by
      rcases aZ.u.r with h0|h0
      ·exact absurd (xu h0.1) hne
      ·exact h0
     have hL:(cW gs k).length=vi.length+1:=by rw [TZ,lA,<-hrw.1];rfl
     have Ah:=Pd TZ (oN bS.u dB.u);have HSI:Hid (cW gs (k+1)=init++[last++[x]]):=by
      unfold Hid;rw [CX tG.u (by rw [JM tG.u,hp,hm];rfl),TZ];simp
     have fF:=hY eW.u.o;have eQ:=hY eW.u.x;rw [hL] at fF;rw [hL];obtain ⟨m,hme⟩:=ey (vi.length);have HME:=hY hme;rw [<-hme] at fF hL |-;obtain ⟨go,u,rfl,hgo,hu,ZI,hfu⟩:=wS fF.u (j:=m) aa;have hu2:u=.slice A1 last.length c1:=by rw [hme,List.getElem?_concat_length] at hu;exact (nT hu).symm
     subst hu2;have HLB:Hid (∀g,(Value.slice A1 last.length c1).ownBlock=some g->g<wr.heap.size):=fun g hg=>(TT.lt g hg).2
     have XL:=hY (lQ (hrw.ext HXw.u) (lQ (aq TT HXw.u) (lQ hB.1 (lK hB.2 HXw.u.size))));have HXS:=hY TZ;have HMV:=hY hm;clear hme hne TZ hu hrw TT hp hm hB;have apy:W7.drew.cell? (aA go m)=some (.slice A1 last.length c1):=ZI;have df:=(fF.u.lt go rfl).2;have afM:(W7.alloc (.cells #[iI x.k,iI x.a,iI x.b,iI x.c] 54)).cell? (aA go m)=some (.slice A1 last.length c1):=(((xZ W7).alloc _).cell (p:=(aA go m)) df).trans ZI;have apz:(W7.alloc (.cells #[iI x.k,iI x.a,iI x.b,iI x.c] 54)).drew.cell? (aA go m)=some (.slice A1 last.length c1):=afM;have apA:(W7.drew.alloc (.cells #[iI x.k,iI x.a,iI x.b,iI x.c] 54)).cell? (aA go m)=some (.slice A1 last.length c1):=afM;have Zo:(m:Int)<(m:Int)+1:=aa
     have hwm:IntKind.i64.wrap (m:Int)=(m:Int):=lH _ aa;have apB:wrap64 (m:Int)=(m:Int):=bo
     have ay4:(fun w'=>w'.cell? (aA wr.z 0)=some (iI x.k)/\w'.cell? (aA wr.z 1)=some (iI x.a)/\w'.cell? (aA wr.z 2)=some (iI x.b)/\w'.cell? (aA wr.z 3)=some (iI x.c)) W7.drew:=⟨g0,g1,g2,g3⟩;have QW:Hid ((fun w'=>w'.cell? (aA wr.z 0)=some (iI x.k)/\w'.cell? (aA wr.z 1)=some (iI x.a)/\w'.cell? (aA wr.z 2)=some (iI x.b)/\w'.cell? (aA wr.z 3)=some (iI x.c)) (W7.drew.alloc (.cells #[iI x.k,iI x.a,iI x.b,iI x.c] 54))):=(aB (Ge.u.drew.alloc (.cells #[iI x.k,iI x.a,iI x.b,iI x.c] 54))).1;go_upto_region 8 with fail;refine dm (S:=(fun w'=>w'.cell? (aA wr.z 0)=some (iI x.k)/\w'.cell? (aA wr.z 1)=some (iI x.a)/\w'.cell? (aA wr.z 2)=some (iI x.b)/\w'.cell? (aA wr.z 3)=some (iI x.c))) af (ay4) (fun ay4=>?_);refine tq 0 ?_;refine tq 1 ?_;refine tq 2 ?_;refine tq 3 ?_;refine tq 4 ?_;refine tq 5 ?_;refine tq 6 ?_;refine tq 7 ?_;refine tq 8 ?_;refine tq 10 ?_;refine o2 9 11 (fun K hK=>?_) fun K hK=>?_
     ·skip;go_simp;refine ov hK (ay4) fun ay4=>?_
      refine o1 11 fun K hK=>?_
      go_simp;refine ov hK (QW.u) fun ay4=>?_
      exact EK
     ·skip;go_simp;refine ov hK (QW.u) fun ay4=>?_
      refine o1 9 fun K hK=>?_
      go_simp;refine ov hK (ay4) fun ay4=>?_
      exact EK
  ·skip;have jT:k=n:=aa
   subst jT;have HV:Hid (cW gs k=kt gs):=by unfold Hid kt;rw [dB.u]
   go_wp2;go_ret;rw [<-HV.u]
   exact ⟨Ao,co,vs,rfl,aZ.u⟩
theorem Rows.apart {w0 W W':World} {B:Nat} {vs:List Value} {xss:List (List Gt)} (h:Rows w0 W B vs xss) {row:Option Nat} (hg:W.grownBy W' row) (hr:∀g,row=some g->g<w0.heap.size\/B<=g):Rows w0 W' B vs xss:=⟨h.1,fun j xs hj=>by
 obtain ⟨A,c,h1,h2,h3⟩:=h.2 j xs hj;refine ⟨A,c,h1,h2.kept hg ?_,h3⟩
 cases hv:(Value.slice A xs.length c).ownBlock with
 |none=>exact .inl rfl
 |some k=>
  right;intro e;have:=h3 k hv;have:=(h2.lt k hv).1;have:=hr k e.symm
  omega⟩
structure Gf (w0 w1 w2 W:World) (Ac:OA) (L cc:Nat) (vs:List Value) (xss:List (List Gt)) (Ao:OA) (lo co:Nat) (os:List Gt):Prop where
 r:Rows w1 W w2.heap.size vs xss
 o:W.ownsRow w1.heap.size 37 1 (.slice Ac L cc) L vs
 t:W.ownsRow w0.heap.size 54 4 (.slice Ao lo co) lo (ak os)
 b:∀g,(Value.slice Ao lo co).ownBlock=some g->g<w1.heap.size\/w2.heap.size<=g
 x:Ext w0 W
 s:w2.heap.size<=W.heap.size
section
variable {w0 w1 w2 W W':World} {Ac Ao A':OA} {L cc lo co l' c':Nat} {vs:List Value} {xss:List (List Gt)} {os os':List Gt}
theorem Gf.ext (h:Gf w0 w1 w2 W Ac L cc vs xss Ao lo co os) (hx:Ext W W'):Gf w0 w1 w2 W' Ac L cc vs xss Ao lo co os:=
 ⟨h.r.ext hx,aq h.o hx,aq h.t hx,h.b,h.x.trans hx,lK h.s hx.size⟩
theorem Gf.app (h:Gf w0 w1 w2 W Ac L cc vs xss Ao lo co os) (h1:W'.ownsRow w0.heap.size 54 4 (.slice A' l' c') l' (ak os')) (h2:Ext w0 W') (h3:W.grownBy W' (Value.slice Ao lo co).ownBlock)
  (h4:(Value.slice A' l' c').ownBlock=(Value.slice Ao lo co).ownBlock\/(Value.slice A' l' c').ownBlock=some W.heap.size):Gf w0 w1 w2 W' Ac L cc vs xss A' l' c' os':=by
 refine ⟨h.r.apart h3 h.b,h.o.kept h3 (cX h.o h.t ae),h1,fun g hg=>?_,h2,lK h.s h3.size⟩;rcases h4 with h4|h4
 ·rw [h4] at hg;exact h.b g hg
 ·rw [h4] at hg;injection hg with hg;subst hg
  exact .inr h.s
theorem Gf.row (h:Gf w0 w1 w2 W Ac L cc vs xss Ao lo co os) {i:Nat} {xs:List Gt} (hx:xss[i]?=some xs) (hL:xss.length=L):∃g A c,Ac=some ⟨g,0,none⟩/\W.cell? (aA g i)=some (.slice A xs.length c)/\xs.length<=c/\Rd W W.heap.size 4 A xs.length (ak xs):=by
 obtain ⟨A,c,h1,h2,h3⟩:=h.r.at_ hx;have hi:i<L:=by rw [<-hL];exact (gU.1 hx).1
 obtain ⟨g,u,e1,-,e2,e3,-⟩:=wS h.o hi;rw [h1] at e2
 cases e2
 exact ⟨g,A,c,e1,e3,h2,h3⟩
end
theorem Te (xss:List (List Gt)) (k:Nat):(xss.take k).flatten.length<=xss.flatten.length:=by
 have h:=sI List.length (sI List.flatten (qW k xss));rw [BV,lA] at h;omega
theorem Mr:∀(xss:List (List Gt)) (xs:List Gt),xs∈xss->xs.length<=xss.flatten.length
 |[],_,h=>by cases h
 |y::ys,xs,h=>by
  rw [PK,lA];rcases qR.1 h with rfl|h
  ·omega
  ·have:=Mr ys xs h;omega
def wT (gs:List Gt) (N:Int) (k:Nat):List Gt:=((kt gs).take k).flatMap fun s=>mi s N
theorem Tf {gs:List Gt} {N:Int} {k:Nat} {s:List Gt} (h:(kt gs)[k]?=some s):wT gs N (k+1)=wT gs N k++mi s N:=by
 unfold wT;rw [aL h,lR];simp
theorem XO (gs:List Gt) (N:Int) (k:Nat):(wT gs N k).length<=2*gs.length:=by
 have h1:=vW N ((kt gs).take k);have h2:=Te (kt gs) k;rw [tX] at h2;unfold wT;omega
theorem zz (A:OA) (n c:Nat) (gs:List Gt) (N:Int) (w:World) (h:Rd w w.heap.size 4 A n (ak gs)) (hn:n<=40000000000) (hN:0<n->1<=N/\N<=4):
  Calls prog 91 #[.slice A n c,iI N] w fun e w'=>(∃(v:Value) (j:Int),e=.returned (.tuple #[v,iI j])/\w'.ownsRow w.heap.size 54 4 v (ee gs N).length (ak (ee gs N)))/\Ext w w':=by
 have dB:=hY (h.len Gt.aE aa);have HR:=hY h;clear h;go_enter func91,ntmps91;have aS:Ext w (w.alloc (cO #[] 54)):=(xZ w).alloc _;have OH:(w.alloc (cO #[] 54)).heap.size=w.heap.size+1:=ag
 have QX:=hY (aJ w w 54 4 (xZ _));go_upto_region 2 with fail;generalize w.alloc (cO #[] 54)=w1 at*
 have mI:=hY (HR.u.ext aS);go_wp2_with fail;refine (qJ A n c gs _ mI.u aa).mono ?_;rintro e w2 ⟨Ac,cc,vs,rfl,FK⟩;have aZ:Hid (Gf w w1 w2 w2 Ac (kt gs).length cc vs (kt gs) (some ⟨w.heap.size,0,none⟩) (wT gs N 0).length 0 (wT gs N 0)):=
  ⟨FK.rows,FK.o,aq QX.u FK.x,fun g hg=>by
   left;have e1:(Value.slice (some ⟨w.heap.size,0,none⟩) (wT gs N 0).length 0).ownBlock=some w.heap.size:=rfl;rw [e1] at hg;injection hg with hg
   omega,aS.trans FK.x,lI _⟩
 clear FK QX;go_wp2
 go_loopw [6,7,9] (fun ov kv iv wr=>∃(k:Nat) (Ao:OA) (co:Nat) (j:Int),k<=(kt gs).length/\ov=.slice Ao (wT gs N k).length co/\kv=iI j/\iv=iI k/\(0<=j/\j<=7)/\Hid (Gf w w1 w2 wr Ac (kt gs).length cc vs (kt gs) Ao (wT gs N k).length co (wT gs N k))) (fun _ _ i _=>(kt gs).length - (intOf i).toNat)
 case atStart=>exact ⟨0,_,0,0,lJ _,rfl,rfl,rfl,aa,aZ⟩
 case round=>
  clear aZ;obtain ⟨k,Ao,co,j,hk,rfl,rfl,rfl,hj,aZ⟩:=hrel;have XG:=EJ gs gs.length;have Tg:(kt gs).length<=n:=by rw [<-dB.u];exact XG
  clear XG
  by_cases bh:k<(kt gs).length
  ·have hs:(kt gs)[k]?=some ((kt gs)[k]'bh):=lB bh;generalize (kt gs)[k]'bh=s at hs;have hsn:=Mr (kt gs) s (lG hs);rw [tX,dB.u] at hsn;have HS:=hY hs;have xq:=XO gs N k;rw [dB.u] at xq;have hfl:=GR s N;have bS:=hY bh;have Xn:Hid (wT gs N (k+1)=wT gs N k++mi s N):=Tf hs;have dP:=hY (wC k aa);clear hs;obtain ⟨g,As,cs,rfl,r0,-,hrs⟩:=aZ.u.row HS.u rfl;have HRS:=hY hrs;clear hrs;have Zy:=hN aa;go_wp2_with fail;refine (uv As s.length cs s N _ HRS.u aa Zy.1 Zy.2).mono ?_;rintro e w4 ⟨⟨v4,j4,rfl,awB,awC,rk⟩,fe⟩;obtain ⟨A4,c4,rfl,-⟩:=au rk;have Th:=hY (aZ.u.ext fe);have VH:=hY (Rd.own rk);have ZC:IntKind.i64.wrap (j+j4)=j+j4:=lH _ aa;have hw2:wrap64 (j+j4)=j+j4:=bo
   clear rk fe aZ r0;go_wp2_with (at_builtin;refine cU (w0:=w) rfl _ _ rfl _ _ _ rfl Th.u.t Th.u.x A4 _ c4 _ rfl VH.u aa ?_;intro v9 w9 t1 t2 t3 t4;obtain ⟨A9,c9,rfl,-⟩:=au t1;have eH:=hY (Th.u.app t1 t2 t3 t4);clear t1 t2 t3 t4)
   refine (eD (j+j4) _ aa).mono ?_;rintro e wq ⟨rfl,rfl⟩;go_wp2;go_roundw
   case rel=>exact ⟨k+1,A9,c9,(j+j4) % 8,oM bS.u,by rw [Xn.u,lA],rfl,by first|rfl|rw [dP.u.1]|rw [dP.u.2],aa,by rw [Xn.u,lA];exact eH⟩
   case measure=>simp [intOf,dP.u.2];have:=bS.u;omega
  ·have jT:k=(kt gs).length:=aa
   have HV:Hid (wT gs N k=ee gs N):=by unfold Hid wT ee;rw [jT,jt]
   go_wp2;go_ret2;rw [<-HV.u]
   exact ⟨⟨_,_,rfl,aZ.u.t⟩,aZ.u.x⟩
def Bh (n:Nat):Nat->List Int->List (List Int)
 |0,hd=>[hd]
 |f+1,hd=>(List.range n).flatMap fun (k:Nat)=>if fC hd (k:Int)=true then [] else Bh n f (hd++[(k:Int)])
def qK (n f:Nat) (hd:List Int) (k:Nat):List (List Int):=(List.range k).flatMap fun (k:Nat)=>if fC hd (k:Int)=true then [] else Bh n f (hd++[(k:Int)])
theorem afN (n f:Nat) (hd:List Int):qK n f hd 0=[]:=rfl
theorem XP (n f:Nat) (hd:List Int):qK n f hd n=Bh n (f+1) hd:=rfl
theorem Ms {n f k:Nat} {hd:List Int} (h:fC hd (k:Int)=true):qK n f hd (k+1)=qK n f hd k:=by
 unfold qK;rw [BW,lR];simp [h]
theorem Mt {n f k:Nat} {hd:List Int} (h:fC hd (k:Int)=false):qK n f hd (k+1)=qK n f hd k++Bh n f (hd++[(k:Int)]):=by
 unfold qK;rw [BW,lR];simp [h]
theorem zA {n f P:Nat} {hd:List Int} (h:∀hd,(Bh n f hd).length<=P):∀k,(qK n f hd k).length<=k*P
 |0=>by simp [afN]
 |k+1=>by
  have h1:=zA (hd:=hd) h k;rw [yN]
  cases hh:fC hd (k:Int)
  ·rw [Mt hh,lA];have:=h (hd++[(k:Int)]);omega
  ·rw [Ms hh];omega
theorem BM {n:Nat} (hn:n<=4):∀(f:Nat) (hd:List Int),(Bh n f hd).length<=4 ^ f
 |0,hd=>by simp [Bh]
 |f+1,hd=>by
  have h1:=zA (hd:=hd) (BM hn f) n;rw [XP] at h1;rw [Nat.pow_succ,Nat.mul_comm]
  exact lK h1 (Ip _ hn)
theorem XQ {n f k:Nat} {hd:List Int} (hn:n<=4) (hk:k<=n) (hf:f<=3):(qK n f hd k).length<=256:=by
 have h1:=zA (hd:=hd) (BM hn f) k;have h2:k*4 ^ f<=4*4 ^ 3:=Im aa (zN aa hf);omega
theorem JN {n:Nat}:∀(f:Nat) (hd:List Int),∀p∈Bh n f hd,p.length=hd.length+f
 |0,hd,p,hp=>by simp [Bh] at hp;subst hp;rfl
 |f+1,hd,p,hp=>by
  unfold Bh at hp;obtain ⟨k,-,hk⟩:=sH.1 hp;split at hk
  ·cases hk
  ·have:=JN f _ p hk;rw [this,lA];simp;omega
def eO (w0 W:World) (vs:List Value) (xss:List (List Int)):Prop:=vs.length=xss.length/\∀(j:Nat) (xs:List Int),xss[j]?=some xs->∃(A:OA) (c:Nat),vs[j]?=some (Value.slice A xs.length c)/\W.ownsRow w0.heap.size 3 1 (.slice A xs.length c) xs.length (aG xs)
section
variable {w0 w1 W W':World} {vs us:List Value} {xss yss:List (List Int)}
theorem eO.nil:eO w0 W [] []:=⟨rfl,fun j xs h=>dV⟩
theorem eO.ext (h:eO w0 W vs xss) (hx:Ext W W'):eO w0 W' vs xss:=⟨h.1,fun j xs hj=>by
 obtain ⟨A,c,h1,h2⟩:=h.2 j xs hj
 exact ⟨A,c,h1,aq h2 hx⟩⟩
theorem eO.base (h:eO w0 W vs xss) (hw:w1.heap.size<=w0.heap.size):eO w1 W vs xss:=⟨h.1,fun j xs hj=>by
 obtain ⟨A,c,h1,h2⟩:=h.2 j xs hj
 exact ⟨A,c,h1,aC h2 hw⟩⟩
theorem eO.grown (h:eO w0 W vs xss) {B1 e s n:Nat} {v:Value} {ys:List Value} (ho:W.ownsRow B1 e s v n ys) (he:e≠3) (hg:W.grownBy W' v.ownBlock):eO w0 W' vs xss:=⟨h.1,fun j xs hj=>by
 obtain ⟨A,c,h1,h2⟩:=h.2 j xs hj
 exact ⟨A,c,h1,h2.kept hg (cX h2 ho (sK he))⟩⟩
theorem eO.app (h:eO w0 W vs xss) (h':eO w0 W us yss):eO w0 W (vs++us) (xss++yss):=by
 refine ⟨by rw [lA,lA,h.1,h'.1],fun j xs hj=>?_⟩
 by_cases KD:j<xss.length
 ·rw [sB KD] at hj;obtain ⟨A,c,h1,h2⟩:=h.2 j xs hj
  exact ⟨A,c,by rw [sB (by rw [h.1];exact KD)];exact h1,h2⟩
 ·rw [yL aa] at hj;obtain ⟨A,c,h1,h2⟩:=h'.2 _ xs hj
  exact ⟨A,c,by rw [yL (by rw [h.1];omega),h.1];exact h1,h2⟩
theorem eO.one {A:OA} {c:Nat} {xs:List Int} (h:W.ownsRow w0.heap.size 3 1 (.slice A xs.length c) xs.length (aG xs)):eO w0 W [.slice A xs.length c] [xs]:=by
 refine ⟨rfl,fun j ys hj=>?_⟩
 cases j with
 |zero=>simp at hj;subst hj;exact ⟨A,c,rfl,h⟩
 |succ j=>simp at hj
end
theorem XR:(prog.info? 27).map (fun i=>(i.zero,i.size,i.bytes))=some (some (nS),1,24):=af
theorem abM {w0 w:World} {ops:Array Oper} {rest:List Oper} {o:Oper} {a:Act} {Q:Exit->Act->World->Prop} (fx:o.guard=none) (s x:Operand)
  (ho:aO o s x 99) (v:Value) (n:Nat) (xs:List Value) (hs:a.eval s=v)
  (bc:w.ownsRow w0.heap.size 27 1 v n xs) (cH:Ext w0 w) (A:OA) (m c:Nat) (us:List Value) (hu:∀u∈us,u.oneCell'=true) (hx:a.eval x=.slice A m c) (hr:Rd w w.heap.size 1 A m us) (hn:n+m<=2000000000000)
  (h:aH w0 w v 27 1 (n+m) (xs++us) (wpList prog ops Q rest) a o):wpList prog ops Q (o::rest) a w:=by
 obtain ⟨i0,hi,eX,gX,jK⟩:=iF XR
 exact eL fx s x _ ho 27 i0 _ 1 24 underlying99 hi eX gX jK rfl ae ae v n _ hs bc cH A m c us hx hr hu hn h
theorem eO.apF {w0 W:World} {vs:List Value} {xss:List (List Int)} (h:eO w0 W vs xss):∀u∈vs,u.oneCell'=true:=by
 intro u hu;obtain ⟨j,hj⟩:=Uk hu;have KD:j<xss.length:=by rw [<-h.1];exact (gU.1 hj).1
 obtain ⟨A,c,h1,-⟩:=h.2 j _ (lB KD);rw [hj] at h1
 cases h1
 rfl
theorem AK (n:Nat) (hn:n<=4):∀(f m:Nat) (A:OA) (c:Nat) (hd:List Int) (w:World),m+f=n->Rd w w.heap.size 1 A m (aG hd)->
  Calls prog 80 #[iI n,.slice A m c] w fun e w'=>(∃(v:Value) (vs:List Value),e=.returned v/\w'.ownsRow w.heap.size 27 1 v (Bh n f hd).length vs/\eO w w' vs (Bh n f hd))/\Ext w w'
 |0,m,A,c,hd,w,hm,h=>by
  have hmn:m=n:=aa
  subst hmn;have dB:=hY (h.len bO aa);have HR:=hY h;have he1:((m:Int)==(m:Int))=true:=ag
  clear h hm;go_enter func80,ntmps80;go_wp2_with (at_builtin;refine my (w0:=w) rfl _ _ rfl _ 0 [] rfl (aJ w w _ 1 (xZ _)) ((xZ w).alloc _) A m c hd rfl (HR.u.ext ((xZ _).alloc _)) aa ?_;intro v9 w9 g1 g2 g3 g4;rw [lM,lN] at g1;obtain ⟨A9,c9,rfl,-⟩:=au g1;have HO:=hY (lQ g1 g2);clear g1 g2 g3 g4)
  go_ret;have ho:w9.ownsRow w.heap.size 3 1 (.slice A9 hd.length c9) hd.length (aG hd):=by rw [dB.u];exact HO.u.1
  refine ⟨⟨_,[.slice A9 hd.length c9],rfl,?_,(eO.one ho).ext ((xZ _).alloc _)⟩,HO.u.2.alloc _⟩;rw [dB.u]
  exact bL HO.u.2 w9.heap.size 27 1 1 #[.slice A9 m c9] _ rfl rfl rfl aa
 |f+1,m,A,c,hd,w,hm,h=>by
  have dB:=hY (h.len bO aa);have HR:=hY h
  have HIH:Hid (∀(m:Nat) (A:OA) (c:Nat) (hd:List Int) (w:World),m+f=n->Rd w w.heap.size 1 A m (aG hd)->
   Calls prog 80 #[iI n,.slice A m c] w fun e w'=>(∃(v:Value) (vs:List Value),e=.returned v/\w'.ownsRow w.heap.size 27 1 v (Bh n f hd).length vs/\eO w w' vs (Bh n f hd))/\Ext w w'):=fun m A c hd w=>AK n hn f m A c hd w
  have he1:((m:Int)==(n:Int))=false:=aj
  have MY:decide ((m:Int)=(n:Int))=false:=aj
  have HM:=hY hm;have hmn:¬m=n:=aa
  clear h;go_enter func80,ntmps80;have nN:Hid ((w.alloc (cO #[] 27)).ownsRow w.heap.size 27 1 (.slice (some ⟨w.heap.size,0,none⟩) 0 0) 0 []/\eO w (w.alloc (cO #[] 27)) [] (qK n f hd 0)/\Ext w (w.alloc (cO #[] 27))):=⟨aJ w w _ 1 (xZ _),eO.nil,(xZ w).alloc _⟩;go_wp2;clear he1 MY hmn
  go_loopw [5,6] (fun ov iv wr=>∃(k:Nat) (Ao:OA) (co:Nat) (vs:List Value),k<=n/\iv=iI k/\ov=.slice Ao (qK n f hd k).length co/\Hid (wr.ownsRow w.heap.size 27 1 (.slice Ao (qK n f hd k).length co) (qK n f hd k).length vs/\eO w wr vs (qK n f hd k)/\Ext w wr)) (fun _ i _=>n - (intOf i).toNat)
  case atStart=>exact ⟨0,_,0,[],lJ _,rfl,rfl,nN⟩
  case round=>
   clear nN;obtain ⟨k,Ao,co,vs,hk,rfl,rfl,HO⟩:=hrel;have xq:=XQ (n:=n) (f:=f) (k:=k) (hd:=hd) hn hk aa;obtain ⟨lo,rr⟩:=ex ((qK n f hd k).length);have DU:=hY rr;rw [rr] at HO xq |-;clear rr
   by_cases bh:k<n
   ·have bS:=hY bh;have Ti:=hY (HR.u.ext HO.u.2.2);have dP:=hY (wC k aa);go_wp2_with fail;refine (dv A m c hd (k:Int) _ Ti.u aa).mono ?_;rintro e wq ⟨rfl,rfl⟩
    cases hh:fC hd (k:Int)
    ·have HP:=hY (Mt (n:=n) (f:=f) hh);have df:=BM hn f (hd++[(k:Int)]);have jL:(4:Nat) ^ f<=4 ^ 3:=zN aa aa;have apH:(Bh n f (hd++[(k:Int)])).length<=64:=aa
     clear hh df jL;obtain ⟨wr',hwr⟩:∃W:World,W=wr:=⟨_,rfl⟩
     go_wp2_with (first
      |(at_builtin;refine my (w0:=wr) rfl _ _ rfl _ 0 [] rfl (aJ wr wr _ 1 (xZ _)) ((xZ wr).alloc _) A m c hd rfl (Ti.u.ext ((xZ _).alloc _)) aa ?_;intro v5 w5 g1 g2 g3 g4;rw [lM,lN] at g1;obtain ⟨A5,c5,rfl,-⟩:=au g1;have iK:=hY (lQ g1 g2);clear g1 g2 g3 g4)
      |(at_builtin;refine qb (w0:=wr) rfl _ _ rfl _ m hd rfl iK.u.1 iK.u.2 (k:Int) _ _ rfl rfl aa ?_;intro v6 w6 g1 g2 g3 g4;obtain ⟨A6,c6,rfl,-⟩:=au g1;have km:=hY (lQ g1 g2);clear g1 g2 g3 g4))
     have rp:=hY (Rd.own km.u.1);refine (HIH.u (m+1) A6 c6 (hd++[(k:Int)]) _ (oM HM.u) rp.u).mono ?_;rintro e w7 ⟨⟨v7,us,rfl,Ai,BB⟩,gJ⟩;obtain ⟨A7,c7,rfl,afP⟩:=au Ai;obtain ⟨l7,hl7⟩:=ex ((Bh n f (hd++[(k:Int)])).length);have HL7:=hY hl7;rw [hl7] at Ai afP apH |-;have eQ:Hid (Ext wr w7):=km.u.2.trans gJ;have RN:Hid (w7.ownsRow w.heap.size 27 1 (.slice Ao lo co) lo vs/\eO w w7 vs (qK n f hd k)/\Ext w w7):=⟨aq HO.u.1 eQ.u,HO.u.2.1.ext eQ.u,HO.u.2.2.trans eQ.u⟩;have HRU:Hid (eO w w7 us (Bh n f (hd++[(k:Int)]))):=BB.base (HO.u.2.2.trans km.u.2).size;have HRD:=hY afP;clear Ai BB afP gJ hl7 iK km rp HO;go_wp2_with (at_builtin;refine abM (w0:=w) rfl _ _ rfl _ lo vs rfl RN.u.1 RN.u.2.2 A7 l7 c7 us HRU.u.apF rfl HRD.u aa ?_;intro v8 w8 g1 g2 g3 g4;obtain ⟨A8,c8,rfl,-⟩:=au g1;have vE:Hid (w8.ownsRow w.heap.size 27 1 (.slice A8 (lo+l7) c8) (lo+l7) (vs++us)/\eO w w8 (vs++us) (qK n f hd k++Bh n f (hd++[(k:Int)]))/\Ext w w8):=⟨g1,(RN.u.2.1.app HRU.u).grown RN.u.1 ae g3,g2⟩;clear g1 g2 g3 g4)
     go_roundw
     case rel=>exact ⟨k+1,A8,c8,vs++us,oM bS.u,by first|rfl|rw [dP.u.1]|rw [dP.u.2],by rw [HP.u,lA,DU.u,HL7.u],by rw [HP.u,lA,DU.u,HL7.u];exact vE⟩
     case measure=>simp [intOf,dP.u.2];have:=bS.u;omega
    ·have HP:=hY (Ms (n:=n) (f:=f) hh);clear hh;go_wp2_with fail;go_roundw
     case rel=>exact ⟨k+1,Ao,co,vs,oM bS.u,by first|rfl|rw [dP.u.1]|rw [dP.u.2],by rw [HP.u,DU.u],by rw [HP.u,DU.u];exact HO⟩
     case measure=>simp [intOf,dP.u.2];have:=bS.u;omega
   ·have jT:k=n:=aa
    subst jT;have HV:Hid (Bh k (f+1) hd=qK k f hd k):=(XP k f hd).symm;go_wp2;go_ret;rw [HV.u,DU.u]
    exact ⟨⟨_,vs,rfl,HO.u.1,HO.u.2.1⟩,HO.u.2.2⟩
theorem pk (n:Nat) (h1:1<=n) (hn:n<=4) (w:World):
  Calls prog 67 #[iI n] w fun e w'=>(∃(v:Value) (vs:List Value),e=.returned v/\w'.ownsRow w.heap.size 27 1 v (Bh n n []).length vs/\eO w w' vs (Bh n n []))/\Ext w w':=by
 have Mo:Hid (∀w',Calls prog 60 #[iI n,iI 1,iI 4] w' fun e w''=>e=.returned (.bool true)/\w'=w''):=fun w'=>by
  have h9:=aF (n:Int) 1 4 w' aa aa
  exact h9
 go_enter func67,ntmps67;go_wp2_with fail;refine (Mo.u _).mono ?_;rintro e wq ⟨rfl,rfl⟩;have LK:Hid (Rd (w.alloc (cO #[] 3)) (w.alloc (cO #[] 3)).heap.size 1 (some ⟨w.heap.size,0,none⟩) 0 (aG [])):=⟨rfl,fun h0=>absurd h0 aa⟩;go_wp2_with fail;refine (AK n hn n 0 _ 0 [] _ aa LK.u).mono ?_;rintro e w5 ⟨⟨v5,vs,rfl,ho,hr⟩,hx⟩;have HO:Hid (w5.ownsRow w.heap.size 27 1 v5 (Bh n n []).length vs/\eO w w5 vs (Bh n n [])/\Ext w w5):=⟨aC ho ag,hr.base ag,((xZ w).alloc _).trans hx⟩;clear ho hr hx;go_wp2;go_ret
 exact ⟨⟨_,vs,rfl,HO.u.1,HO.u.2.1⟩,HO.u.2.2⟩
end Go.Proofs.YtiajdbllccmokaaGreatDoor
