import Derived.Test.YtiajdbllccmokaaGreatDoorXbq
import Derived.Test.YtiajdbllccmokaaGreatDoorXbk
import Derived.Test.YtiajdbllccmokaaGreatDoorCards
import Derived.Test.YtiajdbllccmokaaGreatDoorTie
import Derived.LaidMore
import Derived.Lib.LaidTab
import Derived.MakeChecks
import Derived.Stop.LaidErr
import Derived.Stop.Joined
import Derived.SevenTiedAt
namespace Go.Proofs.YtiajdbllccmokaaGreatDoor
open Go.ChangeShapes Go.WideShapes Go.ChangeAt Go.RowKit Go.Deep Go.Proofs.Tryz
set_option linter.unusedVariables false
set_option linter.unusedSimpArgs false
set_option maxRecDepth 100000
set_option maxHeartbeats 16000000
def agS (w:World) (e:Ending) (w':World):Prop:=
 ∃(x:Rt) (y:Cm) (A A1 A2 A3:OA) (c c1 c2 c3:Nat),e=.returned (.tuple #[.agg #[iI x.n,iI x.kb,iI x.bits,.slice A x.ops.length c],.agg #[iI y.n,iI y.bits,.slice A1 y.ops.length c1,.slice A2 y.st.length c2,.slice A3 y.fin.length c3]])/\
  eS w' A1 y.ops.length A2 y.st.length A3 y.fin.length y.ops y.st y.fin/\Rd w' w'.heap.size 8 A x.ops.length (aI x.ops)/\x.ops.length<=200/\y.ops.length<=50000000000/\(ai y.ops).length<=950000/\Ext w w'
theorem MQ {w:World} {B n:Nat} {A:OA} {ps:List Int} (h:Rd w B 1 A n (aG ps)):ps.length=n:=h.len bO aa
theorem Fp (Ab:OA) (nb cb0:Nat) (bs:List Int) (w:World) (h:Rd w w.heap.size 1 Ab nb (IH bs)) (hn:nb<=1048576):
  Calls prog 5 #[.slice Ab nb cb0] w (agS w):=by
 have HBS:=hY h;clear h;have eG:Hid (ay ((w.alloc (cO #[iI 0,iI 0,iI 0,nS] 26)).alloc (cO jG 29)) w.heap.size 26 #[iI 0,iI 0,iI 0,nS]):=(ay.new _ _ _).alloc _;have ie:Hid (ay ((w.alloc (cO #[iI 0,iI 0,iI 0,nS] 26)).alloc (cO jG 29)) (w.heap.size+1) 29 jG):=ay.newAt ag;have um:∀o1 o2:Obj,((w.alloc o1).alloc o2).heap.size=w.heap.size+1+1:=fun _ _=>ag
 go_enter func5,ntmps5;go_wp2_with fail;refine (MP Ab nb cb0 bs _ (HBS.u.ext (((xZ w).alloc _).alloc _)) hn).mono ?_;rintro e w1 ⟨cn,cb,A1,l1,c1,A2,l2,c2,A3,l3,c3,xs,ps,qs,N,I,B,A,len,cap,n,E,l,c,rfl,hR,hN,hx,hF,os,⟨SW,hln⟩,hob,RL⟩;obtain rfl:xs.length=l1:=hR.a.len Oq.aE aa;obtain rfl:ps.length=l2:=MQ hR.b;obtain rfl:qs.length=l3:=MQ hR.c;obtain rfl:os.length=len:=SW;obtain ⟨y,PW⟩:∃y:Cm,y=⟨cn,cb,xs,ps,qs⟩:=⟨_,rfl⟩;obtain ⟨rfl,rfl,rfl,rfl,rfl⟩:cn=y.n/\cb=y.bits/\xs=y.ops/\ps=y.st/\qs=y.fin:=by rw [PW];exact ⟨rfl,rfl,rfl,rfl,rfl⟩
 clear PW;obtain ⟨x,iY⟩:∃x:Rt,x=⟨N,I,B,os⟩:=⟨_,rfl⟩;obtain ⟨rfl,rfl,rfl,rfl⟩:N=x.n/\I=x.kb/\B=x.bits/\os=x.ops:=by rw [iY];exact ⟨rfl,rfl,rfl,rfl⟩
 clear iY;have HF:Hid (x.ops.length<=200/\y.ops.length<=50000000000/\(ai y.ops).length<=950000):=⟨hln,hN.1,hF⟩;have Gc:Hid (RO w1 (w.heap.size+1) w1.heap.size A x.ops.length x.ops):=⟨⟨rfl,hln⟩,fun b o e9=>by have h9:=hob b o e9;rw [um] at h9;omega,RL⟩;have mI:=hY hR;have MZ:Hid (ay w1 w.heap.size 26 #[iI 0,iI 0,iI 0,nS]/\ay w1 (w.heap.size+1) 29 jG):=⟨eG.u.ext hx,ie.u.ext hx⟩;have dk:Hid (Ext w w1):=Ext.trans (((xZ w).alloc _).alloc _) hx;have HSZ:Hid (w.heap.size+1+1<=w1.heap.size):=by have h9:=hx.size;rw [um] at h9;exact h9
 clear hR hN hF hx hln hob RL eG ie um;have AW:Hid (Ext w1 (((w1.alloc (cO #[iI y.n,iI y.bits,.slice A1 y.ops.length c1,.slice A2 y.st.length c2,.slice A3 y.fin.length c3] 29)).alloc (cO #[iI x.n,iI x.kb,iI x.bits,.slice A x.ops.length cap] 26)).alloc (cO #[iI n,.slice E l c] 42))):=(((xZ w1).alloc _).alloc _).alloc _;have FC:Hid (ay (((w1.alloc (cO #[iI y.n,iI y.bits,.slice A1 y.ops.length c1,.slice A2 y.st.length c2,.slice A3 y.fin.length c3] 29)).alloc (cO #[iI x.n,iI x.kb,iI x.bits,.slice A x.ops.length cap] 26)).alloc (cO #[iI n,.slice E l c] 42)) w1.heap.size 29 #[iI y.n,iI y.bits,.slice A1 y.ops.length c1,.slice A2 y.st.length c2,.slice A3 y.fin.length c3]):=((ay.new _ _ _).alloc _).alloc _;have vB:Hid (ay (((w1.alloc (cO #[iI y.n,iI y.bits,.slice A1 y.ops.length c1,.slice A2 y.st.length c2,.slice A3 y.fin.length c3] 29)).alloc (cO #[iI x.n,iI x.kb,iI x.bits,.slice A x.ops.length cap] 26)).alloc (cO #[iI n,.slice E l c] 42)) (w1.heap.size+1) 26 #[iI x.n,iI x.kb,iI x.bits,.slice A x.ops.length cap]):=(ay.newAt ag).alloc _;go_upto_region 2 with fail;generalize (((w1.alloc (cO #[iI y.n,iI y.bits,.slice A1 y.ops.length c1,.slice A2 y.st.length c2,.slice A3 y.fin.length c3] 29)).alloc (cO #[iI x.n,iI x.kb,iI x.bits,.slice A x.ops.length cap] 26)).alloc (cO #[iI n,.slice E l c] 42))=W2 at*
 obtain ⟨s4,OV⟩:=ex (w1.heap.size);have Zg:Hid (RO W2 (w.heap.size+1) s4 A x.ops.length x.ops):=by
  have h9:=Gc.u.ext (lI _) AW.u;rw [OV] at h9
  exact h9
 have iL:=hY (mI.u.ext AW.u);have Fy:Hid (ay W2 w.heap.size 26 #[iI 0,iI 0,iI 0,nS]/\ay W2 (w.heap.size+1) 29 jG):=⟨MZ.u.1.ext AW.u,MZ.u.2.ext AW.u⟩;have kj:=hY (dk.u.trans AW.u);rw [OV] at FC vB HSZ
 try rw [OV]
 clear OV Gc mI MZ dk AW;refine dm (S:=(fun W=>(W.cell? (aA (s4+1) 0)=some (iI x.n)/\W.cell? (aA (s4+1) 1)=some (iI x.kb)/\W.cell? (aA (s4+1) 2)=some (iI x.bits)/\W.cell? (aA (s4+1) 3)=some (.slice A x.ops.length cap))/\W.cell? (aA s4 0)=some (iI y.n)/\W.cell? (aA s4 1)=some (iI y.bits)/\W.cell? (aA s4 2)=some (.slice A1 y.ops.length c1)/\W.cell? (aA s4 3)=some (.slice A2 y.st.length c2)/\W.cell? (aA s4 4)=some (.slice A3 y.fin.length c3))) af (⟨(aB (vB.u.drew)).1,(bG (FC.u.drew)).1⟩) (fun ay4=>?_);refine tq 0 ?_;refine tq 1 ?_;obtain ⟨W0,Kw⟩:=ey (W2.drew);have agT:=hY (FC.u.ext (xZ W2).drew);have agU:=hY (vB.u.ext (xZ W2).drew);have TE:Hid (ay W2.drew w.heap.size 26 #[iI 0,iI 0,iI 0,nS]/\ay W2.drew (w.heap.size+1) 29 jG):=⟨Fy.u.1.ext (xZ W2).drew,Fy.u.2.ext (xZ W2).drew⟩;have LK:=hY (iL.u.ext (xZ W2).drew);have ke:=hY (kj.u.trans (xZ W2).drew);have agV:=hY (Zg.u.ext (nZ FC.u.lt) (xZ W2).drew);rw [<-Kw] at agT agU TE LK ke agV |-;clear Kw FC vB Fy iL kj Zg ay4;have pq:=HSZ.u;obtain ⟨⟨a0,a1,a2,a3⟩,y0,y1,y2,y3⟩:=aB TE.u.1;refine o1 2 fun K hK=>?_
 go_simp;have k4:=dh agT.u (aa:s4≠w.heap.size) (iI x.n) (iI x.kb) (iI x.bits) (.slice A x.ops.length cap);have k5:=dh agU.u (aa:s4+1≠w.heap.size) (iI x.n) (iI x.kb) (iI x.bits) (.slice A x.ops.length cap);have k1:=dh TE.u.2 (aa:w.heap.size+1≠w.heap.size) (iI x.n) (iI x.kb) (iI x.bits) (.slice A x.ops.length cap);have k0:=TE.u.1.bP (iI x.n) (iI x.kb) (iI x.bits) (.slice A x.ops.length cap);have Ak:=hY (LK.u.bP TE.u.1 ae ae (iI x.n) (iI x.kb) (iI x.bits) (.slice A x.ops.length cap));have iM:=hY (br ke.u (g:=w.heap.size) (lI _) (iI x.n) (iI x.kb) (iI x.bits) (.slice A x.ops.length cap));have TD:=hY (agV.u.bP (q:=w.heap.size) (Nat.le_succ _) (iI x.n) (iI x.kb) (iI x.bits) (.slice A x.ops.length cap));refine ov hK (⟨(aB (k5)).1,(bG (k4)).1⟩) fun ay4=>?_
 clear ay4 a0 a1 a2 a3 y0 y1 y2 y3 LK ke agV agT agU TE;change wpAnyH _ _ _ _ _ _ _ _ (bP W0 w.heap.size (iI x.n) (iI x.kb) (iI x.bits) (.slice A x.ops.length cap));generalize bP W0 w.heap.size (iI x.n) (iI x.kb) (iI x.bits) (.slice A x.ops.length cap)=Wp at*
 obtain ⟨⟨a0,a1,a2,a3,a4⟩,y0,y1,y2,y3,y4⟩:=bG k1;refine o1 3 fun K hK=>?_
 go_simp;have m4:=AR k4 (aa:s4≠w.heap.size+1) (iI y.n) (iI y.bits) (.slice A1 y.ops.length c1) (.slice A2 y.st.length c2) (.slice A3 y.fin.length c3);have m5:=AR k5 (aa:s4+1≠w.heap.size+1) (iI y.n) (iI y.bits) (.slice A1 y.ops.length c1) (.slice A2 y.st.length c2) (.slice A3 y.fin.length c3);have m0:=AR k0 (aa:w.heap.size≠w.heap.size+1) (iI y.n) (iI y.bits) (.slice A1 y.ops.length c1) (.slice A2 y.st.length c2) (.slice A3 y.fin.length c3);have m1:=k1.ic (iI y.n) (iI y.bits) (.slice A1 y.ops.length c1) (.slice A2 y.st.length c2) (.slice A3 y.fin.length c3);have VH:=hY (Ak.u.alV k1 ae ae (iI y.n) (iI y.bits) (.slice A1 y.ops.length c1) (.slice A2 y.st.length c2) (.slice A3 y.fin.length c3));have Br:=hY (iA iM.u (g:=w.heap.size+1) (Nat.le_succ _) (iI y.n) (iI y.bits) (.slice A1 y.ops.length c1) (.slice A2 y.st.length c2) (.slice A3 y.fin.length c3));have aqW:=hY (TD.u.ic (q:=w.heap.size+1) (lI _) (iI y.n) (iI y.bits) (.slice A1 y.ops.length c1) (.slice A2 y.st.length c2) (.slice A3 y.fin.length c3));refine ov hK (⟨(aB (m5)).1,(bG (m4)).1⟩) fun ay4=>?_
 clear ay4 a0 a1 a2 a3 a4 y0 y1 y2 y3 y4 Ak iM TD k4 k5 k1 k0;have Ol:=m4.lt;clear m4 m5;change wpAnyH _ _ _ _ _ _ _ _ (ic Wp (w.heap.size+1) (iI y.n) (iI y.bits) (.slice A1 y.ops.length c1) (.slice A2 y.st.length c2) (.slice A3 y.fin.length c3));generalize ic Wp (w.heap.size+1) (iI y.n) (iI y.bits) (.slice A1 y.ops.length c1) (.slice A2 y.st.length c2) (.slice A3 y.fin.length c3)=Ws at*
 refine dn ?_;obtain ⟨⟨a0,a1,a2,a3⟩,-⟩:=aB m0;obtain ⟨⟨b0,b1,b2,b3,b4⟩,-⟩:=bG m1;clear m0 m1;go_wp2
 exact bR (v:=.tuple #[.agg #[iI x.n,iI x.kb,iI x.bits,.slice A x.ops.length cap],.agg #[iI y.n,iI y.bits,.slice A1 y.ops.length c1,.slice A2 y.st.length c2,.slice A3 y.fin.length c3]]) (by simp [results,results5,go_sem,a0,a1,a2,a3,b0,b1,b2,b3,b4]) rfl ⟨x,y,A,A1,A2,A3,cap,c1,c2,c3,rfl,VH.u,aqW.u.2.2.more (nZ Ol),HF.u.1,HF.u.2.1,HF.u.2.2,Br.u⟩
namespace fnReport
theorem Zh (A:OA) (n c:Nat) (w:World) (hn:n<=maxLen):
  Calls prog 4 #[.slice A n c] w fun e w'=>e=.returned (.bool (decide (1048576<n)))/\w=w':=by
 unfold maxLen at hn;go_enter func4,ntmps4;go_wp2;go_ret
 exact ⟨aT (by first|rfl|(rw [decide_eq_decide];omega)),rfl⟩
theorem gT:prog.globalNamed "internal/strconv.uint64pow10" =some 0:=by kernel_rfl
theorem agW:(prog.globals[0]?).map (·.type)=some 138:=af
theorem Zi {f g:Nat->Nat} (hf:∀k,k<3->f k<=1000000000) (hg:∀k,k<3->g k<=1000000000):(rep f g 3).size<=400:=by
 rw [<-JS];unfold spt;have a0:=dK _ (hf 0 aa);have a1:=dK _ (hf 1 aa);have a2:=dK _ (hf 2 aa);have b0:=dK _ (hg 0 aa);have b1:=dK _ (hg 1 aa);have b2:=dK _ (hg 2 aa);have e1:(⟨#[103,97,116,101,115,32]⟩:ByteArray).size=6:=rfl;have e2:(⟨#[32]⟩:ByteArray).size=1:=rfl;have e3:(⟨#[32,116,32]⟩:ByteArray).size=3:=rfl;have e4:(⟨#[32,116,119,111,32]⟩:ByteArray).size=5:=rfl;simp only [lL,e1,e2,e3,e4];omega
theorem Rv {a b c:Nat} (ha:a<=1000000000) (hb:b<=1000000000) (hc:c<=1000000000):∀k,k<3->pick a b c k<=1000000000:=by
 intro k _;unfold pick;split
 ·exact ha
 ·split
  ·exact hb
  ·exact hc
theorem walk (A:OA) (n c:Nat) (bs:List Int) (w:World) (h:Rd w w.heap.size 1 A n (IH bs)) (hm:n<=maxLen) (hw:Pow w):
  Calls prog 3 #[.slice A n c] w fun e w'=>e=.returned (.bool true)/\Ext w w':=by
 have HA:Hid (∀w',Ext w w'->Rd w' w'.heap.size 1 A n (IH bs)):=fun w' q=>h.ext q
 have HPW:Hid (∀w',Ext w w'->Pow w'):=fun w' q=>hw.ext q _ gT
 clear h hw;go_enter func3,ntmps3;go_wp2_with fail;refine (Zh A n c _ hm).mono ?_;rintro e wb ⟨rfl,rfl⟩
 by_cases hb:1048576<n
 ·have hbd:decide (1048576<n)=true:=xC hb;rw [hbd];go_wp2;go_ret
  exact ⟨rfl,xZ _⟩
 have hbd:decide (1048576<n)=false:=kP hb;rw [hbd];clear hbd;have hn:n<=1048576:=aa
 have HNN:=hY hn;clear hn hb hm;go_wp2_with fail;refine (Fp A n c bs _ (HA.u _ (xZ _)) HNN.u).mono ?_;rintro e w1 ⟨x,y,B,A1,A2,A3,d,c1,c2,c3,rfl,hR,hr,Zw,ZO,df,aS⟩;have dk:=hY aS;have HL:Hid (x.ops.length<=200/\y.ops.length<=50000000000/\(ai y.ops).length<=950000):=⟨Zw,ZO,df⟩;have HRT:Hid (∀w',Ext w1 w'->zj w' w'.heap.size (.agg #[iI x.n,iI x.kb,iI x.bits,.slice B x.ops.length d]) x):=fun w' q=>⟨B,d,rfl,hr.ext q⟩
 have HCM:Hid (∀w',Ext w1 w'->zc w' w'.heap.size (.agg #[iI y.n,iI y.bits,.slice A1 y.ops.length c1,.slice A2 y.st.length c2,.slice A3 y.fin.length c3]) y):=fun w' q=>⟨A1,A2,A3,c1,c2,c3,rfl,(hR.ext q).a,(hR.ext q).b,(hR.ext q).c⟩
 have HDX:Hid (∀w',Ext w1 w'->Rd w' w'.heap.size 8 B x.ops.length (aI x.ops)/\Rd w' w'.heap.size 8 A1 y.ops.length (aI y.ops)):=fun w' q=>⟨hr.ext q,hR.a.ext q⟩
 have lq:Hid (ay ((w1.alloc (cO #[iI x.n,iI x.kb,iI x.bits,.slice B x.ops.length d] 26)).alloc (cO #[iI y.n,iI y.bits,.slice A1 y.ops.length c1,.slice A2 y.st.length c2,.slice A3 y.fin.length c3] 29)) w1.heap.size 26 #[iI x.n,iI x.kb,iI x.bits,.slice B x.ops.length d]):=(ay.new _ _ _).alloc _;have FC:Hid (ay ((w1.alloc (cO #[iI x.n,iI x.kb,iI x.bits,.slice B x.ops.length d] 26)).alloc (cO #[iI y.n,iI y.bits,.slice A1 y.ops.length c1,.slice A2 y.st.length c2,.slice A3 y.fin.length c3] 29)) (w1.heap.size+1) 29 #[iI y.n,iI y.bits,.slice A1 y.ops.length c1,.slice A2 y.st.length c2,.slice A3 y.fin.length c3]):=ay.newAt ag;have X3:Hid (Ext w1 ((w1.alloc (cO #[iI x.n,iI x.kb,iI x.bits,.slice B x.ops.length d] 26)).alloc (cO #[iI y.n,iI y.bits,.slice A1 y.ops.length c1,.slice A2 y.st.length c2,.slice A3 y.fin.length c3] 29))):=((xZ _).alloc _).alloc _;clear aS hR hr Zw ZO df;go_upto_region 4 with fail;generalize (w1.alloc (cO #[iI x.n,iI x.kb,iI x.bits,.slice B x.ops.length d] 26)).alloc (cO #[iI y.n,iI y.bits,.slice A1 y.ops.length c1,.slice A2 y.st.length c2,.slice A3 y.fin.length c3] 29)=W3 at*
 generalize w1.heap.size=p at*
 -- the numbers of the report
 have SW:(ai x.ops).length<=x.ops.length:=by
  have:=eZ x.ops x.ops.length;rw [jt] at this
  exact this
 have NC:(ju (ai x.ops)).length<=15*(ai x.ops).length:=Bp _;have htx:gH (ju (ai x.ops))<=2*(ju (ai x.ops)).length:=by
  have h7:=dx (ri 7) (ju (ai x.ops));have h8:=dx (ri 8) (ju (ai x.ops));unfold gH;omega
 have hdx:=dx cS (ju (ai x.ops));have hty:gH (ai y.ops)<=2*(ai y.ops).length:=by
  have h7:=dx (ri 7) (ai y.ops);have h8:=dx (ri 8) (ai y.ops);unfold gH;omega
 have hdy:=dx cS (ai y.ops);have hl:=HL.u;obtain ⟨s,hs⟩:=ex (rep (pick (ju (ai x.ops)).length (gH (ju (ai x.ops))) (ei cS (ju (ai x.ops)))) (pick (ai y.ops).length (gH (ai y.ops)) (ei cS (ai y.ops))) 3);have pq:s.size<=400:=by rw [<-hs];exact Zi (Rv aa aa aa) (Rv aa aa aa)
 have hcut:(cut 32 s).length=9/\(cut 32 s).getD 1 ⟨#[]⟩=num (ju (ai x.ops)).length/\(cut 32 s).getD 2 ⟨#[]⟩=num (ai y.ops).length:=by
  rw [<-hs,abY]
  exact ⟨rfl,rfl,rfl⟩
 have HIF:Hid (∀w',Ext W3 w'->Calls prog 6 #[.agg #[iI x.n,iI x.kb,iI x.bits,.slice B x.ops.length d],.agg #[iI y.n,iI y.bits,.slice A1 y.ops.length c1,.slice A2 y.st.length c2,.slice A3 y.fin.length c3]] w' fun e w''=>e=.returned (.string s)/\Ext w' w''):=fun w' q=>by
  have h9:=rV _ _ x y w' (HRT.u _ (X3.u.trans q)) (HCM.u _ (X3.u.trans q)) aa aa aa (HPW.u _ (dk.u.trans (X3.u.trans q))) _ gT;rw [hs] at h9
  exact h9
 have Ke:Hid (∀w',Ext W3 w'->Calls prog 8 #[.agg #[iI x.n,iI x.kb,iI x.bits,.slice B x.ops.length d],.agg #[iI y.n,iI y.bits,.slice A1 y.ops.length c1,.slice A2 y.st.length c2,.slice A3 y.fin.length c3]] w' fun e w''=>e=.returned (.string s)/\Ext w' w''):=fun w' q=>by
  have h9:=rW _ _ x y w' (HRT.u _ (X3.u.trans q)) (HCM.u _ (X3.u.trans q)) aa aa aa;rw [hs] at h9
  exact h9
 have RU:Hid (∀w',Ext W3 w'->Calls prog 11 #[.slice B x.ops.length d] w' fun e w''=>∃v,e=.returned v/\w''.ownsRow w'.heap.size 56 8 v (aP x.ops).length (aI (aP x.ops))/\Ext w' w''):=fun w' q=>rG B _ d x.ops w' (HDX.u _ (X3.u.trans q)).1 aa
 have HGO:Hid (∀w',Ext W3 w'->Calls prog 10 #[.slice A1 y.ops.length c1] w' fun e w''=>∃v,e=.returned v/\w''.ownsRow w'.heap.size 54 4 v (ai y.ops).length (ak (ai y.ops))/\Ext w' w''):=fun w' q=>il A1 _ c1 y.ops w' (HDX.u _ (X3.u.trans q)).2 aa
 have hdo:(aP x.ops).length<=3000:=by
  have:=oc x.ops x.ops.length;rw [jt] at this;omega
 have HDO:=hY hdo;have hod:=sT x.ops;have HOD:=hY hod;obtain ⟨f0,xl⟩:=ex ((ju (ai x.ops)).length);obtain ⟨g0,ID⟩:=ex ((ai y.ops).length);rw [xl,ID] at hcut;have hf9:f0<=3000:=aa
 have hg9:g0<=950000:=aa
 have HF0:=hY xl;have BA:=hY ID;have FX:=hY hcut;clear SW NC htx hdx hty hdy hl hs hcut hdo hod xl ID HRT HCM HDX;have py:Hid (∀w',Ext W3 w'->((w'.cell? (aA p 0)=some (iI x.n)/\w'.cell? (aA p 1)=some (iI x.kb)/\w'.cell? (aA p 2)=some (iI x.bits)/\w'.cell? (aA p 3)=some (.slice B x.ops.length d))/\w'.cell? (aA (p+1) 0)=some (iI y.n)/\w'.cell? (aA (p+1) 1)=some (iI y.bits)/\w'.cell? (aA (p+1) 2)=some (.slice A1 y.ops.length c1)/\w'.cell? (aA (p+1) 3)=some (.slice A2 y.st.length c2)/\w'.cell? (aA (p+1) 4)=some (.slice A3 y.fin.length c3))):=fun w' q=>⟨(aB (lq.u.ext q)).1,(bG (FC.u.ext q)).1⟩
 obtain ⟨⟨a0,a1,a2,a3⟩,b0,b1,b2,b3,b4⟩:=py.u _ (xZ _);go_wp2_with fail;refine (HIF.u _ (xZ _)).mono ?_;rintro e w4 ⟨rfl,fe⟩;have X4:=hY fe;clear fe HIF a0 a1 a2 a3 b0 b1 b2 b3 b4;go_wp2_with fail;refine (vO s 32 32 rfl _ aa).mono ?_;rintro e w5 ⟨v5,rfl,jM,cN⟩;have X5:=hY (X4.u.trans cN);obtain ⟨A5,c5,rfl,Fx⟩:=au jM;obtain ⟨b,o,rfl,Kp,hys⟩:=Tp Fx (by rw [FX.u.1];omega);have HW:Hid (∀w',Ext w5 w'->w'.cell? (aA b (o+1))=some (.string (num f0))/\w'.cell? (aA b (o+2))=some (.string (num g0))):=fun w' q=>by
  have h1:=(q.cell (p:=(aA b (o+1))) Kp).trans (hys 1 (by rw [FX.u.1];omega)).2;have h2:=(q.cell (p:=(aA b (o+2))) Kp).trans (hys 2 (by rw [FX.u.1];omega)).2;rw [FX.u.2.1] at h1;rw [FX.u.2.2] at h2
  exact ⟨h1,h2⟩
 rw [FX.u.1];clear jM Fx hys Kp cN X4;have hss:=aqj s;have hsn:(!(s.toList==s.toList))=false:=by rw [hss];rfl
 obtain ⟨⟨a0,a1,a2,a3⟩,b0,b1,b2,b3,b4⟩:=py.u _ X5.u;go_wp2_with fail;refine (Ke.u _ X5.u).mono ?_;rintro e w6 ⟨rfl,mC⟩;have X6:=hY (X5.u.trans mC);have X56:=hY mC;clear mC Ke a0 a1 a2 a3 b0 b1 b2 b3 b4;obtain ⟨k1,k2⟩:=HW.u _ X56.u;go_wp2_with fail;refine (kW f0 aa _).mono ?_;rintro e w7 ⟨rfl,gJ⟩;have X7:=hY (X6.u.trans gJ);have X57:=hY (X56.u.trans gJ);clear gJ k1 k2 X6 X56;obtain ⟨k1,k2⟩:=HW.u _ X57.u;go_wp2_with fail;refine (kW g0 aa _).mono ?_;rintro e w8 ⟨rfl,zW⟩;have X8:=hY (X7.u.trans zW);clear zW k1 k2 X7 X57;obtain ⟨⟨a0,a1,a2,a3⟩,b0,b1,b2,b3,b4⟩:=py.u _ X8.u;have hq1:((f0:Int)==((ai (aP x.ops)).length:Int))=true:=by rw [HOD.u,HF0.u];exact beq_self_eq_true _
 have TL:((g0:Int)==((ai y.ops).length:Int))=true:=by rw [BA.u];exact beq_self_eq_true _
 go_wp2_with fail;refine (RU.u _ X8.u).mono ?_;rintro e w9 ⟨v9,rfl,AZ,tA⟩;obtain ⟨A9,c9,rfl,xr⟩:=au AZ;have X9:=hY (X8.u.trans tA);clear AZ tA a0 a1 a2 a3 b0 b1 b2 b3 b4;go_wp2_with fail;refine (il A9 _ c9 (aP x.ops) _ xr (oM HDO.u)).mono ?_;rintro e wa ⟨va,rfl,hoa,hxa⟩;obtain ⟨Aa,ca,rfl,hra⟩:=au hoa;have Xa:=hY (X9.u.trans hxa);clear hoa hra xr hxa;obtain ⟨⟨a0,a1,a2,a3⟩,b0,b1,b2,b3,b4⟩:=py.u _ Xa.u;go_wp2_with fail;refine (HGO.u _ Xa.u).mono ?_;rintro e wc ⟨vc,rfl,hoc,Ox⟩;obtain ⟨Ac,cc,rfl,hrc⟩:=au hoc;clear hoc hrc;go_wp2;go_ret
 exact ⟨rfl,dk.u.trans (X3.u.trans (Xa.u.trans Ox))⟩
theorem alY (W:World) (h:laidMetH prog Rows.fnReportRow.laid W):Pow W:=by
 rw [MakeChecks.laidMetH_plain _ _ _ af] at h
 exact Lib.tabIs_of_head gT agW underlying138 underlying122 af af (laidMet.tail (laidMet.tail h))
theorem met (os:Os) (args:Array Value):laidMetH prog Rows.fnReportRow.laid ((World.doorLaid prog 400 os).forCall (fun _ _=>0) ⟨#[],args,[]⟩).memory:=
 laidMetH_of_parts3 (fuel:=8) (laidMet_of_run' 8 af af) af af
theorem lifted (os:Os) (started:os.Started) (H:Type) (enc:TypeId ×Value->H):
  ReturnsInHanded {} checked os 3 .any (fun w args=>(Rows.fnReportSpec.pre enc prog Tryz.f3 [] false w args/\laidMetH prog Rows.fnReportRow.laid w)/\sizedMet enc prog Tryz.f3 (OpenSpec.ofChange Rows.fnReportSpec) false w args)
   (Rows.fnReportSpec.post enc prog Tryz.f3 false true false false):=by
 refine returnsInHanded_of_change_and (C:=checked) (X:=fun w _=>laidMetH prog Rows.fnReportRow.laid w) (fun _ _ _ hh h=>h.of_heap hh) own started af func3
  (ChangeSpec.witness_shaped (enc:=enc) (C:=checked) (os:=os) (X:=fun w _=>laidMetH prog Rows.fnReportRow.laid w) false (World.doorLaid prog 400 os) #[nS] 8 rfl (World.shaped_of_RefB af af) af af af (met os _)) ?_
 intro W base args ds gs before adL hW hcnd _ hL _;have hval:∀(j:Nat) t v,Tryz.f3.params[j]?=some t->args[j]?=some v->Value.okWide prog W .any base t v:=adL;have hW':=hW;obtain ⟨p,q,hA0,hV,rfl,PQ,ZQ⟩:=hW;have hA:DataW.TrodAll enc prog W 0 (fun _=>true) true Tryz.f3.params.toList args.toList ds p:=hA0;rw [params3] at hA hval;obtain ⟨v0,vs0,d0,ds0,p0,q0,PO,rfl,rfl,h0,r0⟩:=trodAll_cons hA;obtain ⟨rfl,rfl,rfl⟩:=trodAll_nil r0;obtain rfl:args=#[v0]:=by cases args;simp_all
 clear hV;clear hA0 adL PQ ZQ hcnd;have hPW:=alY W hL;clear hL;obtain ⟨A,n,c,bs,rfl,axL,axM,Hh,axN⟩:=KQ (hval 0 _ v0 rfl rfl) h0;refine (walk A n c bs W Hh aa hPW).mono fun e W' ⟨he,hx⟩=>?_
 subst he
 exact ⟨_,rfl,Ux rfl (by rw [params3];decide+kernel) rfl hW' rfl rfl rfl hx⟩
theorem over:Rows.FnReportSaid:=
 OpenClaim.holds_of_wide 3 Tryz.f3 rfl rfl rfl rfl rfl rfl rfl ⟨rfl,rfl,rfl,rfl,rfl⟩ rfl rfl rfl rfl rfl af func3 af
  (xD af) (by unfold Func.isWrapper;first|(rw [aX (by decide+kernel)];kernel_rfl)|(rw [aK (by decide+kernel)];exact ⟨rfl,rfl⟩))
  (fun os started H enc _=>lifted os started H enc)
theorem proved:Rows.FnReportCardSaid:=
 Claim7.holds_tied_plain_at .later [] [.data,.data,.data] true (true, "18dccccc11cde44d662a7ab2166988bb8f04549fc3c21932552bd1d71e4c6511") false
  over (fun _ h=>by cases h) af (fun _ h=>by cases h) fnReport_row_tie rfl ⟨rfl,rfl⟩ af rfl
  (fun f fn hf hfn=>by
   obtain rfl:f=3:=Option.some.inj ((show prog.funcNamed "loop.example/g00506/laws.FnReport" =some 3 by kernel_rfl).symm.trans hf)|>.symm
   obtain rfl:fn=Tryz.f3:=(nT (func3.symm.trans hfn)).symm
   exact ⟨af,fun j t ht=>by
    rw [params3] at ht;have hm:t∈[22]:=by simpa using Array.mem_of_getElem? ht
    have ZN:([22].all fun u=>!prog.wantsStandIn u)=true:=af
    exact (show prog.wantsStandIn t=false by simpa using kc.1 ZN t hm)⟩)
  af
#print axioms proved
end fnReport
end Go.Proofs.YtiajdbllccmokaaGreatDoor
