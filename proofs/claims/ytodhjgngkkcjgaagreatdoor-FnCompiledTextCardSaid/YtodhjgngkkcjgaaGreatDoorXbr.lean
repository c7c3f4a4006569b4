import Derived.Test.YtodhjgngkkcjgaaGreatDoorXbq
import Derived.Test.YtodhjgngkkcjgaaGreatDoorXbo
import Derived.Test.YtodhjgngkkcjgaaGreatDoorCards
import Derived.Test.YtodhjgngkkcjgaaGreatDoorTie
import Derived.LaidMore
import Derived.MakeChecks
import Derived.Stop.Joined
import Derived.Stop.LaidErr
import Derived.SevenTiedAt
import Derived.Lay
import Derived.LaidOnce
namespace Go.Proofs.YtodhjgngkkcjgaaGreatDoor
open Go.ChangeShapes Go.WideShapes Go.ChangeAt Go.RowKit Go.Deep Go.Proofs.Tryz
set_option linter.unusedVariables false
set_option linter.unusedSimpArgs false
set_option maxRecDepth 100000
set_option maxHeartbeats 16000000
theorem Th (x:Cm):(ctx x).size<=90000:=by
 unfold ctx;split
 ·rename_i h;obtain ⟨h1,_,h3,_,h5,_⟩:=xl h;have e1:(⟨#[111,110]⟩:ByteArray).size=2:=rfl;have e2:(⟨#[98,105,116,115,32]⟩:ByteArray).size=5:=rfl;have e3:(⟨#[97,116]⟩:ByteArray).size=2:=rfl;have e4:(⟨#[10]⟩:ByteArray).size=1:=rfl;have h9:∀l∈lines x,l.size<=20:=by
   intro l hl;unfold lines KP at hl;rw [iT,iT] at hl;rcases hl with (hl|hl)|hl
   ·rw [jw,oZ] at hl;rcases hl with rfl|rfl
    ·rw [fI,e1];omega
    ·rw [lL,e2,jT];omega
   ·obtain ⟨o,_,rfl⟩:=qH.1 hl;have:=RU o;omega
   ·rw [oZ] at hl;subst hl;rw [fI,e3];omega
  have h8:=Xe ⟨#[10]⟩ (lines x) 20 h9;have h7:=Ds x;have h6:(lines x).length*(20+(⟨#[10]⟩:ByteArray).size)<=1203*21:=CE aa aa;omega
 ·exact lJ _
def afv (w:World) (e:Ending) (w':World):Prop:=
 ∃(x:Cm) (A1 A2 A3:OA) (c1 c2 c3:Nat),e=.returned (.agg #[iI x.n,iI x.bits,.slice A1 x.ops.length c1,.slice A2 x.st.length c2,.slice A3 x.fin.length c3])/\fa w' A1 x.ops.length A2 x.st.length A3 x.fin.length x.ops x.st x.fin/\x.mid/\(x.st.length<=c2/\x.fin.length<=c3)/\Ext w w'
theorem Ti {w:World} {B n:Nat} {A:OA} {ps:List Int} (h:Rd w B 1 A n (aD ps)):ps.length=n:=by
 exact h.len bG aa
theorem aaI:(prog.info? 27).map (·.size)=some 5:=af
theorem KN {P:Prop} (h:P:=by
 obtain ⟨⟨b0,b1,b2,b3,b4⟩,y0,y1,y2,y3,y4⟩:=bM dv.u;go_wp2
 exact bJ (v:=.agg #[iI x.n,iI x.bits,.slice A1 x.ops.length c1,.slice A2 x.st.length c2,.slice A3 x.fin.length c3]) (pc rfl _ _ w.heap.size 27 #[iI x.n,iI x.bits,.slice A1 x.ops.length c1,.slice A2 x.st.length c2,.slice A3 x.fin.length c3] (0,0) _ rfl (dv.u.nQ (iI x.n) (iI x.bits) (.slice A1 x.ops.length c1) (.slice A2 x.st.length c2) (.slice A3 x.fin.length c3)) vQ rfl aaI) rfl ⟨x,A1,A2,A3,c1,c2,c3,rfl,jN.u.nM dv.u ae ae (iI x.n) (iI x.bits) (.slice A1 x.ops.length c1) (.slice A2 x.st.length c2) (.slice A3 x.fin.length c3),HM.u,HK.u,js eK.u (lI _) (iI x.n) (iI x.bits) (.slice A1 x.ops.length c1) (.slice A2 x.st.length c2) (.slice A3 x.fin.length c3)⟩):P:=h
theorem zy (Ab:OA) (nb cb0:Nat) (bs:List Int) (w:World) (h:Rd w w.heap.size 1 Ab nb (Gn bs)) (hn:nb<=1048576):
  Calls prog 14 #[.slice Ab nb cb0] w (afv w):=by
 have Xo:=hY h;clear h;have bW:Hid (au (w.alloc (cO jG 27)) w.heap.size 27 jG):=au.new _ _ _;go_enter func14,ntmps14;go_wp2_with fail;refine (Tg Ab nb cb0 bs _ (Xo.u.ext ((xZ w).alloc _)) hn).mono ?_;rintro e w1 ⟨cn,cb,A1,l1,c1,A2,l2,c2,A3,l3,c3,xs,ps,qs,N,I,B,A,len,cap,n,E,l,c,rfl,hR,hN,hx⟩;obtain rfl:xs.length=l1:=hR.a.len Oq.aG aa;obtain rfl:ps.length=l2:=Ti hR.b;obtain rfl:qs.length=l3:=Ti hR.c;obtain ⟨x,ka⟩:∃x:Cm,x=⟨cn,cb,xs,ps,qs⟩:=⟨_,rfl⟩;obtain ⟨rfl,rfl,rfl,rfl,rfl⟩:cn=x.n/\cb=x.bits/\xs=x.ops/\ps=x.st/\qs=x.fin:=by rw [ka];exact ⟨rfl,rfl,rfl,rfl,rfl⟩
 clear ka;have HM:Hid (x.mid):=⟨aa,aa,aa⟩;have HK:Hid (x.st.length<=c2/\x.fin.length<=c3):=⟨hN.2.2.2.1,hN.2.2.2.2⟩;have dv:Hid (au (((w1.alloc (cO #[iI x.n,iI x.bits,.slice A1 x.ops.length c1,.slice A2 x.st.length c2,.slice A3 x.fin.length c3] 27)).alloc (cO #[iI N,iI I,iI B,.slice A len cap] 60)).alloc (cO #[iI n,.slice E l c] 63)) w.heap.size 27 jG):=(((bW.u.ext hx).alloc _).alloc _).alloc _;have nT:Hid (au (((w1.alloc (cO #[iI x.n,iI x.bits,.slice A1 x.ops.length c1,.slice A2 x.st.length c2,.slice A3 x.fin.length c3] 27)).alloc (cO #[iI N,iI I,iI B,.slice A len cap] 60)).alloc (cO #[iI n,.slice E l c] 63)) w1.heap.size 27 #[iI x.n,iI x.bits,.slice A1 x.ops.length c1,.slice A2 x.st.length c2,.slice A3 x.fin.length c3]):=((au.new _ _ _).alloc _).alloc _;have jN:Hid (fa (((w1.alloc (cO #[iI x.n,iI x.bits,.slice A1 x.ops.length c1,.slice A2 x.st.length c2,.slice A3 x.fin.length c3] 27)).alloc (cO #[iI N,iI I,iI B,.slice A len cap] 60)).alloc (cO #[iI n,.slice E l c] 63)) A1 x.ops.length A2 x.st.length A3 x.fin.length x.ops x.st x.fin):=hR.ext ((((xZ _).alloc _).alloc _).alloc _);have eK:Hid (Ext w (((w1.alloc (cO #[iI x.n,iI x.bits,.slice A1 x.ops.length c1,.slice A2 x.st.length c2,.slice A3 x.fin.length c3] 27)).alloc (cO #[iI N,iI I,iI B,.slice A len cap] 60)).alloc (cO #[iI n,.slice E l c] 63))):=(((((xZ w).alloc _).trans hx).alloc _).alloc _).alloc _;have ba:w.heap.size<w1.heap.size:=(bW.u.ext hx).lt;clear hR hN hx bW;go_upto_region 2 with fail;generalize (((w1.alloc (cO #[iI x.n,iI x.bits,.slice A1 x.ops.length c1,.slice A2 x.st.length c2,.slice A3 x.fin.length c3] 27)).alloc (cO #[iI N,iI I,iI B,.slice A len cap] 60)).alloc (cO #[iI n,.slice E l c] 63))=W2 at*
 generalize w1.heap.size=s3 at*
 obtain ⟨⟨a0,a1,a2,a3,a4⟩,-⟩:=bM nT.u
 exact KN
theorem KO (Ab:OA) (nb cb0:Nat) (bs:List Int) (w:World) (h:Rd w w.heap.size 1 Ab nb (Gn bs)) (hn:nb<=1048576):
  Calls prog 5 #[.slice Ab nb cb0] w (afv w):=by
 have Xo:=hY h;clear h;have bW:Hid (au (w.alloc (cO jG 27)) w.heap.size 27 jG):=au.new _ _ _;go_enter func5,ntmps5;go_wp2_with fail;refine (zy Ab nb cb0 bs _ (Xo.u.ext ((xZ w).alloc _)) hn).mono ?_;rintro e w1 ⟨x,A1,A2,A3,c1,c2,c3,rfl,hR,hM,hK,hx⟩;have HM:=hY hM;have HK:=hY hK;have dv:Hid (au w1 w.heap.size 27 jG):=bW.u.ext hx;have jN:=hY hR;have eK:Hid (Ext w w1):=((xZ w).alloc _).trans hx;clear hR hM hK hx bW
 exact KN
theorem LP (Ab:OA) (nb cb0:Nat) (bs:List Int) (w:World) (h:Rd w w.heap.size 1 Ab nb (Gn bs)) (hn:nb<=1048576):
  Calls prog 11 #[.slice Ab nb cb0] w fun e w'=>(∃t:ByteArray,e=.returned (.string t)/\t.size<=200000)/\Ext w w':=by
 have Xo:=hY h;have HN:=hY hn;clear h hn;go_enter func11,ntmps11;go_wp2_with fail;refine (CM Ab nb cb0 bs _ Xo.u HN.u).mono ?_;rintro e w1 ⟨rfl,Yj,aK⟩;obtain ⟨g,Ql⟩:=ex (w.heap.size);rw [Ql] at Yj |-;have HGE:Hid (w.heap.size<=g):=CK Ql;clear Ql;go_wp2_with fail;refine (zy Ab nb cb0 bs _ (Xo.u.ext aK) HN.u).mono ?_;rintro e w2 ⟨x,A1,A2,A3,c1,c2,c3,rfl,hR,hM,hK,bz⟩;have DV:=Yj.ext bz;have eK:Hid (Ext w w2):=aK.trans bz;clear Yj aK bz;go_wp2_with fail;refine (gO A1 A2 A3 c1 c2 c3 x _ hR.a hR.b hR.c hK.1 hK.2 hM).mono ?_;rintro e w3 ⟨rfl,bO⟩;have jm:=Th x;obtain ⟨s,hs⟩:=ex (ctx x);rw [hs] at jm |-;clear hs;have ED:=DV.ext bO;have fD:Hid (Ext w w3):=eK.u.trans bO;clear hR hM hK DV bO eK;have di:=ED.lt;go_wp2_with fail;refine (Lg g s _ 6 6 [⟨#[32]⟩,⟨#[10]⟩,⟨#[48]⟩,⟨#[120,32,48]⟩,⟨#[10,104,32,48]⟩,⟨#[105,102,32,48,32]⟩] _ jm (ED.alloc _) (eC w3 _ _ _ 6 1 _ rfl rfl rfl) iu aa (by intro x hx;simp at hx;rcases hx with rfl|rfl|rfl|rfl|rfl|rfl<;>decide)).mono ?_;rintro e w4 ⟨t,rfl,ht,uW,zp⟩;go_wp2;go_ret
 exact ⟨⟨t,rfl,ht⟩,Ext.grown (fD.u.alloc _) zp (fun q hq=>by injection hq with hq;have:=HGE.u;omega)⟩
namespace fnCompiledText
theorem afw (A:OA) (n c:Nat) (w:World) (hn:n<=maxLen):
  Calls prog 4 #[.slice A n c] w fun e w'=>e=.returned (.bool (decide (1048576<n)))/\w=w':=by
 unfold maxLen at hn;go_enter func4,ntmps4;go_wp2;go_ret
 exact ⟨aI (by first|rfl|(rw [decide_eq_decide];omega)),rfl⟩
theorem am1 {y:Cm} (h:vC y=true):ctx y≠⟨#[]⟩:=by
 refine Dz (z:=y.ops.length+2) ?_ aa;rw [xN h,uq]
theorem am2 {x y:Cm} {k:Bool} (h:CR (ctx x) y k):k=!((ctx x).toList.isEmpty)/\(k=true->y=x):=by
 rcases h with ⟨rfl,hv,ht,hu⟩|⟨rfl,rfl,hn⟩
 ·have h0:=am1 hv;rw [ht] at h0;have hne:(ctx x).toList.isEmpty=false:=by
   cases e:(ctx x).toList.isEmpty
   ·rfl
   ·exact absurd ((sO _).1 e) h0
  rw [hne];refine ⟨rfl,fun _=>?_⟩
  cases hx:vC x
  ·exact absurd (PL hx) h0
  ·exact hu x hx rfl
 ·cases hx:vC x
  ·rw [PL hx,(sO _).2 rfl]
   exact ⟨rfl,fun h=>by cases h⟩
  ·exact absurd rfl (hn x hx)
theorem same {s:ByteArray} {o o':Cm} {k k':Bool} (h:CR s o k) (h':CR s o' k'):k=k'/\(k=true->ctx o=s):=by
 rcases h with ⟨rfl,hv,ht,hu⟩|⟨rfl,rfl,hn⟩
 ·rcases h' with ⟨rfl,hv',ht',_⟩|⟨rfl,rfl,hn'⟩
  ·exact ⟨rfl,fun _=>ht⟩
  ·exact absurd ht.symm (hn' o hv)
 ·rcases h' with ⟨rfl,hv',ht',_⟩|⟨rfl,rfl,hn'⟩
  ·exact absurd ht'.symm (hn o' hv')
  ·exact ⟨rfl,fun h=>by cases h⟩
theorem walk (A:OA) (n c:Nat) (bs:List Int) (w:World) (h:Rd w w.heap.size 1 A n (Gn bs)) (hm:n<=maxLen) (hw:PW w):
  Calls prog 3 #[.slice A n c] w fun e w'=>e=.returned (.bool true)/\Ext w w':=by
 have HA:Hid (∀w',Ext w w'->Rd w' w'.heap.size 1 A n (Gn bs)):=fun w' q=>h.ext q
 have sY:=hY hw;clear h hw;go_enter func3,ntmps3;go_wp2_with fail;refine (afw A n c _ hm).mono ?_;rintro e wb ⟨rfl,rfl⟩
 by_cases hb:1048576<n
 ·have hbd:decide (1048576<n)=true:=vP hb;rw [hbd];go_wp2;go_ret
  exact ⟨rfl,xZ _⟩
 have hbd:decide (1048576<n)=false:=lZ hb;rw [hbd];clear hbd;have hn:n<=1048576:=aa
 have HNN:=hY hn;clear hn hb hm;go_wp2_with fail;refine (KO A n c bs _ (HA.u _ (xZ _)) HNN.u).mono ?_;rintro e w1 ⟨x,A1,A2,A3,c1,c2,c3,rfl,hR1,hM,hK1,aK⟩;have cH:=hY aK;have HM:=hY hM;have dy:=hY hK1;have mC:Hid (∀w',Ext w1 w'->fa w' A1 x.ops.length A2 x.st.length A3 x.fin.length x.ops x.st x.fin):=fun w' q=>hR1.ext q
 have Mq:Hid (∀w',Ext w1 w'->tr w' w'.heap.size (.agg #[iI x.n,iI x.bits,.slice A1 x.ops.length c1,.slice A2 x.st.length c2,.slice A3 x.fin.length c3]) x):=fun w' q=>⟨A1,A2,A3,c1,c2,c3,rfl,(hR1.ext q).a,(hR1.ext q).b,(hR1.ext q).c⟩
 have B3:Hid (au (w1.alloc (cO #[iI x.n,iI x.bits,.slice A1 x.ops.length c1,.slice A2 x.st.length c2,.slice A3 x.fin.length c3] 27)) w1.heap.size 27 #[iI x.n,iI x.bits,.slice A1 x.ops.length c1,.slice A2 x.st.length c2,.slice A3 x.fin.length c3]):=au.new _ _ _;have X3:Hid (Ext w1 (w1.alloc (cO #[iI x.n,iI x.bits,.slice A1 x.ops.length c1,.slice A2 x.st.length c2,.slice A3 x.fin.length c3] 27))):=(xZ _).alloc _;clear aK hM hK1 hR1;go_upto_region 4 with fail;generalize w1.alloc (cO #[iI x.n,iI x.bits,.slice A1 x.ops.length c1,.slice A2 x.st.length c2,.slice A3 x.fin.length c3] 27)=W3 at*
 generalize w1.heap.size=p3 at*
 obtain ⟨⟨a0,a1,a2,a3,a4⟩,-⟩:=bM B3.u;go_wp2_with fail;refine (eF _ x _ (Mq.u _ X3.u) HM.u (sY.u.ext (cH.u.trans X3.u)).gn).mono ?_;rintro e w4 ⟨rfl,fy⟩;have X4:=hY fy;clear fy a0 a1 a2 a3 a4;have HS:Hid ((ctx x).size<=1048576):=lK (Th x) ae;obtain ⟨s,hs⟩:=ex (ctx x);rw [hs] at HS |-;have HSS:=hY hs;clear hs;have YA:=hH s;have hsn:(!(s.toList==s.toList))=false:=by rw [YA];rfl
 have Ye:Hid (x.ops.length<=2000000000000/\x.st.length<=2000000000000/\x.fin.length<=2000000000000):=HM.u;have hvv:∀b:Bool,(b==b)=true:=by intro b;cases b<;>rfl
 obtain ⟨vx,hvx⟩:=ex (vC x);have HVX:=hY hvx;clear hvx;have F4:Hid (∀w',Ext w4 w'->(w'.cell? (aA p3 0)=some (iI x.n)/\w'.cell? (aA p3 1)=some (iI x.bits)/\w'.cell? (aA p3 2)=some (.slice A1 x.ops.length c1)/\w'.cell? (aA p3 3)=some (.slice A2 x.st.length c2)/\w'.cell? (aA p3 4)=some (.slice A3 x.fin.length c3))):=fun w' q=>(bM (B3.u.ext (X4.u.trans q))).1
 obtain ⟨a0,a1,a2,a3,a4⟩:=F4.u _ (xZ _);go_upto_region 5 with fail
 go_region_held3 (fun W=>W.cell? (aA p3 0)=some (iI x.n)/\W.cell? (aA p3 1)=some (iI x.bits)/\W.cell? (aA p3 2)=some (.slice A1 x.ops.length c1)/\W.cell? (aA p3 3)=some (.slice A2 x.st.length c2)/\W.cell? (aA p3 4)=some (.slice A3 x.fin.length c3))
  (first|go_keep|exact F4.u _ aL)
  (first
   |(go_at_call 7;(with_reducible refine (gO A1 A2 A3 c1 c2 c3 x _ (mC.u _ (X3.u.trans (X4.u.trans (xZ w4).drew))).a (mC.u _ (X3.u.trans (X4.u.trans (xZ w4).drew))).b (mC.u _ (X3.u.trans (X4.u.trans (xZ w4).drew))).c dy.u.1 dy.u.2 HM.u).mono ?_);rintro e w5 ⟨rfl,cI⟩;rw [HSS.u];replace cI:Ext w4 w5:=(xZ w4).drew.trans cI)
   |(go_at_call 8;(with_reducible refine (gm A1 A2 A3 c1 c2 c3 x _ (mC.u _ (X3.u.trans (X4.u.trans cI))).a Ye.u.1 (mC.u _ (X3.u.trans (X4.u.trans cI))).b (mC.u _ (X3.u.trans (X4.u.trans cI))).c Ye.u.2.1 Ye.u.2.2).mono ?_);rintro e w6 ⟨rfl,oy⟩;rw [HVX.u];replace oy:Ext w4 w6:=cI.trans oy)
   |(go_at_call 9;(with_reducible refine (gl A1 A2 A3 c1 c2 c3 x _ (mC.u _ (X3.u.trans (X4.u.trans oy))).a Ye.u.1 (mC.u _ (X3.u.trans (X4.u.trans oy))).b (mC.u _ (X3.u.trans (X4.u.trans oy))).c Ye.u.2.1 Ye.u.2.2 dy.u.1 dy.u.2).mono ?_);rintro e w7 ⟨rfl,gG⟩;rw [HVX.u];replace gG:Ext w4 w7:=oy.trans gG))
 have X7:Hid (Ext w4 w7):=gG;clear cI oy gG a0 a1 a2 a3 a4;go_wp2_with fail;refine (ll s HS.u _ (sY.u.ext (cH.u.trans (X3.u.trans (X4.u.trans X7.u))))).mono ?_;rintro e w8 ⟨⟨v8,y,k,b1,b2,b3,rfl,hO8,-,arQ,hR8⟩,uH⟩;have HK:Hid (k=!(s.toList.isEmpty)/\(k=true->y=x)):=by
  have:=am2 (x:=x) (y:=y) (k:=k) (by rw [HSS.u];exact hR8);rw [HSS.u] at this
  exact this
 have am3:=hY arQ.mid;have xF:=hY hO8.at_;have X8:=hY uH;obtain ⟨E1,E2,E3,e1,e2,e3,rfl,-⟩:=id hO8;clear hO8 arQ hR8 uH;have HC8:Hid (∀w',Ext w8 w'->tr w' w'.heap.size (.agg #[iI y.n,iI y.bits,.slice E1 y.ops.length e1,.slice E2 y.st.length e2,.slice E3 y.fin.length e3]) y):=fun w' q=>(xF.u.up q (lI _)).more q.size
 have B9:Hid (au (w8.alloc (cO #[iI y.n,iI y.bits,.slice E1 y.ops.length e1,.slice E2 y.st.length e2,.slice E3 y.fin.length e3] 27)) w8.heap.size 27 #[iI y.n,iI y.bits,.slice E1 y.ops.length e1,.slice E2 y.st.length e2,.slice E3 y.fin.length e3]):=au.new _ _ _;have X9:Hid (Ext w8 (w8.alloc (cO #[iI y.n,iI y.bits,.slice E1 y.ops.length e1,.slice E2 y.st.length e2,.slice E3 y.fin.length e3] 27))):=(xZ _).alloc _;go_upto_region 8 with fail;generalize w8.alloc (cO #[iI y.n,iI y.bits,.slice E1 y.ops.length e1,.slice E2 y.st.length e2,.slice E3 y.fin.length e3] 27)=W9 at*
 generalize w8.heap.size=p9 at*
 have XA:Hid (Ext w W9):=cH.u.trans (X3.u.trans (X4.u.trans (X7.u.trans (X8.u.trans X9.u))));go_wp2_with fail;refine (LP A n c bs _ (HA.u _ XA.u) HNN.u).mono ?_;rintro e wa ⟨⟨t,rfl,ht⟩,hxa⟩;have HT:Hid (t.size<=1048576):=lK ht ae;have Xa:=hY hxa;clear ht hxa;go_wp2_with fail;refine (ll t HT.u _ (sY.u.ext (XA.u.trans Xa.u))).mono ?_;rintro e wc ⟨⟨vc,z,r,d1,d2,d3,rfl,hOc,-,arR,hRc⟩,WA⟩;have HRC:=hY hRc;have arS:=hY arR.mid;have HOC:=hY hOc.at_;have Xc:=hY WA;obtain ⟨F1,F2,F3,f1,f2,f3,rfl,-⟩:=id hOc;clear hOc arR hRc WA;have YV:Hid (∀w',Ext wc w'->tr w' w'.heap.size (.agg #[iI z.n,iI z.bits,.slice F1 z.ops.length f1,.slice F2 z.st.length f2,.slice F3 z.fin.length f3]) z):=fun w' q=>(HOC.u.up q (lI _)).more q.size
 have Bd:Hid (au (wc.alloc (cO #[iI z.n,iI z.bits,.slice F1 z.ops.length f1,.slice F2 z.st.length f2,.slice F3 z.fin.length f3] 27)) wc.heap.size 27 #[iI z.n,iI z.bits,.slice F1 z.ops.length f1,.slice F2 z.st.length f2,.slice F3 z.fin.length f3]):=au.new _ _ _;have Xd:Hid (Ext wc (wc.alloc (cO #[iI z.n,iI z.bits,.slice F1 z.ops.length f1,.slice F2 z.st.length f2,.slice F3 z.fin.length f3] 27))):=(xZ _).alloc _;go_upto_region 10 with fail;generalize wc.alloc (cO #[iI z.n,iI z.bits,.slice F1 z.ops.length f1,.slice F2 z.st.length f2,.slice F3 z.fin.length f3] 27)=Wd at*
 generalize wc.heap.size=pd at*
 go_wp2_with fail;refine (uv t HT.u _).mono ?_;rintro e wf ⟨⟨vf,z',r',g1,g2,g3,rfl,hOf,-,-,hRf⟩,hxf⟩;obtain ⟨G1,G2,G3,h1,h2,h3,rfl,-⟩:=id hOf;have HRR:Hid (r=r'/\(r=true->ctx z=t)):=same HRC.u hRf;obtain ⟨rfl,hrz⟩:=id HRR.u;have HRZ:=hY hrz;have Xf:=hY hxf;clear hOf hRf hxf hrz HRR;have Xg:Hid (Ext wf (wf.alloc (cO #[iI z'.n,iI z'.bits,.slice G1 z'.ops.length h1,.slice G2 z'.st.length h2,.slice G3 z'.fin.length h3] 27))):=(xZ _).alloc _;go_upto_region 11 with fail;generalize wf.alloc (cO #[iI z'.n,iI z'.bits,.slice G1 z'.ops.length h1,.slice G2 z'.st.length h2,.slice G3 z'.fin.length h3] 27)=W at*
 generalize wf.heap.size=pf at*
 have XC:Hid (Ext Wd W):=Xf.u.trans Xg.u;have XD:Hid (Ext W9 W):=Xa.u.trans (Xc.u.trans (Xd.u.trans XC.u));have XE:Hid (Ext w4 W):=X7.u.trans (X8.u.trans (X9.u.trans XD.u));have XF:Hid (Ext w W):=XA.u.trans XD.u;have hzt:=hH t;have EM:∀b:Bool,(b==b)=true:=hvv;obtain ⟨em,hem⟩:=ex (s.toList.isEmpty);have hk:=HK.u.1;rw [hem] at hk;subst hk
 cases em
 ·have HYX:=hY (HK.u.2 rfl);obtain ⟨a0,a1,a2,a3,a4⟩:=F4.u _ XE.u;obtain ⟨⟨b0,b1,b2,b3,b4⟩,-⟩:=bM (B9.u.ext XD.u);go_wp2_with fail;refine (tx _ _ x y _ (Mq.u _ (X3.u.trans (X4.u.trans XE.u))) (HC8.u _ (X9.u.trans XD.u)) ⟨HM.u.1,am3.u.1,HM.u.2.1,am3.u.2.1,HM.u.2.2,am3.u.2.2⟩).mono ?_;rintro e u1 ⟨rfl,hu1⟩;rw [show zB x y=true by rw [HYX.u];exact YG x];have U1:=hY hu1;clear hu1 a0 a1 a2 a3 a4 b0 b1 b2 b3 b4
  cases r
  ·go_wp2;go_ret
   exact ⟨rfl,XF.u.trans U1.u⟩
  ·obtain ⟨⟨d0,d1,d2,d3,d4⟩,-⟩:=bM (Bd.u.ext (XC.u.trans U1.u));go_wp2_with fail;refine (eF _ z _ (YV.u _ (Xd.u.trans (XC.u.trans U1.u))) arS.u (sY.u.ext (XF.u.trans U1.u)).gn).mono ?_;rintro e u3 ⟨rfl,hu3⟩;rw [HRZ.u trivial];go_wp2;go_ret
   exact ⟨rfl,XF.u.trans (U1.u.trans hu3)⟩
 ·cases r
  ·go_wp2;go_ret
   exact ⟨rfl,XF.u⟩
  ·obtain ⟨⟨d0,d1,d2,d3,d4⟩,-⟩:=bM (Bd.u.ext XC.u);go_wp2_with fail;refine (eF _ z _ (YV.u _ (Xd.u.trans XC.u)) arS.u (sY.u.ext XF.u).gn).mono ?_;rintro e u3 ⟨rfl,hu3⟩;rw [HRZ.u trivial];go_wp2;go_ret
   exact ⟨rfl,XF.u.trans hu3⟩
theorem gT:prog.globalNamed "internal/strconv.uint64pow10" =some 1:=by kernel_rfl
theorem am4:(prog.globals[1]?).map (·.type)=some 166:=af
theorem ajY: "*" ++ "errors.errorString" = "*errors.errorString" :=by decide
theorem arT (u:TypeId) (h:prog.typeName? 3 u=some "*errors.errorString"):u=216:=
 typeName_ptr_named (nm:= "errors.errorString") (by rw [ajY];kernel_rfl) (by kernel_rfl) (by decide) u (by rw [ajY];exact h)
theorem aw1 (W:World) (h:laidMetH prog Rows.fnCompiledTextRow.laid W) (hsh:W.ShapedOpen prog):PW W:=by
 rw [MakeChecks.laidMetH_plain _ _ _ af] at h;have h2:=laidMet.tail (laidMet.tail h);have h4:=laidMet.tail (laidMet.tail h2);have h5:=laidMet.tail h4;obtain ⟨_,_,Dk,_,_,_⟩:=laid_sentinel h4 (g:=6) (ti:=91) (tp:=216) (te:=218) (ts:=9) af af underlying91 arT underlying216 underlying218 rfl rfl zA af af;obtain ⟨_,_,hv2,_,_,_⟩:=laid_sentinel h5 (g:=5) (ti:=91) (tp:=216) (te:=218) (ts:=9) af af underlying91 arT underlying216 underlying218 rfl rfl zA af af;obtain ⟨m,hm⟩:=laysM146.s1_3 W hsh
 exact ⟨QG (Lib.laidMet.reads h (nr _ (nr _ (nr _ (nr _ (nr _ (nr _ rX))))))),
  Lib.tabIs_of_head gT am4 underlying166 underlying144 af af h2,
  ⟨_,m,af,hm⟩,BL (g:=5) af hv2,BL (g:=6) af Dk⟩
theorem met (os:Os) (args:Array Value):laidMetH prog Rows.fnCompiledTextRow.laid ((World.laidAll prog os Rows.fnCompiledTextRow.laid).forCall (fun _ _=>0) ⟨#[],args,[]⟩).memory:=by
 rw [MakeChecks.laidMetH_plain _ _ _ af]
 exact laidMet_laidAll _ af af
theorem lifted (os:Os) (started:os.Started) (H:Type) (enc:TypeId ×Value->H):
  ReturnsInHanded {} checked os 3 .any (fun w args=>(Rows.fnCompiledTextSpec.pre enc prog Tryz.f3 [] false w args/\laidMetH prog Rows.fnCompiledTextRow.laid w)/\sizedMet enc prog Tryz.f3 (OpenSpec.ofChange Rows.fnCompiledTextSpec) false w args)
   (Rows.fnCompiledTextSpec.post enc prog Tryz.f3 false true false false):=by
 refine Bv (C:=checked) (X:=fun w _=>laidMetH prog Rows.fnCompiledTextRow.laid w) (fun _ _ _ hh h=>h.of_heap hh) own started af func3
  (ChangeSpec.witness_shaped (enc:=enc) (C:=checked) (os:=os) (X:=fun w _=>laidMetH prog Rows.fnCompiledTextRow.laid w) false (World.laidAll prog os Rows.fnCompiledTextRow.laid) #[nS] 8 (World.laidAll_os _ _ _) (World.shaped_of_ZipB af af) af af af (met os _)) ?_
 intro W base args ds gs before ajZ hW hL hsh;have hval:∀(j:Nat) t v,Tryz.f3.params[j]?=some t->args[j]?=some v->Value.okWide prog W .any base t v:=ajZ;have hW':=hW;obtain ⟨p,q,hA0,hV,rfl,VL,hnd⟩:=hW;have hA:DataW.TrodAll enc prog W 0 (fun _=>true) true Tryz.f3.params.toList args.toList ds p:=hA0;rw [params3] at hA hval;obtain ⟨v0,vs0,d0,ds0,p0,q0,VK,rfl,rfl,h0,r0⟩:=trodAll_cons hA;obtain ⟨rfl,rfl,rfl⟩:=trodAll_nil r0;obtain rfl:args=#[v0]:=by cases args;simp_all
 obtain ⟨_,_,_,_,gd,_,rfl,_⟩:=trodVars_one hV;clear hV;clear hA0 ajZ VL hnd;have hPW:=aw1 W hL hsh;clear hL hsh;obtain ⟨A,n,c,bs,rfl,aDz,aDA,MC,aDB⟩:=QF (hval 0 _ v0 rfl rfl) h0;refine (walk A n c bs W MC aa hPW).mono fun e W' ⟨he,hx⟩=>?_
 subst he
 exact ⟨_,rfl,YC af (by rw [params3];decide+kernel) rfl hW' rfl rfl rfl hx⟩
theorem over:Rows.FnCompiledTextSaid:=
 OpenClaim.holds_of_wide 3 Tryz.f3 rfl rfl rfl rfl rfl rfl rfl ⟨rfl,rfl,rfl,rfl,rfl⟩ rfl rfl rfl rfl rfl af func3 af
  (DH af) (by unfold Func.isWrapper;first|(rw [aY (by decide+kernel)];kernel_rfl)|(rw [aM (by decide+kernel)];exact ⟨rfl,rfl⟩))
  (fun os started H enc _=>lifted os started H enc)
theorem proved:Rows.FnCompiledTextCardSaid:=
 Claim7.holds_tied_plain_at .later [] [.data,.data,.data,.data,.sentinel,.sentinel,.data,.pinned] true (true, "560da76785f487162c11922f7a47f8608708fa184821dc07dedbc1a48bfa255f") true
  over (fun _ h=>by cases h) af (fun _ h=>by cases h) fnCompiledText_row_tie rfl ⟨rfl,rfl⟩ af rfl
  (fun f fn hf hfn=>by
   obtain rfl:f=3:=Option.some.inj ((show prog.funcNamed "loop.example/g00506/laws.FnCompiledText" =some 3 by kernel_rfl).symm.trans hf)|>.symm
   obtain rfl:fn=Tryz.f3:=(kx (func3.symm.trans hfn)).symm
   exact ⟨af,fun j t ht=>by
    rw [params3] at ht;have hm:t∈[22]:=by simpa using Array.mem_of_getElem? ht
    have aga:([22].all fun u=>!prog.wantsStandIn u)=true:=af
    exact (show prog.wantsStandIn t=false by simpa using lq.1 aga t hm)⟩)
  af
#print axioms proved
end fnCompiledText
end Go.Proofs.YtodhjgngkkcjgaaGreatDoor
