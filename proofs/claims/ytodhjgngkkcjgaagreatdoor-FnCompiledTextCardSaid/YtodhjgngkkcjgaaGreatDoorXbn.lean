import Derived.Test.YtodhjgngkkcjgaaGreatDoorXbl
import Derived.Test.YtodhjgngkkcjgaaGreatDoorXbe
import Derived.Test.YtodhjgngkkcjgaaGreatDoorXbg
import Derived.Test.YtodhjgngkkcjgaaGreatDoorXbf
namespace Go.Proofs.YtodhjgngkkcjgaaGreatDoor
open Go.ChangeShapes Go.WideShapes Go.ChangeAt Go.RowKit Go.Deep Go.Proofs.Tryz
set_option linter.unusedVariables false
set_option linter.unusedSimpArgs false
set_option maxRecDepth 100000
set_option maxHeartbeats 16000000
theorem KH (gs:List Gt) (n:Int):(gJ gs n).length<=6*gs.length:=by
 unfold gJ;split
 ·rename_i h;have h1:=Nb (vn gs) 4;have h2:=KB (gs:=gs) (n:=n) gs.length (lI _) (by rw [pg];exact h);rw [pg] at h2;rw [aik] at h1;omega
 ·omega
def ReR (n:Int) (gs:List Gt) (R:Option (List Gt)):Prop:=(gs.all cL=false->R=none)/\∀ys,R=some ys->ys.length<=100
def Ym (R:Option (List Gt)):List (List Gt):=match R with|none=>[]|some ys=>[eP ys]
def afe (n:Int) (gs:List Gt) (xss:List (List Gt)):Prop:=∃R,ReR n gs R/\xss=[eP gs,eP (gx gs n),eP (gJ gs n)]++Ym R
def Yn (b x:List Gt):List Gt:=if aV x<aV b then x else b
def Eu (gs:List Gt) (xss:List (List Gt)):List Gt:=xss.foldl Yn gs
def aiu (n:Int) (gs out:List Gt):Prop:=∃xss,afe n gs xss/\out=Eu gs xss
theorem KI {gs:List Gt} {xss:List (List Gt)} {k:Nat} {x:List Gt} (h:xss[k]?=some x):Eu gs (xss.take (k+1))=Yn (Eu gs (xss.take k)) x:=by
 unfold Eu;rw [aS h,rZ];rfl
theorem Nh {n:Int} {gs:List Gt} {xss:List (List Gt)} (h:afe n gs xss) {B:Nat} (hB:6*gs.length<=B) (aDa:100<=B):xss.length<=4/\∀x∈xss,x.length<=B:=by
 obtain ⟨R,hR,rfl⟩:=h;refine ⟨by cases R<;>simp [Ym],fun x hx=>?_⟩;have h1:=BO gs;have h2:=BO (gx gs n);have h3:=Ea gs n;have h4:=BO (gJ gs n);have h5:=KH gs n;rcases iT.1 hx with hx|hx
 ·simp only [jw,TM,or_false] at hx;rcases hx with rfl|rfl|rfl<;>omega
 ·cases R with
  |none=>simp [Ym] at hx
  |some ys=>
   simp [Ym] at hx;subst hx;have h6:=BO ys;have h7:=hR.2 ys rfl;omega
structure WyS (w0 W:World) (Xw:OA) (m cw:Nat) (vs:List Value) (xss:List (List Gt)):Prop where
 o:W.ownsRow w0.heap.size 112 1 (.slice Xw m cw) m vs
 r:Rows w0 W W.heap.size vs xss
 l:xss.length=m
 x:Ext w0 W
theorem WyS.ext {w0 W W':World} {Xw:OA} {m cw:Nat} {vs:List Value} {xss:List (List Gt)} (h:WyS w0 W Xw m cw vs xss) (hx:Ext W W'):WyS w0 W' Xw m cw vs xss:=⟨aj h.o hx,(h.r.ext hx).more hx.size,h.l,h.x.trans hx⟩
theorem WyS.at_ {w0 W:World} {Xw:OA} {m cw:Nat} {vs:List Value} {xss:List (List Gt)} (h:WyS w0 W Xw m cw vs xss) {j:Nat} (hj:j<m):∃(g:Nat) (A:OA) (c:Nat) (x:List Gt),Xw=some ⟨g,0,none⟩/\xss[j]?=some x/\W.cell? (aA g j)=some (.slice A x.length c)/\W.ownsRow w0.heap.size 39 4 (.slice A x.length c) x.length (aq x):=by
 obtain ⟨g,u,hX,-,hv,hc,-⟩:=AK h.o hj;have hx:xss[j]?=some (xss[j]'(by rw [h.l];exact hj)):=lB _;obtain ⟨A,c,h1,h2,-⟩:=h.r.2 j _ hx;rw [hv] at h1
 cases h1
 exact ⟨g,A,c,_,hX,hx,hc,h2⟩
theorem xq (A:OA) (n c:Nat) (gs:List Gt) (N:Int) (w:World) (h:Rd w w.heap.size 4 A n (aq gs)) (hn:n<=40000000000) (hN:0<n->1<=N/\N<=4):
  Calls prog 128 #[.slice A n c,iI N] w fun e w'=>(∃(v:Value) (out:List Gt),e=.returned v/\aiu N gs out/\w'.ownsRow w.heap.size 39 4 v out.length (aq out))/\Ext w w':=by
 have cT:=hY (h.len Gt.aG aa);have HR:=hY h;clear h;go_enter func128,ntmps128;go_wp2_with fail;refine (Dn A n c gs N _ HR.u hn hN).mono ?_;rintro e w1 ⟨⟨v1,jf,rfl,eu⟩,aK⟩;obtain ⟨A1,c1,rfl,kG⟩:=ak eu;have WZ:=Ea gs N;rw [cT.u] at WZ;obtain ⟨l1,pR⟩:=ex ((gx gs N).length);have Qb:=hY pR;rw [pR] at kG WZ |-;have mC:=hY kG;have cH:=hY aK;clear eu kG aK pR;have HRA:=hY (HR.u.ext cH.u);go_wp2_with fail;refine (iL A n c gs _ HRA.u aa).mono ?_;rintro e w2 ⟨⟨v2,rfl,fg⟩,bz⟩;obtain ⟨A2,c2,rfl,-⟩:=ak fg;have eK:=hY (cH.u.trans bz);have vk:=hY (aC fg cH.u.size);have jN:=hY (mC.u.ext bz);clear fg bz HRA mC;go_wp2_with fail;refine (iL A1 l1 c1 (gx gs N) _ jN.u aa).mono ?_;rintro e w3 ⟨⟨v3,rfl,ie⟩,bO⟩;obtain ⟨A3,c3,rfl,-⟩:=ak ie;have fD:=hY (eK.u.trans bO);have art:=hY (aj vk.u bO);have mf:=hY (aC ie eK.u.size);clear ie bO jN vk;have HRA:=hY (HR.u.ext fD.u);go_wp2_with fail;refine (xp A n c gs N _ HRA.u aa).mono ?_;rintro e w4 ⟨⟨v4,rfl,uJ⟩,fy⟩;obtain ⟨A4,c4,rfl,YK⟩:=ak uJ;have hf4:=KH gs N;rw [cT.u] at hf4;obtain ⟨l4,hl4⟩:=ex ((gJ gs N).length);have HL4:=hY hl4;rw [hl4] at YK hf4 |-;have HR4:=hY YK;have qC:=hY (fD.u.trans fy);have amI:=hY (aj art.u fy);have amJ:=hY (aj mf.u fy);clear uJ fy YK hl4 HRA art mf;go_wp2_with fail;refine (iL A4 l4 c4 (gJ gs N) _ HR4.u aa).mono ?_;rintro e w5 ⟨⟨v5,rfl,kg⟩,cI⟩;obtain ⟨A5,c5,rfl,-⟩:=ak kg;have jP:=hY (qC.u.trans cI);have YP:=hY (((Rows.nil (w0:=w) (W:=w5) (B:=w5.heap.size)).snoc (aj amI.u cI) (fun g hg=>((aj amI.u cI).lt g hg).2)).snoc (aj amJ.u cI) (fun g hg=>((aj amJ.u cI).lt g hg).2)|>.snoc (aC kg qC.u.size) (fun g hg=>(kg.lt g hg).2));simp only [lN,DI] at YP;clear kg cI amI amJ HR4;go_upto_region 3 with fail;have HWY:Hid (WyS w (w5.alloc (cO #[.slice A2 (eP gs).length c2,.slice A3 (eP (gx gs N)).length c3,.slice A5 (eP (gJ gs N)).length c5] 112)) (some ⟨w5.heap.size,0,none⟩) 3 3 [.slice A2 (eP gs).length c2,.slice A3 (eP (gx gs N)).length c3,.slice A5 (eP (gJ gs N)).length c5] [eP gs,eP (gx gs N),eP (gJ gs N)]):=
  ⟨bS jP.u w5.heap.size 112 1 3 #[.slice A2 (eP gs).length c2,.slice A3 (eP (gx gs N)).length c3,.slice A5 (eP (gJ gs N)).length c5] _ rfl rfl rfl aa,(YP.u.ext ((xZ _).alloc _)).more ag,rfl,jP.u.alloc _⟩
 generalize w5.alloc (cO #[.slice A2 (eP gs).length c2,.slice A3 (eP (gx gs N)).length c3,.slice A5 (eP (gJ gs N)).length c5] 112)=W6 at*
 obtain ⟨vs0,aru⟩:∃vs0:List Value,vs0=[.slice A2 (eP gs).length c2,.slice A3 (eP (gx gs N)).length c3,.slice A5 (eP (gJ gs N)).length c5]:=⟨_,rfl⟩;rw [<-aru] at HWY;obtain ⟨gW,hgW⟩:=ex (w5.heap.size);rw [hgW] at HWY
 try rw [hgW]
 clear aru hgW YP cH eK fD qC jP;have HRB:=hY (HR.u.ext HWY.u.x);go_wp2_with fail;refine (wD A n c gs _ HRB.u aa).mono ?_;rintro e w7 ⟨rfl,gG⟩;have HW7:=hY (HWY.u.ext gG);clear HWY gG HRB;go_upto_if 28 with (fail)
 go_cut [7] (fun s7 wx=>∃(Xw:OA) (m cw:Nat) (vs:List Value) (xss:List (List Gt)),s7=.slice Xw m cw/\afe N gs xss/\WyS w wx Xw m cw vs xss)
 case first=>
  cases EN:gs.all cL
  ·go_wp2_with fail
   go_meet
   exact ⟨_,_,_,_,_,rfl,⟨none,⟨fun _=>rfl,fun ys h9=>by cases h9⟩,rfl⟩,HW7.u⟩
  ·have HCL:=hY EN;clear EN;have HRC:Hid (Rd w7 w7.heap.size 4 A gs.length (aq gs)):=by have h9:=HR.u.ext HW7.u.x;rw [cT.u];exact h9
   have HRE:Hid (∀w',Ext w7 w'->Calls prog 154 #[.agg #[iI N,.slice A n c]] w' fun e w''=>CiB w' 100 e w''/\Ext w' w''):=fun w' hx=>by
    have h9:=rP A c N gs w' (HRC.u.ext hx) jS;rw [cT.u] at h9
    exact h9
   go_wp2_with fail;refine (HRE.u _ (xZ _)).mono ?_;rintro e w8 ⟨⟨N8,L8,l8,c8,Yo,b8,rfl,ho8,hl8⟩,uH⟩;have HW8:=hY (HW7.u.ext uH);have HR8:=hY (Rd.own ho8);clear ho8 uH HRE HRC HW7;go_upto_region 5 with fail;have HW9:=hY (HW8.u.ext ((xZ w8).alloc (cO #[iI N8,.slice L8 l8 c8] 183)));have HR9:=hY (HR8.u.ext ((xZ w8).alloc (cO #[iI N8,.slice L8 l8 c8] 183)));have Fm:=hY (au.new w8 183 #[iI N8,.slice L8 l8 c8]);clear HW8 HR8;generalize w8.heap.size=gC at*
   generalize w8.alloc (cO #[iI N8,.slice L8 l8 c8] 183)=W9 at*
   cases b8
   ·go_wp2_with fail
    go_meet
    exact ⟨_,_,_,_,_,rfl,⟨none,⟨fun _=>rfl,fun ys h9=>by cases h9⟩,rfl⟩,HW9.u⟩
   ·obtain ⟨⟨b0,b1⟩,-⟩:=bu Fm.u;have HL8:Hid (Yo.length<=100):=by
     have h9:=HR9.u.len Gt.aG aa;unfold Hid;omega
    go_wp2_with fail;refine (iL L8 l8 c8 Yo _ HR9.u aa).mono ?_;rintro e qO ⟨⟨v10,rfl,amL⟩,wX⟩;obtain ⟨MQ,c10,rfl,-⟩:=ak amL;have aiv:=hY (HW9.u.ext (wX.alloc (cO #[.slice MQ (eP Yo).length c10] 112)));have SJ:Hid ((qO.alloc (cO #[.slice MQ (eP Yo).length c10] 112)).ownsRow w.heap.size 39 4 (.slice MQ (eP Yo).length c10) (eP Yo).length (aq (eP Yo))):=aC (amL.alloc _) HW9.u.x.size;have HRN:Hid (Rd (qO.alloc (cO #[.slice MQ (eP Yo).length c10] 112)) (qO.alloc (cO #[.slice MQ (eP Yo).length c10] 112)).heap.size 1 (some ⟨qO.heap.size,0,none⟩) 1 [.slice MQ (eP Yo).length c10]):=dZ qO _ 112 1 _ rfl rfl;clear amL wX HW9 HR9 Fm b0 b1;go_wp2_with (at_builtin;refine Pf (w0:=w) rfl _ _ rfl _ 3 vs0 rfl aiv.u.o aiv.u.x (.slice MQ (eP Yo).length c10) (MM _ _ _) qO.heap.size rfl HRN.u aa ?_;intro v11 w11 t1 t2 t3 t4;obtain ⟨A11,c11,rfl,-⟩:=ak t1;have awF:Hid (WyS w w11 A11 4 c11 (vs0++[.slice MQ (eP Yo).length c10]) ([eP gs,eP (gx gs N),eP (gJ gs N)]++[eP Yo])):=⟨t1,((aiv.u.r.snoc SJ.u (fun g hg=>(SJ.u.lt g hg).2)).grown aiv.u.o ae t3).more t3.size,rfl,t2⟩;clear t1 t2 t3 t4)
    go_meet
    exact ⟨_,_,_,_,_,rfl,⟨some Yo,⟨fun h9=>(by rw [HCL.u] at h9;cases h9),fun ys h9=>by cases h9;exact HL8.u⟩,rfl⟩,awF.u⟩
 case rest=>
  obtain ⟨Xw,m,cw,vs,xss,rfl,hwy,KT⟩:=hcut;have hwl:=Nh hwy (B:=240000000000) jS aa;have HWY:=hY hwy;have hm4:m<=4:=by rw [<-KT.l];exact hwl.1
  have HXL:=hY hwl.2;have bf:=hY KT;clear hwy KT hwl HW7 vs0;have HRD:=hY (HR.u.ext bf.u.x);go_upto_region 8 with (at_builtin;refine dm (w0:=wc) rfl _ _ rfl _ 0 [] rfl (aN wc wc _ 4 (xZ _)) ((xZ wc).alloc _) A n c gs rfl (HRD.u.ext ((xZ _).alloc _)) aa ?_;intro v9 w9 g1 g2 g3 g4;rw [lM,lN] at g1;obtain ⟨A9,c9,rfl,-⟩:=ak g1;have iD:=hY (aC g1 bf.u.x.size);have fh:=hY (bf.u.ext g2);clear g1 g2 g3 g4)
  clear bf HRD;have arw:Hid (w9.ownsRow w.heap.size 39 4 (.slice A9 gs.length c9) gs.length (aq gs)):=by rw [cT.u];exact iD.u
  have HLG:Hid (gs.length<=240000000000):=by rw [cT.u];unfold Hid;omega
  rw [<-cT.u];clear iD;go_wp2
  go_loopw [10,11] (fun bv iv wr=>∃(j:Nat) (vB:List Gt) (Ab:OA) (cb:Nat),j<=m/\bv=.slice Ab vB.length cb/\iv=iI j/\Hid (vB=Eu gs (xss.take j))/\Hid (vB.length<=240000000000)/\Hid (wr.ownsRow w.heap.size 39 4 (.slice Ab vB.length cb) vB.length (aq vB)/\Ext w9 wr)) (fun _ i _=>m - (intOf i).toNat)
  case atStart=>exact ⟨0,gs,A9,c9,lJ _,rfl,rfl,rfl,HLG,arw,xZ _⟩
  case round=>
   clear arw;obtain ⟨j,vB,Ab,cb,hj,rfl,rfl,HBE,HBL,HO⟩:=hrel;have Ll:=HBL.u
   by_cases hjm:j<m
   ·obtain ⟨g,Ax,cx,x,hXw,hx,hcx,hox⟩:=(fh.u.ext HO.u.2).at_ hjm;subst hXw;have hxl:=HXL.u x (lG hx);have HJ:=hY hjm;have HX:=hY hx;have HOX:=hY hox;have HRX:=hY (Rd.own hox);have HRB:=hY (Rd.own HO.u.1);have awI:=hY hxl;have dy:=hY (wC j aa);obtain ⟨lb,YX⟩:=ex (vB.length);have HLB:=hY YX;obtain ⟨lx,hlx⟩:=ex (x.length);have HLX:=hY hlx;rw [YX] at HRB Ll |-;rw [hlx] at HRX hcx hxl;clear hx hox YX hlx;go_wp2_with fail;refine (iH Ax lx cx x _ HRX.u aa).mono ?_;rintro e wq ⟨rfl,rfl⟩;go_wp2_with fail;refine (iH Ab lb cb vB _ HRB.u aa).mono ?_;rintro e wq ⟨rfl,rfl⟩
    by_cases Cs:aV x<aV vB
    ·have EH:decide ((aV x:Int)<(aV vB:Int))=true:=ai
     have KR:decide (aV x<aV vB)=true:=ai
     have HBN:Hid (Eu gs (xss.take (j+1))=x):=by unfold Hid;rw [KI HX.u,<-HBE.u];exact aY Cs
     go_wp2;go_roundw
     case rel=>exact ⟨j+1,x,Ax,cx,oM HJ.u,by rw [HLX.u],by first|rfl|rw [dy.u.1]|rw [dy.u.2],HBN.u.symm,awI,HOX.u,HO.u.2⟩
     case measure=>simp [intOf,dy.u.2];have:=HJ.u;omega
    ·have EH:decide ((aV x:Int)<(aV vB:Int))=false:=ai
     have KR:decide (aV x<aV vB)=false:=ai
     have HBN:Hid (Eu gs (xss.take (j+1))=vB):=by unfold Hid;rw [KI HX.u,<-HBE.u];exact aM Cs
     go_wp2;go_roundw
     case rel=>exact ⟨j+1,vB,Ab,cb,oM HJ.u,by rw [HLB.u],by first|rfl|rw [dy.u.1]|rw [dy.u.2],HBN.u.symm,HBL,HO⟩
     case measure=>simp [intOf,dy.u.2];have:=HJ.u;omega
   ·have VU:j=m:=aa
    subst VU;have HV:Hid (aiu N gs vB):=⟨xss,HWY.u,by rw [HBE.u,lE (by rw [fh.u.l];exact lI _)]⟩;go_wp2;go_ret
    exact ⟨⟨_,vB,rfl,HV.u,HO.u.1⟩,fh.u.x.trans HO.u.2⟩
def aaF (n:Int):Nat->List Gt->List Gt->Prop
 |0,cur,out=>∃xY,aiu n cur xY/\aV cur<=aV xY/\out=cur
 |k+1,cur,out=>∃xY,aiu n cur xY/\aV xY<aV cur/\aaF n k xY out
def EV (n:Int) (gs out:List Gt):Prop:=if (gs.all fun g=>vg g n)=true then ∃k,aaF n k gs out else out=gs
theorem xO (g:Gt):1<=fC g:=zl
theorem nO (gs:List Gt):gs.length<=aV gs:=by
 unfold aV
 induction gs with
 |nil=>simp
 |cons g gs ih=>have:=xO g;simp;omega
theorem Yp {n:Int}:∀{k:Nat} {cur out:List Gt},aaF n k cur out->aV out<=aV cur
 |0,_,_,⟨_,_,_,h⟩=>by rw [h];exact lI _
 |k+1,cur,out,⟨xY,_,h1,h2⟩=>oM (Yp h2)
theorem PV {n:Int} {gs out:List Gt} (h:EV n gs out):aV out<=aV gs:=by
 unfold EV at h;split at h
 ·obtain ⟨k,hk⟩:=h
  exact Yp hk
 ·rw [h];exact lI _
theorem ary {n:Int} {gs out:List Gt} (h:EV n gs out):out.length<=1000*gs.length:=by
 have h1:=PV h;have h2:=nO out;have h3:=Qz gs;omega
def Tc (W:World) (b k:Nat):Int:=match W.cell? (aA b k) with
 |some v=>intOf v
 |none=>0
def rdG (W:World) (v:Value):List Gt:=match v with
 | .slice (some a) n _=>(List.range n).map fun i=>⟨Tc W a.block (a.off+i*4),Tc W a.block (a.off+i*4+1),Tc W a.block (a.off+i*4+2),Tc W a.block (a.off+i*4+3)⟩
 |_=>[]
theorem afg {W:World} {B n c:Nat} {A:OA} {xs:List Gt} (h:Rd W B 4 A n (aq xs)):rdG W (.slice A n c)=xs:=by
 have hl:=h.len Gt.aG aa;rcases DF n with h0|h0
 ·subst h0;have:xs=[]:=Bm hl;subst this
  cases A<;>rfl
 ·obtain ⟨b,o,hA,-⟩:=h.2 h0;subst hA;apply FM;intro i
  by_cases hi:i<n
  ·obtain ⟨b2,o2,x,he,-,hx,c0,c1,c2,c3⟩:=bT h hi;simp only [iG,jR] at he;obtain ⟨rfl,rfl,-⟩:=he;show ((List.range n).map _)[i]?=_;rw [rY,List.getElem?_range hi,hx];simp only [TR,Tc,c0,c1,c2,c3,intOf]
  ·show ((List.range n).map _)[i]?=_;rw [rW ai,rW aa]
theorem ur (A:OA) (n c:Nat) (gs:List Gt) (N:Int) (w:World) (h:Rd w w.heap.size 4 A n (aq gs)) (hn:aV gs<=40000000000):
  Calls prog 106 #[.slice A n c,iI N] w fun e w'=>(∃(v:Value) (out:List Gt),e=.returned v/\EV N gs out/\w'.ownsRow w.heap.size 39 4 v out.length (aq out))/\Ext w w':=by
 have cT:=hY (h.len Gt.aG aa);have HR:=hY h;have DP:n<=40000000000:=oN (nO gs) cT.u
 clear h;go_enter func106,ntmps106;go_upto_region 2 with (at_builtin;refine dm (w0:=w) rfl _ _ rfl _ 0 [] rfl (aN w w _ 4 (xZ _)) ((xZ w).alloc _) A n c gs rfl (HR.u.ext ((xZ _).alloc _)) aa ?_;intro v1 w1 g1 g2 g3 g4;rw [lM,lN] at g1;obtain ⟨As,cs,rfl,-⟩:=ak g1;have SS:=hY g1;have cH:=hY g2;clear g1 g2 g3 g4)
 go_wp2
 go_loopw [6] (fun iv wr=>∃k:Nat,k<=n/\iv=iI k/\Hid ((gs.take k).all (fun g=>vg g N)=true)/\Hid (Ext w1 wr)) (fun i _=>n - (intOf i).toNat)
 case atStart=>exact ⟨0,lJ _,rfl,rfl,xZ _⟩
 case round=>
  obtain ⟨k,hk,rfl,FC,HXR⟩:=hrel
  by_cases ba:k<n
  ·obtain ⟨b,o,x,rfl,-,hx,x0,x1,x2,x3⟩:=bT (HR.u.ext (cH.u.trans HXR.u)) ba;have bZ:=hY ba;have wV:=hY hx;have dy:=hY (wC k aa);clear hx;go_wp2_with fail;refine (bn x N _).mono ?_;rintro e w5 ⟨rfl,cI⟩;have jP:=hY (HXR.u.trans cI);clear cI HXR x0 x1 x2 x3
   cases hv:vg x N
   ·have HV:Hid (EV N gs gs):=by
     unfold Hid EV;rw [aM];intro h9;rw [lq.1 h9 x (lG wV.u)] at hv
     cases hv
    go_wp2_with fail;go_ret
    exact ⟨⟨_,gs,rfl,HV.u,by rw [cT.u];exact aj SS.u jP.u⟩,cH.u.trans jP.u⟩
   ·have PJ:Hid ((gs.take (k+1)).all (fun g=>vg g N)=true):=Du (f:=fun g=>vg g N) wV.u FC.u hv;clear hv;go_wp2_with fail;go_roundw
    case rel=>exact ⟨k+1,oM bZ.u,by first|rfl|rw [dy.u.1]|rw [dy.u.2],PJ,jP⟩
    case measure=>simp [intOf,dy.u.2];have:=bZ.u;omega
  ·have jJ:k=n:=aa
   subst jJ;rw [lE il] at FC;have HCN:=hY hn;have HNB:Hid (∀cur:List Gt,aV cur<=aV gs->0<cur.length->1<=N/\N<=4):=fun cur h1 h2=>by
    have h3:=nO cur
    cases gs with
    |nil=>
      simp [aV] at h1;have:aV cur=0:=by unfold aV;omega
      omega
    |cons g r=>
     have h4:=lq.1 FC.u g (rX ..);have h5:=(qM h4).1
     exact h5
   have qx:Hid (wr.ownsRow w.heap.size 39 4 (.slice As gs.length cs) gs.length (aq gs)/\Ext w wr):=⟨by rw [cT.u];exact aj SS.u HXR.u,cH.u.trans HXR.u⟩;have HQ0:Hid (∀out,(∃k,aaF N k gs out)->EV N gs out):=fun out h9=>by
    unfold EV;rw [aY FC.u]
    exact h9
   rw [<-cT.u];clear SS HXR ba FC hk;go_wp2
   go_loopw [5] (fun v wr=>∃(cur:List Gt) (A':OA) (c':Nat),v=.slice A' cur.length c'/\aV cur<=aV gs/\Hid (wr.ownsRow w.heap.size 39 4 (.slice A' cur.length c') cur.length (aq cur)/\Ext w wr)/\Hid (∀out,(∃k,aaF N k cur out)->EV N gs out)) (fun v wr=>aV (rdG wr v))
   case atStart=>exact ⟨gs,As,cs,rfl,lI _,qx,HQ0⟩
   case round=>
    clear qx HQ0;obtain ⟨cur,A',c',rfl,hc,HD,HQ⟩:=hrel;have hcg:=nO cur;have Bl:=HCN.u;have YV:=hY hc;have HNC:=hY (HNB.u cur hc);have HRC:=hY (Rd.own HD.u.1);have HME:Hid (rdG wr (.slice A' cur.length c')=cur):=afg (Rd.own HD.u.1);obtain ⟨l,hl⟩:=ex (cur.length);have HL:=hY hl;rw [hl] at HRC HNC hcg |-;have qw:l<=40000000000:=aa
    clear hl hc;go_wp2_with fail;refine (xq A' l c' cur N _ HRC.u aa HNC.u).mono ?_;rintro e w3 ⟨⟨v3,xY,rfl,sg,ie⟩,bO⟩;obtain ⟨A3,c3,rfl,-⟩:=ak ie;have Xo:=hY sg;have mf:Hid (w3.ownsRow w.heap.size 39 4 (.slice A3 xY.length c3) xY.length (aq xY)/\Ext w w3):=⟨aC ie HD.u.2.size,HD.u.2.trans bO⟩;have HO:Hid (w3.ownsRow w.heap.size 39 4 (.slice A' cur.length c') cur.length (aq cur)):=aj HD.u.1 bO;have Bk:xY.length<=2000000000000:=by
     obtain ⟨xss,hw,he⟩:=sg;have hwl:=Nh hw (B:=240000000000) (oM HL.u) aa;have key:∀(yss:List (List Gt)) (b:List Gt),b.length<=240000000000->(∀x∈yss,x.length<=240000000000)->(Eu b yss).length<=240000000000:=by
      intro yss
      induction yss with
      |nil=>exact fun b hb _=>hb
      |cons y ys ih=>
       intro b hb hy;refine ih (Yn b y) ?_ (fun x hx=>hy x (nr _ hx));unfold Yn;split
       ·exact hy y (rX ..)
       ·exact hb
     rw [he];have:=key xss cur (oM HL.u) hwl.2;omega
    have Mp:=hY (Rd.own mf.u.1);have HRO:Hid (Rd w3 w3.heap.size 4 A' l (aq cur)):=by have h9:=Rd.own HO.u;rw [HL.u] at h9;exact h9
    obtain ⟨l3,CQ⟩:=ex (xY.length);have HL3:=hY CQ;rw [CQ] at Mp Bk |-;clear CQ sg ie bO HD HRC;go_wp2_with fail;refine (iH A3 l3 c3 xY _ Mp.u aa).mono ?_;rintro e wq ⟨rfl,rfl⟩;go_wp2_with fail;refine (iH A' l c' cur _ HRO.u aa).mono ?_;rintro e wq ⟨rfl,rfl⟩
    by_cases Cs:aV cur<=aV xY
    ·have EH:decide ((aV cur:Int)<=(aV xY:Int))=true:=ai
     have KR:decide (aV cur<=aV xY)=true:=ai
     have HV:Hid (EV N gs cur):=HQ.u cur ⟨0,xY,Xo.u,Cs,rfl⟩;go_wp2;go_ret
     exact ⟨⟨_,cur,rfl,HV.u,by have h9:=HO.u;rw [HL.u] at h9 |-;exact h9⟩,mf.u.2⟩
    ·have EH:decide ((aV cur:Int)<=(aV xY:Int))=false:=ai
     have KR:decide (aV cur<=aV xY)=false:=ai
     have Qf:Hid (aV xY<aV cur):=bN
     have oH:Hid (∀out,(∃k,aaF N k xY out)->EV N gs out):=fun out ⟨k,h9⟩=>HQ.u out ⟨k+1,xY,Xo.u,Qf.u,h9⟩
     go_wp2;clear Cs EH KR;go_roundw
     case rel=>exact ⟨xY,A3,c3,by rw [HL3.u],oN Qf.u YV.u,mf,oH⟩
     case measure=>
      rw [HL.u] at HME;rw [HME.u,afg Mp.u]
      exact Qf.u
def VA (N:Int) (xs:List Oq):Nat->Nat->List Oq->Prop
  |0,i,out=>i=0/\out=[]
  |s+1,i,out=>∃(j:Nat) (o:List Oq) (x:Oq),VA N xs s j o/\xs[j]?=some x/\
      (((x.k==1)=false/\i=j+1/\out=o++[x])\/
       ((x.k==1)=true/\i=cW xs x.cond (j+1)/\∃gs,EV N (aE ((xs.take i).drop j)) gs/\out=o++nU gs x.cond))
def afh (N:Int) (xs out:List Oq):Prop:=∃s,VA N xs s xs.length out
theorem gQ (xs ys:List Oq):aE (xs++ys)=aE xs++aE ys:=by unfold aE;rw [FK,qF]
theorem uu (gs:List Gt) (c:Int):aE (nU gs c)=gs:=by
  unfold aE nU
  induction gs with
  |nil=>rfl
  |cons g gs ih=>
    simp [gop] at ih |-
    exact ih
theorem iC (xs ys:List Gt):aV (xs++ys)=aV xs+aV ys:=by unfold aV;rw [qF,TS]
theorem Ev {xs:List Oq} {j i:Nat} (h:j<=i):aV (aE (xs.take j))+aV (aE ((xs.take i).drop j))=aV (aE (xs.take i)):=by
  rw [<-iC,<-gQ];have e:xs.take j=(xs.take i).take j:=by rw [List.take_take,Nat.min_eq_left h]
  rw [e,yj]
theorem PX {N:Int} {xs:List Oq}:∀{s i:Nat} {out:List Oq},VA N xs s i out->i<=xs.length/\aV (aE out)<=aV (aE (xs.take i))/\out.length<=aV (aE (xs.take i))+i
  |0,i,out,⟨h1,h2⟩=>by subst h1 h2;simp [aE,aV]
  |s+1,i,out,⟨j,o,x,h,hx,hs⟩=>by
    obtain ⟨h0,h1,h2⟩:=PX h;have hj:=(gu.1 hx).1;rcases hs with ⟨hk,rfl,rfl⟩|⟨hk,hi,gs,hg,rfl⟩
    · have e:aE [x]=[]:=by unfold aE;simp [hk]
      rw [gQ,e,yt,GH hx hk,lA];simp only [ki,yr];omega
    · have hle:=PV hg
      have uU:=nO gs;have hji:j+1<=i:=by rw [hi];exact Me _ _ _
      have hil:i<=xs.length:=by rw [hi];exact CS _ _ _ aa
      have hc:=Ev (xs:=xs) (j:=j) (i:=i) aa;rw [gQ,uu,iC,lA,kV];omega
theorem Cv {N:Int} {xs out:List Oq} (h:afh N xs out):aV (aE out)<=aV (aE xs)/\out.length<=aV (aE xs)+xs.length:=by
  obtain ⟨s,hs⟩:=h;have:=PX hs;rw [pg] at this
  exact this.2
theorem Bb {xs:List Oq} {j i:Nat}:aV (aE ((xs.take i).drop j))<=aV (aE xs):=by
  by_cases h:j<=i
  · have h1:=Ev (xs:=xs) h
    have h2:aV (aE (xs.take i))+aV (aE (xs.drop i))=aV (aE xs):=by rw [<-iC,<-gQ,yj]
    omega
  · rw [vI fW]
    simp [aE,aV]
theorem Ew:∀(xs:List Oq) (m:Nat),(aJ xs).take (m*8)=aJ (xs.take m)
  |[],m=>ag
  |x::xs,0=>ag
  |x::xs,m+1=>by
    have ih:=Ew xs m;rw [show (m+1)*8=m*8+8 by omega];simp only [aJ,jQ,yl] at ih |-;rw [TL,show (Oq.cells x).length=8 from rfl,lE (by show 8<=_;omega),show m*8+8 - 8=m*8 by omega,ih]
theorem Ex:∀(xs:List Oq) (m:Nat),(aJ xs).drop (m*8)=aJ (xs.drop m)
  |[],m=>ag
  |x::xs,0=>ag
  |x::xs,m+1=>by
    have ih:=Ex xs m;rw [show (m+1)*8=m*8+8 by omega];simp only [aJ,jQ,Np] at ih |-;rw [TN,show (Oq.cells x).length=8 from rfl,vI (by show 8<=_;omega),lN,show m*8+8 - 8=m*8 by omega,ih]
theorem aiw {w:World} {B n m:Nat} {A:OA} {xs:List Oq} (h:Rd w B 8 A n (aJ xs)) (hm:m<=n):Rd w B 8 A m (aJ (xs.take m)):=by
  rw [<-Ew]
  exact zJ h hm
theorem afi {w:World} {B n m b o:Nat} {xs:List Oq} (h:Rd w B 8 (some ⟨b,o,none⟩) n (aJ xs)) (hm:m<=n):Rd w B 8 (some ⟨b,o+m*8,none⟩) (n - m) (aJ (xs.drop m)):=by
  rw [<-Ex];refine ⟨?_,fun h0=>?_⟩
  · rw [lU,h.1];omega
  · obtain ⟨b',o',e,hb,hc⟩:=h.2 aa
    injection e with e;injection e with e1 e2;subst e1 e2;refine ⟨b,o+m*8,rfl,hb,fun j u hu=>?_⟩;rw [vK] at hu;have:=hc _ _ hu;rw [Nz]
    exact this
theorem nP (A:OA) (n c:Nat) (xs:List Oq) (N:Int) (w:World) (h:Rd w w.heap.size 8 A n (aJ xs)) (hn:n<=200000000000) (BP:n<=c) (hco:aV (aE xs)<=40000000000):
    Calls prog 84 #[.slice A n c,iI N] w fun e w'=>(∃(v:Value) (out:List Oq),e=.returned v/\afh N xs out/\w'.ownsRow w.heap.size 41 8 v out.length (aJ out))/\Ext w w':=by
  have cT:=hY (h.len Oq.aG aa);have HR:=hY h;have HCO:=hY hco;clear h hco;go_enter func84,ntmps84;have qx:Hid ((w.alloc (cO #[] 41)).ownsRow w.heap.size 41 8 (.slice (some ⟨w.heap.size,0,none⟩) 0 0) 0 (aJ [])/\Ext w (w.alloc (cO #[] 41))):=⟨aN w w _ 8 (xZ _),(xZ w).alloc _⟩;have HS0:Hid (VA N xs 0 0 []):=⟨rfl,rfl⟩;go_wp2
  go_loopw [5,6] (fun ov iv wr=>∃(i s:Nat) (out:List Oq) (Ao:OA) (co:Nat),i<=n/\iv=iI i/\ov=.slice Ao out.length co/\Hid (VA N xs s i out)/\Hid (wr.ownsRow w.heap.size 41 8 (.slice Ao out.length co) out.length (aJ out)/\Ext w wr)) (fun _ i _=>n - (intOf i).toNat)
  case atStart=>exact ⟨0,0,[],_,0,lJ _,rfl,rfl,HS0,qx⟩
  case round=>
    clear qx HS0;obtain ⟨i,s,out,Ao,co,hi,rfl,rfl,HS,HO⟩:=hrel;have hbd:=(PX HS.u).2.2;have hcb:aV (aE (xs.take i))<=40000000000:=by
      have h1:=Bb (xs:=xs) (j:=0) (i:=i);have h2:=HCO.u;rw [Bp] at h1;omega
    by_cases ba:i<n
    · obtain ⟨b,o,x,rfl,hb,hx,h0,h1,h2,h3,h4,h5,h6,h7⟩:=nB (HR.u.ext HO.u.2) ba
      have bZ:=hY ba;have wV:=hY hx;have dy:=hY (wC i aa);obtain ⟨lo,qe⟩:=ex (out.length);have Jl:=hY qe;rw [qe] at hbd |-;clear hx qe
      cases hk:(x.k==1)
      · have iM:(x.k !=1)=true:=by simp [bne,hk]
        have XT:Hid (wr.ownsRow w.heap.size 41 8 (.slice Ao lo co) lo (aJ out)):=by have h9:=HO.u.1;rw [Jl.u] at h9;exact h9
        have si:Hid (VA N xs (s+1) (i+1) (out++[x])):=⟨i,out,x,HS.u,wV.u,.inl ⟨hk,rfl,rfl⟩⟩;go_wp2_with (at_builtin;refine GA (w0:=w) rfl _ _ rfl _ _ out rfl XT.u HO.u.2 x _ _ rfl rfl aa ?_;intro v9 w9 t1 t2 t3 t4;obtain ⟨A9,c9,rfl,-⟩:=ak t1;have iD:=hY (lQ t1 t2);clear t1 t2 t3 t4)
        go_roundw
        case rel=>exact ⟨i+1,s+1,out++[x],A9,c9,oM bZ.u,by first|rfl|rw [dy.u.1]|rw [dy.u.2],by rw [lA,Jl.u];rfl,si,by rw [lA,Jl.u];exact iD⟩
        case measure=>simp [intOf,dy.u.2];have:=bZ.u;omega
      · have iM:(x.k !=1)=false:=by simp [bne,hk]
        have uU:=He wV.u hk;have HKB:Hid (i+1<=cW xs x.cond (i+1)/\cW xs x.cond (i+1)<=n):=⟨Me _ _ _,by have h9:=CS xs x.cond (i+1) (oM cT.u);rw [cT.u] at h9;exact h9⟩;obtain ⟨En,hK⟩:=ex (cW xs x.cond (i+1));have HKR:=hY hK;rw [hK] at uU HKB;have vG:=HKB;have HRG:=hY (HR.u.ext HO.u.2);clear hK HKB;go_wp2_with fail;refine (BK (some ⟨b,o,none⟩) n c xs (i:Int) _ HRG.u aa ⟨aa,aa⟩).mono ?_;rintro e w4 ⟨rfl,fy⟩;rw [uU];have qh:Hid (w4.ownsRow w.heap.size 41 8 (.slice Ao out.length co) out.length (aJ out)/\Ext w w4):=⟨aj HO.u.1 fy,HO.u.2.trans fy⟩;clear fy HO HRG h0 h1 h2 h3 h4 h5 h6 h7 uU;obtain ⟨wr,hwr⟩:∃W:World,W=w4:=⟨_,rfl⟩;subst hwr;have HO:=qh;clear qh;have HK:Hid (∀w',Ext w w'->w'.cell? (aA b (o+i*8+7))=some (iI x.cond)):=fun w' sr=>by
          obtain ⟨b2,o2,y,he,-,hy,-,-,-,-,-,-,-,y7⟩:=nB (HR.u.ext sr) bZ.u;simp only [iG,jR] at he;obtain ⟨rfl,rfl,-⟩:=he;rw [wV.u] at hy
          cases hy
          exact y7
        have hKn:=vG.u;have HRS:Hid (∀w',Ext w w'->Rd w' w'.heap.size 8 (some ⟨b,o+i*8,none⟩) (En - i) (aJ ((xs.take En).drop i))):=fun w' sr=>afi (aiw (HR.u.ext sr) aa) aa
        have KY:(i:Int)<=(En:Int):=aa
        have ao9:i<=En:=aa
        have hkc:(En:Int)<=(c:Int):=aa
        have aDk:En<=c:=aa
        have TW:(0:Int)<=(i:Int):=aa
        have lu:(0:Int)<=(En:Int):=aa
        have hci:¬(c=i):=aa
        have hKb:En<=200000000000:=aa
        clear hKn;go_upto_region 8 with fail;refine dt (S:=(fun w'=>w'.cell? (aA b (o+i*8+7))=some (iI x.cond))) af (HK.u _ HO.u.2.drew) (fun aEQ=>?_);refine tq 0 ?_;refine tq 1 ?_;refine tq 2 ?_;refine tq 3 ?_;refine tq 4 ?_;refine tq 6 ?_;refine tq 8 ?_;refine tq 9 ?_;refine tq 10 ?_;refine tq 11 ?_;refine tq 12 ?_;refine o1 5 fun K hK=>?_
        go_simp;have hrs:=HRS.u _ HO.u.2.drew;refine (mB _ (En - i) _ ((xs.take En).drop i) _ hrs aa).mono ?_;rintro e w5 ⟨v5,rfl,kg,cI⟩;obtain ⟨A5,c5,rfl,DX⟩:=ak kg;have jP:Hid (Ext wr w5):=Ext.trans (xZ wr).drew cI;have Ik:=hY DX;clear hrs kg DX cI;refine ov hK (HK.u _ (HO.u.2.trans jP.u)) fun aEQ=>?_
        refine o1 7 fun K hK=>?_
        go_simp;refine (ur A5 _ c5 (aE ((xs.take En).drop i)) N _ Ik.u (lK Bb HCO.u)).mono ?_;rintro e w6 ⟨⟨v6,gs,rfl,amN,vD⟩,oy⟩;obtain ⟨A6,c6,rfl,hr6⟩:=ak vD;have dL:Hid (Ext wr w6):=jP.u.trans oy;have wH:=hY hr6;have HOP:=hY amN;have di:gs.length<=40000000000:=by have h1:=PV amN;have h2:=nO gs;have h3:=Bb (xs:=xs) (j:=i) (i:=En);have h4:=HCO.u;omega
        clear vD hr6 oy amN Ik jP;refine ov hK (HK.u _ (HO.u.2.trans dL.u)) fun aEQ=>?_
        refine o1 13 fun K hK=>?_
        go_simp;refine (mA A6 gs.length c6 gs x.cond _ wH.u aa).mono ?_;rintro e w7 ⟨v7,rfl,DY,gG⟩;obtain ⟨A7,c7,rfl,Fq⟩:=ak DY;have fz:Hid (Ext wr w7):=dL.u.trans gG;have vh:=hY Fq;have HGL:=hY (kV gs x.cond);clear DY Fq gG wH dL;refine ov hK (HK.u _ (HO.u.2.trans fz.u)) fun aEQ=>?_
        refine o1 14 fun K hK=>?_
        have gH:=hY (aj HO.u.1 fz.u);refine NV (w0:=w) ah _ _ ah (.slice Ao lo co) lo out ah (by have h9:=gH.u;rw [Jl.u] at h9;exact h9) (HO.u.2.trans fz.u) A7 _ c7 _ ah vh.u (oM HGL.u) ?_;intro v9 w9 g1 g2 g3 g4;obtain ⟨A9,c9,rfl,-⟩:=ak g1;have iD:Hid (w9.ownsRow w.heap.size 41 8 (.slice A9 (lo+(nU gs x.cond).length) c9) (lo+(nU gs x.cond).length) (aJ (out++nU gs x.cond))/\Ext w w9):=⟨g1,g2⟩;clear g1 g2 g3 g4 gH vh fz;refine ov hK (HK.u _ iD.u.2) fun aEQ=>?_
        refine tq 15 ?_;refine dn ?_;clear aEQ HO;have si:Hid (VA N xs (s+1) En (out++nU gs x.cond)):=⟨i,out,x,HS.u,wV.u,.inr ⟨hk,HKR.u.symm,gs,HOP.u,rfl⟩⟩;go_wp2;go_roundw
        case rel=>exact ⟨En,s+1,out++nU gs x.cond,A9,c9,oM vG.u,rfl,by rw [lA,Jl.u],si,by rw [lA,Jl.u];exact iD⟩
        case measure=>simp [intOf];have:=vG.u;omega
    · have zG:i=n:=by omega
      subst zG;have HV:Hid (afh N xs out):=⟨s,by rw [cT.u];exact HS.u⟩;go_wp2;go_ret
      exact ⟨⟨_,out,rfl,HV.u,HO.u.1⟩,HO.u.2⟩
theorem eJ (g:Gt) (gs:List Gt):aV (g::gs)=fC g+aV gs:=by unfold aV;simp
theorem eG:aV []=0:=rfl
theorem atf {k a b c a' b' c':Int}:fC ⟨k,a,b,c⟩=fC ⟨k,a',b',c'⟩:=rfl
theorem VB (a:Int):fC (g1 4 a)=1:=rfl
theorem amO (a:Int):fC (g1 7 a)=1000:=rfl
theorem amP (a:Int):fC (g1 8 a)=1000:=rfl
theorem Cw (a b:Int):fC (hU a b)=10:=rfl
theorem DA {g:Gt} (h:9<=g.k/\g.k<=12):fC g=10:=by
 refine VP ai ai ?_;unfold ar;split
 ·omega
 ·split
  ·omega
  ·split<;>omega
theorem afj (g:Gt):aV (dec g)<=710*fC g/\aV (dec g)<=7100:=by
 have hp:=xO g;have hl:=Qy g
 cases h0:(g.k==10)
 ·cases h1:(g.k==11)
  ·cases h2:(g.k==12)
   ·rw [abG h0 h1 h2,eJ,eG];omega
   ·have hc:fC g=10:=DA (oM (eS.1 h2));rw [abF h0 h1 h2,hc];simp only [DI,lN,eJ,eG,VB,amO,amP,Cw];omega
  ·have hc:fC g=10:=DA (oM (eS.1 h1));rw [QI h0 h1,hc];simp only [eJ,eG,Cw];omega
 ·have hc:fC g=10:=DA (oM (eS.1 h0));rw [abE h0,hc];simp only [eJ,eG,Cw,VB];omega
theorem ln (o:Oq) (xs:List Oq):aE (o::xs)=aE [o]++aE xs:=gQ [o] xs
theorem xP {o:Oq} (h:(o.k==1)=true):aE [o]=[o.g]:=by unfold aE;simp [h]
theorem sV {o:Oq} (h:(o.k==1)=false):aE [o]=[]:=by unfold aE;simp [h]
theorem amQ (o:Oq):aV (aE (Bx o))<=710*aV (aE [o])/\aV (aE (Bx o))<=7100/\(Bx o).length<=15:=by
 unfold Bx
 cases h:(o.k==1)
 ·rw [aM ag,sV h];split
  ·simp [aE,aV]
  ·rw [sV h];simp [aV]
 ·rw [aY rfl,uu,xP h,eJ,eG,kV];have:=afj o.g;have:=xz o.g;omega
theorem xr:∀xs:List Oq,aV (aE (br xs))<=710*aV (aE xs)/\aV (aE (br xs))<=7100*xs.length/\(br xs).length<=15*xs.length
 |[]=>by simp [br,aE,aV]
 |o::xs=>by
  have h1:=amQ o;have h2:=xr xs;have e:br (o::xs)=Bx o++br xs:=rfl;rw [e,gQ,ln,iC,iC,lA,ki];omega
theorem afk {gs:List Gt} (h:∀g∈gs,9<=g.k/\g.k<=12):aV gs=10*gs.length:=by
 induction gs with
 |nil=>rfl
 |cons g gs ih=>
  rw [eJ,DA (h g (rX ..)),ih (fun x hx=>h x (nr _ hx)),ki];omega
theorem ajT:∀way:List Int,∀g∈lrL way,g.k=9
 |[],g,h=>by simp [lrL] at h
 |[_],g,h=>by simp [lrL] at h
 |[a,b],g,h=>by simp [lrL,hU] at h;subst h;rfl
 |a::b::c::r,g,h=>by
  have ih:=ajT (b::c::r);unfold lrL at h;rcases iT.1 h with h|h
  ·rcases jw.1 h with h|h
   ·subst h;rfl
   ·exact ih g h
  ·rcases jw.1 h with h|h
   ·subst h;rfl
   ·exact ih g h
theorem ajU (x:Gr) (a b:Int):∀(f:Nat) (now:List Int),∀g∈(AJ x a b f now).1,g.k=11
 |0,_,g,h=>by simp [AJ] at h
 |f+1,now,g,h=>by
  rw [AJ] at h;split at h
  ·rcases jw.1 h with h|h
   ·subst h;rfl
   ·exact ajU x a b f _ g h
  ·simp at h
theorem afl {x:Gr} {mode:Int} {g:Gt} {p:List Int} (hm:may g x p=true):aV (Kc x mode g p).1<=10*fC g:=by
 have hp:=xO g;have hlen:=Pv x mode g p
 cases h1:(ar g.k==1)
 ·have hk:g.k=9:=by
   unfold may Tq at hm;simp only [lF,Nw] at hm;rcases hm.1.2 with h|h
   ·rw [h1] at h;cases h
   ·exact eS.1 h
  have hc:fC g=10:=DA aa;have iM:∀h∈(Kc x mode g p).1,9<=h.k/\h.k<=12:=by
   intro h hh
   cases hmo:(mode==1)
   ·rw [Sy hmo,Ft hm h1] at hh;rcases iT.1 hh with hh|hh
    ·have:=ajU _ _ _ _ _ h hh;omega
    ·simp at hh;subst hh;show (9:Int)<=9/\(9:Int)<=12;omega
   ·rw [Sx hmo,ajt h1] at hh;unfold lr at hh;split at hh
    ·have:=ajT _ h hh;omega
    ·simp at hh
  rw [afk iM,hc];omega
 ·have e:(Kc x mode g p).1=[g1 g.k (loc p g.a)]:=by
   cases hmo:(mode==1)
   ·rw [Sy hmo,Fs hm h1]
   ·rw [Sx hmo,ajs h1]
  rw [e,eJ,eG];have:fC (g1 g.k (loc p g.a))=fC g:=rfl;omega
theorem Td (c:Int) (gs:List Gt):aE (gs.map (opW c))=gs:=by
 induction gs with
 |nil=>rfl
 |cons g gs ih=>
  rw [DL,ln,ih,xP rfl];rfl
theorem PY {x:Gr} {mode:Int}:∀(xs:List Oq) (now:List Int) (out:List Oq) (q:List Int),sN x mode xs now=some (out,q)->aV (aE out)<=10*aV (aE xs)/\out.length<=10*xs.length
 |[],now,out,q,h=>by
  simp [sN] at h;obtain ⟨rfl,rfl⟩:=h;simp [aE,aV]
 |o::r,now,out,q,h=>by
  unfold sN at h;rw [ln,iC,ki];split at h
  ·rename_i hk;split at h
   ·rename_i hm;rw [Nk] at h;obtain ⟨⟨o2,q2⟩,h2,h3⟩:=h;obtain ⟨h4,h5⟩:=PY r _ o2 q2 h2;simp only [Prod.mk.injEq] at h3;obtain ⟨rfl,rfl⟩:=h3;have h6:=afl (mode:=mode) hm;have h7:=Pv x mode o.g now;rw [gQ,Td,iC,xP hk,eJ,eG,lA,jK];omega
   ·cases h
  ·rename_i hk;have KQ:(o.k==1)=false:=sU hk
   split at h
   ·split at h
    ·rw [Nk] at h;obtain ⟨⟨o2,q2⟩,h2,h3⟩:=h;obtain ⟨h4,h5⟩:=PY r _ o2 q2 h2;simp only [Prod.mk.injEq] at h3;obtain ⟨rfl,rfl⟩:=h3;have e:aE [SA now o]=[]:=sV KQ;rw [ln,e,sV KQ,lN,eG,ki];omega
    ·cases h
   ·obtain ⟨h4,h5⟩:=PY r _ out q h;omega
theorem afm {x:Gr} {xs:List Oq} {p:List Int} {mode:Int} {out:List Oq} {q:List Int} (h:ER x xs p mode=some (out,q)):aV (aE out)<=10*aV (aE xs)/\out.length<=10*xs.length:=by
 unfold ER at h;split at h
 ·exact PY _ _ _ _ h
 ·cases h
theorem afn (x:Gr) (g:Gt):aV (Da x g)<=14/\(Da x g).length<=5:=by
 unfold Da;split
 ·simp [eJ,eG,Cw]
 ·simp [eJ,eG,Cw,VB]
theorem Te (x:Gr):∀gs:List Gt,aV (gs.flatMap (Da x))<=14*gs.length/\(gs.flatMap (Da x)).length<=5*gs.length
 |[]=>by simp [aV]
 |g::gs=>by
  have h1:=afn x g;have h2:=Te x gs;rw [jQ,iC,lA,ki];omega
theorem aaG (x:Gr) (g:Gt):aV (kI x g)<=5*fC g/\(kI x g).length<=15:=by
 have hp:=xO g;unfold kI;split
 ·rename_i ho;split
  ·rw [eJ,eG];simp;omega
  ·rename_i h1;unfold eU at ho;have hk:g.k=9\/g.k=11:=by
    simp only [lF,Nw] at ho;rcases ho.2 with h|h
    ·exact absurd h h1
    ·rcases h.2 with h|h
     ·exact .inl (eS.1 h)
     ·exact .inr (eS.1 h)
   have hc:fC g=10:=DA aa;have hd:(dec g).length<=3:=by
    rcases hk with hk|hk
    ·rw [abG fR fR fR];simp
    ·rw [QI fR fR];simp
   have:=Te x (dec g);omega
 ·rw [eG];simp
theorem arA (x:Gr) (o:Oq):aV (aE (Ly x o))<=5*aV (aE [o])/\(Ly x o).length<=15:=by
 unfold Ly;split
 ·rename_i h;have:=aaG x o.g;rw [uu,xP h,eJ,eG,kV];omega
 ·rename_i h;rw [sV (sU h),eG];simp
theorem Yq (x:Gr) (xs:List Oq):aV (aE (jg x xs))<=5*aV (aE xs)/\(jg x xs).length<=15*xs.length:=by
 have key:∀xs:List Oq,aV (aE (xs.flatMap (Ly x)))<=5*aV (aE xs)/\(xs.flatMap (Ly x)).length<=15*xs.length:=by
  intro xs
  induction xs with
  |nil=>simp [aE,aV]
  |cons o xs ih=>
   have h1:=arA x o;rw [jQ,gQ,ln,iC,iC,lA,ki];omega
 unfold jg;split
 ·exact key xs
 ·simp [aE,aV]
end Go.Proofs.YtodhjgngkkcjgaaGreatDoor
