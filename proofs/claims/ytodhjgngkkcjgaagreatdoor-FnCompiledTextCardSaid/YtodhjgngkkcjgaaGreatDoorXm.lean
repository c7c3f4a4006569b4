import Derived.Test.YtodhjgngkkcjgaaGreatDoorXg
namespace Go.Proofs.YtodhjgngkkcjgaaGreatDoor
open Go.ChangeShapes Go.WideShapes Go.ChangeAt Go.RowKit Go.Deep Go.Proofs.Tryz
set_option linter.unusedVariables false
set_option linter.unusedSimpArgs false
set_option maxRecDepth 100000
set_option maxHeartbeats 16000000
theorem akJ {w:World} {g t:Nat} {a0 a1 a2 a3 a4 a5 a6 a7:Value} (h:au w g t #[a0,a1,a2,a3,a4,a5,a6,a7]):(w.cell? (aA g 0)=some a0/\w.cell? (aA g 1)=some a1/\w.cell? (aA g 2)=some a2/\w.cell? (aA g 3)=some a3/\w.cell? (aA g 4)=some a4/\w.cell? (aA g 5)=some a5/\w.cell? (aA g 6)=some a6/\w.cell? (aA g 7)=some a7)/\w.frozen? (aA g 7)=false:=
 ⟨⟨h.cell 0,h.cell 1,h.cell 2,h.cell 3,h.cell 4,h.cell 5,h.cell 6,h.cell 7⟩,h.frozen 7⟩
theorem Ib {P:Prop} (h:P:=by
 clear k6 f6 k3 o0 o1 o2 o3 o4 o5 o6 o7 f7;go_roundw
 case rel=>exact ⟨k+1,I,B,A7,c7,_,aa,az,hI,YZ,HA.u.2⟩
 case measure=>simp [intOf];omega):P:=h
theorem zt (g bE:Nat) (hm:bE<=200) (w:World) (h:dQ w g):
  Calls prog 100 #[.pointer (some ⟨g,0,none⟩),iI bE] w (xC w g bE):=by
 have di:=h.lt;go_enter func100,ntmps100;go_wp2_with fail;refine (aT g 3 _ (h.alloc _) aa).mono ?_;rintro e w2 ⟨x,rfl,⟨cD,aK,_⟩,DV,zo⟩;obtain ⟨n0,rfl⟩:=lD cD;have bz:n0<3:=cN
 clear aK cD;have xQ:=(au.new w 60 #[iI 0,iI 0,iI 0,nS]).grown zo (fun k hk=>ay);have qw:=xQ.lt;have jW:w.grownBy w2 (some g):=cJ (((xZ w).alloc _).gr _) zo;clear zo;go_upto_region 3 with fail;obtain ⟨n,en,jX,Hj⟩:∃n:Nat,(1:Int)+(n0:Int)=(n:Int)/\1<=n/\n<=3:=⟨n0+1,aa,aa,aa⟩;rw [en];clear en;have hD:DR w (w2.alloc (cO #[iI n,iI n,iI 0,nS] 60)) g w2.heap.size n n 0 none 0 0 []:=
  ⟨xQ.alloc _,au.new _ _ _,⟨ag,.inl ⟨rfl,rfl⟩⟩,fun q hq=>by simp [Value.ownBlock] at hq,DV.alloc _,jY jW _⟩
 generalize w2.alloc (cO #[iI n,iI n,iI 0,nS] 60)=W at*
 generalize w2.heap.size=s at*
 have fA:g<s:=aa
 clear xQ jW DV;have HD:=hY hD;have hCW:=hD.cur;have hlW:=hD.lt;clear hD
 go_cut [22] (fun s22 wx=>∃bb:Bool,s22=.bool bb/\DR w wx g s n n 0 none 0 0 [])
 case first=>
  by_cases hn:1<n
  ·go_wp2_with fail;refine (gU g 4 _ hCW aa).mono ?_;rintro e w5 ⟨bb,rfl,kH,hZ⟩;go_wp2_with fail
   go_meet
   exact ⟨bb,rfl,HD.u.grown hZ kH fA di⟩
  ·go_wp2_with fail
   go_meet
   exact ⟨false,rfl,HD.u⟩
 case rest=>
  obtain ⟨bb,rfl,hD⟩:=hcut;clear HD hCW hlW;have CA:w.heap.size<s:=aa
  have HD:=hY hD;have hCW:=hD.cur;have hlW:=hD.lt;have i1:=hD.2.1.ck 1;have j1:=hD.2.1.frozen 1;clear hD;go_upto_if 22 with (fail)
  go_cut [] (fun wx=>∃I:Int,(0<=I/\I<=3)/\DR w wx g s n I 0 none 0 0 [])
  case first=>
   cases bb
   ·go_wp2_with fail
    go_meet
    exact ⟨n,aa,HD.u⟩
   ·go_wp2_with fail
    go_meet
    exact ⟨n - 1,aa,HD.u.ab2 _ rfl CA di⟩
  case rest=>
   clear i1 j1 HD hCW hlW;obtain ⟨I,hI,hD⟩:=hcut;go_wp2_with fail;refine (gU g 2 _ hD.cur aa).mono ?_;rintro e w6 ⟨at7,rfl,Bj,nR⟩;have hD6:=hD.grown nR Bj fA di;clear hD nR Bj;go_wp2_with fail;refine (aT g _ _ hD6.cur aa).mono ?_;rintro e w7 ⟨mm,rfl,⟨Oh,VS,_⟩,hC7,hG7⟩;obtain ⟨m,rfl⟩:=lD Oh;have hmm:m<=bE:=by have:=VS aa;omega
   have hD7:=hD6.grown hG7 hC7 fA di;clear VS Oh hD6 hG7 hC7;go_wp2
   go_loopw [9] (fun i wr=>∃(k:Nat) (I B:Int) (A:OA) (cap:Nat) (xs:List Oq),k<=m/\i=iI k/\(0<=I/\I<=3)/\(0<=B/\B<=2)/\DR w wr g s n I B A k cap xs) (fun i _=>m - (intOf i).toNat)
   case atStart=>exact ⟨0,I,0,none,0,[],lJ _,rfl,hI,aa,hD7⟩
   case round=>
    clear hD7 hI I;obtain ⟨k,I,B,A,cap,xs,hk,rfl,hI,YZ,hD⟩:=hrel;have HD:=hY hD;have hCW:=hD.cur;have hlW:=hD.lt;have i2:=hD.2.1.ck 2
    by_cases ba:k<m
    ·clear hD;go_upto_region 10 with fail
     go_cut [46] (fun s46 wx=>∃bb:Bool,s46=.bool bb/\(bb=true->B<2)/\DR w wx g s n I B A k cap xs)
     case first=>
      cases at7
      ·go_wp2_with fail
       go_meet
       exact ⟨false,rfl,ag,HD.u⟩
      ·by_cases xQ:B<2
       ·go_wp2_with fail;refine (gU g 4 _ hCW aa).mono ?_;rintro e w8 ⟨bb,rfl,hC8,hG8⟩;go_wp2_with fail
        go_meet
        exact ⟨bb,rfl,fun _=>xQ,HD.u.grown hG8 hC8 fA di⟩
       ·go_wp2_with fail
        go_meet
        exact ⟨false,rfl,ag,HD.u⟩
     case rest=>
      clear HD hCW hlW i2;obtain ⟨bb,rfl,zC,hD⟩:=hcut;have HD:=hY hD;have hCW:=hD.cur;have hlW:=hD.lt;have i2:=hD.2.1.ck 2;have i3:=hD.2.1.ck 3;have hCd:=hCW.ext (xZ wc).drew;clear hD
      cases bb
      ·clear zC;go_wp2_with fail;refine (zL g n aa _ hCW).mono ?_;rintro e w9 ⟨y,rfl,hC9,hG9⟩;have hD9:=HD.u.grown hG9 hC9 fA di;have hl9:=hD9.lt;go_upto_region 14 with fail;have hT:=au.new w9 41 #[iI 1,iI y.k,iI y.a,iI y.b,iI y.c,iI 0,iI 0,iI 0];have hDT:=hD9.alloc (cO #[iI 1,iI y.k,iI y.a,iI y.b,iI y.c,iI 0,iI 0,iI 0] 41);have hqT:∀q,(Value.slice A k cap).ownBlock=some q->q≠w9.heap.size:=fun q hq=>oM ((hD9.2.2.1.lt q hq).2)
       generalize w9.alloc (cO #[iI 1,iI y.k,iI y.a,iI y.b,iI y.c,iI 0,iI 0,iI 0] 41)=W0 at*
       generalize w9.heap.size=t at*
       have hts:t≠s:=aa
       have hwt:w.heap.size<t:=aa
       have HQT:=hY hqT;have HDT:=hY hDT;have hC0:=hDT.cur;have Tm:=hDT.lt;have i2':=hDT.2.1.ck 2;clear hqT hDT i2 i3 hCd HD hCW hlW hD9 hC9 hG9
       go_cut [72] (fun s72 wx=>∃bb:Bool,s72=.bool bb/\DR w wx g s n I B A k cap xs/\au wx t 41 #[iI 1,iI y.k,iI y.a,iI y.b,iI y.c,iI 0,iI 0,iI 0])
       case first=>
        by_cases dx:0<B
        ·go_wp2_with fail;refine (gU g 2 _ hC0 aa).mono ?_;rintro e qO ⟨bb,rfl,EF,wF⟩;go_wp2_with fail
         go_meet
         exact ⟨bb,rfl,HDT.u.grown wF EF fA di,hT.grown wF (fun k hk=>ay)⟩
        ·go_wp2_with fail
         go_meet
         exact ⟨false,rfl,HDT.u,hT⟩
       case rest=>
        clear HDT hC0 Tm i2' hT;obtain ⟨bb,rfl,hD,hT⟩:=hcut;have HD:=hY hD;have hC0:=hD.cur;have Tm:=hD.lt;have i2:=hD.2.1.ck 2;clear hD
        cases bb
        ·obtain ⟨W1,rfl⟩:∃W1:World,W1=wc:=⟨_,rfl⟩;have Eb:=HD;have hT1:=hT;clear HD hT i2 hC0 Tm;have k3:=Eb.u.2.1.ck 3;have pR:=Eb.u.lt;obtain ⟨⟨o0,o1,o2,o3,o4,o5,o6,o7⟩,f7⟩:=akJ hT1;go_wp2_with (at_builtin;refine ab0 (B:=w.heap.size+1) rfl _ _ rfl _ k xs rfl Eb.u.2.2.1 aa ⟨1,y,0,0,0⟩ _ _ rfl rfl aa ?_;intro A7 c7 w7 DY hg7 Mc;have HA:=hY (Eb.u.app CA di DY hg7 Mc);have k6:w7.cell? (aA s 3)=some (.slice A k cap):=HA.u.1.cell 3;have f6:w7.frozen? (aA s 3)=false:=HA.u.1.frozen 3)
         exact Ib
        ·go_wp2_with fail;refine (aT g B _ hC0 aa).mono ?_;rintro e qO ⟨z,rfl,⟨fH,iV,kz⟩,EF,wF⟩;have hz3:z<=2:=by
          by_cases dx:0<B
          ·have:=iV dx;omega
          ·have:=kz aa;omega
         clear iV kz;have apc:=HD.u.grown wF EF fA di;have ag4:=hT.grown wF (fun k hk=>ay);have aAT:=ag4.lt;obtain ⟨⟨o0,o1,o2,o3,o4,o5,o6,o7⟩,f7⟩:=akJ ag4;go_upto_region 16 with fail;clear o0 o1 o2 o3 o4 o5 o6 o7 f7;have Eb:=hY (apc.cB (j:=7) (iI (1+z)) hts hwt di HQT.u);have hT1:au (qO.setCell (aA t 7) (iI (1+z))) t 41 #[iI 1,iI y.k,iI y.a,iI y.b,iI y.c,iI 0,iI 0,iI (1+z)]:=ag4.aU 7 _;generalize qO.setCell (aA t 7) (iI (1+z))=W1 at*
         clear HD hT i2 hC0 Tm apc ag4;have k3:=Eb.u.2.1.ck 3;have pR:=Eb.u.lt;obtain ⟨⟨o0,o1,o2,o3,o4,o5,o6,o7⟩,f7⟩:=akJ hT1;go_wp2_with (at_builtin;refine ab0 (B:=w.heap.size+1) rfl _ _ rfl _ k xs rfl Eb.u.2.2.1 aa ⟨1,y,0,0,(1+z)⟩ _ _ rfl rfl aa ?_;intro A7 c7 w7 DY hg7 Mc;have HA:=hY (Eb.u.app CA di DY hg7 Mc);have k6:w7.cell? (aA s 3)=some (.slice A k cap):=HA.u.1.cell 3;have f6:w7.frozen? (aA s 3)=false:=HA.u.1.frozen 3)
         exact Ib
      ·have xQ:=zC rfl;clear zC;go_wp2
       go_region_law (first
        |(go_simp;go_at_call 51;(with_reducible refine (aT g n _ hCd aa).mono ?_);rintro e w8 ⟨z,rfl,⟨fH,iV,kz⟩,hC8,hG8⟩;have Za:=hY (HD.u.drew.grown hG8 hC8 fA di);have hl8:=Za.u.lt;have k2:w8.cell? (aA s 2)=some (iI B):=Za.u.2.1.cell 2;have k3:w8.cell? (aA s 3)=some (.slice A k cap):=Za.u.2.1.cell 3)
        |(refine Oa (B:=w.heap.size+1) ah _ _ ah _ k xs ah Za.u.2.2.1 aa ⟨2,⟨0,0,0,0⟩,z,B,0⟩ _ _ ah ah aa ?_;intro A4 c4 w9 uJ Fa hb4;have HA:=hY (Za.u.app CA di uJ Fa hb4);have k6:w9.cell? (aA s 3)=some (.slice A k cap):=HA.u.1.cell 3;have f6:w9.frozen? (aA s 3)=false:=HA.u.1.frozen 3))
       all_goals
        clear k6 f6 k2 k3 i2 i3;have Cz:=hY HA.u.2;have k2:=Cz.u.2.1.ck 2;have f2:=Cz.u.2.1.frozen 2;generalize w9.setCell (aA s 3) (.slice A4 (k+1) c4)=W1 at*
        go_wp2;go_roundw
        case rel=>exact ⟨k+1,I,B+1,A4,c4,_,aa,az,hI,aa,Cz.u.ab2 _ rfl CA di⟩
        case measure=>simp [intOf];omega
    ·obtain ⟨⟨b0,b1,b2,b3⟩,z0,z1,z2,z3⟩:=dJ hD.2.1;obtain ⟨⟨a0,a1,a2,a3⟩,y0,y1,y2,y3⟩:=dJ hD.1;clear hD i2;go_wp2
     exact bJ (v:=.agg #[iI n,iI I,iI B,.slice A k cap]) (QX rfl HD.u.1 (iI n) (iI I) (iI B) (.slice A k cap) _ rfl) rfl (HD.u.aoI di aa aa)
theorem Oi (g bE:Nat) (hm:bE<=200) (w:World) (h:dQ w g):
  Calls prog 100 #[.pointer (some ⟨g,0,none⟩),iI bE] w (BJ w g bE):=(zt g bE hm w h).mono fun _ _ h=>h.loose
def Ic (w:World) (s:Nat):Nat:=match w.cell? (aA s 3) with|some (.slice _ n _)=>n|_=>0
theorem Ie {w:World} {s t:Nat} {a b c:Value} {A:OA} {n cap:Nat} (h:au w s t #[a,b,c,.slice A n cap]):Ic w s=n:=by
 have:w.cell? (aA s 3)=some (.slice A n cap):=h.cell 3;unfold Ic;rw [this]
theorem Ig {P:Prop} (h:P:=by
 have HD:=hY HA.u.2;generalize w9.setCell (aA s 3) (.slice A9 (len+1) c9)=W6 at*
 obtain ⟨⟨b0,b1,b2,b3⟩,z0,z1,z2,z3⟩:=dJ HD.u.2.1;obtain ⟨⟨a0,a1,a2,a3⟩,y0,y1,y2,y3⟩:=dJ HD.u.1;go_wp2
 exact bJ (v:=.agg #[iI N,iI I,iI B,.slice A9 (len+1) c9]) (QX rfl HD.u.1 (iI N) (iI I) (iI B) (.slice A9 (len+1) c9) _ rfl) rfl (HD.u.done di aa aa)):P:=h
theorem Rq (g bE:Nat) (hm:bE<=200) (w:World) (h:dQ w g):
  Calls prog 78 #[.pointer (some ⟨g,0,none⟩),iI bE] w (BJ w g (bE+121)):=by
 have di:=h.lt;go_enter func78,ntmps78;go_wp2_with fail;refine (Oi g bE hm _ (h.alloc _)).mono ?_;rintro e w3 ⟨N,I,B,A,len,cap,xs,rfl,hN,hlen,ie,ED,Lm⟩;obtain ⟨hN0,hN1,hI0,hI1,dx,qA⟩:=hN;have KW:=(au.new w 60 #[iI 0,iI 0,iI 0,nS]).grown Lm (fun k hk=>ay);have CQ:=KW.lt;have KS:w.grownBy w3 (some g):=cJ (((xZ w).alloc _).gr _) Lm;have hD:DR w (w3.alloc (cO #[iI N,iI I,iI B,.slice A len cap] 60)) g w3.heap.size N I B A len cap xs:=
  ⟨KW.alloc _,au.new _ _ _,aj (aC ie ag) ((xZ w3).alloc _),NY (aC ie ag) (lI _),ED.alloc _,jY KS _⟩
 clear KW Lm KS ie;go_wp2_with fail;refine (aT g 14 _ (ED.alloc _) aa).mono ?_;rintro e w4 ⟨x,rfl,⟨cD,aK,_⟩,uW,zp⟩;have bz:=aK aa;clear aK;have fA:=ED.lt;have Oj:=hD.grown zp uW fA di;clear hD zp ED;generalize w3.heap.size=s at*
 have CA:w.heap.size<s:=aa
 have hl4:=Oj.lt;have wG:=hY Oj;obtain ⟨⟨c0,c1,c2,c3⟩,x0,x1,x2,x3⟩:=dJ Oj.2.1;clear Oj
 by_cases e0:x=0
 ·subst e0;go_wp2_with fail;refine (dY g _ 4 _ [0,1,4,5] _ (uW.alloc _) (eC w4 _ _ _ 4 1 _ rfl rfl rfl) iu aa).mono ?_;rintro e w5 ⟨z,rfl,hz,kH,hZ⟩;have kz:0<=z/\z<=5:=fS
  have Ff:=(wG.u.alloc _).grown hZ kH fA di;clear hz c0 c1 c2 c3 x0 x1 x2 x3;have HD:=hY (Ff.ab2 (j:=0) (N':=z) (I':=I) (B':=B) (iI z) rfl CA di);obtain ⟨⟨c0,c1,c2,c3⟩,x0,x1,x2,x3⟩:=dJ Ff.2.1;have UE:=Ff.lt;clear Ff;go_upto_region 17 with fail;clear c0 c1 c2 c3 x0 x1 x2 x3;generalize w5.setCell (aA s 0) (iI z)=W6 at*
  obtain ⟨⟨b0,b1,b2,b3⟩,z0,z1,z2,z3⟩:=dJ HD.u.2.1;obtain ⟨⟨a0,a1,a2,a3⟩,y0,y1,y2,y3⟩:=dJ HD.u.1;go_wp2
  exact bJ (v:=.agg #[iI z,iI I,iI B,.slice A len cap]) (QX rfl HD.u.1 (iI z) (iI I) (iI B) (.slice A len cap) _ rfl) rfl (HD.u.done di aa aa)
 by_cases e1:x=1
 ·subst e1;go_wp2_with fail;refine (dY g _ 3 _ [0,1,N+1] _ (uW.alloc _) (eC w4 _ _ _ 3 1 _ rfl rfl rfl) iu aa).mono ?_;rintro e w5 ⟨z,rfl,hz,kH,hZ⟩;have kz: -1<=z/\z<=6:=fS
  have Ff:=(wG.u.alloc _).grown hZ kH fA di;clear hz c0 c1 c2 c3 x0 x1 x2 x3;have HD:=hY (Ff.ab2 (j:=1) (N':=N) (I':=z) (B':=B) (iI z) rfl CA di);obtain ⟨⟨c0,c1,c2,c3⟩,x0,x1,x2,x3⟩:=dJ Ff.2.1;have UE:=Ff.lt;clear Ff;go_upto_region 17 with fail;clear c0 c1 c2 c3 x0 x1 x2 x3;generalize w5.setCell (aA s 1) (iI z)=W6 at*
  obtain ⟨⟨b0,b1,b2,b3⟩,z0,z1,z2,z3⟩:=dJ HD.u.2.1;obtain ⟨⟨a0,a1,a2,a3⟩,y0,y1,y2,y3⟩:=dJ HD.u.1;go_wp2
  exact bJ (v:=.agg #[iI N,iI z,iI B,.slice A len cap]) (QX rfl HD.u.1 (iI N) (iI z) (iI B) (.slice A len cap) _ rfl) rfl (HD.u.done di aa aa)
 by_cases e2:x=2
 ·subst e2;go_wp2_with fail;refine (dY g _ 4 _ [-1,0,3,4] _ (uW.alloc _) (eC w4 _ _ _ 4 1 _ rfl rfl rfl) iu aa).mono ?_;rintro e w5 ⟨z,rfl,hz,kH,hZ⟩;have kz: -1<=z/\z<=4:=fS
  have Ff:=(wG.u.alloc _).grown hZ kH fA di;clear hz c0 c1 c2 c3 x0 x1 x2 x3;have HD:=hY (Ff.ab2 (j:=2) (N':=N) (I':=I) (B':=z) (iI z) rfl CA di);obtain ⟨⟨c0,c1,c2,c3⟩,x0,x1,x2,x3⟩:=dJ Ff.2.1;have UE:=Ff.lt;clear Ff;go_upto_region 17 with fail;clear c0 c1 c2 c3 x0 x1 x2 x3;generalize w5.setCell (aA s 2) (iI z)=W6 at*
  obtain ⟨⟨b0,b1,b2,b3⟩,z0,z1,z2,z3⟩:=dJ HD.u.2.1;obtain ⟨⟨a0,a1,a2,a3⟩,y0,y1,y2,y3⟩:=dJ HD.u.1;go_wp2
  exact bJ (v:=.agg #[iI N,iI I,iI z,.slice A len cap]) (QX rfl HD.u.1 (iI N) (iI I) (iI z) (.slice A len cap) _ rfl) rfl (HD.u.done di aa aa)
 have hCd:=uW.ext (xZ w4).drew;have ag5:True:=trivial;have abZ:True:=trivial;have apd:True:=trivial;have ape:True:=trivial
 by_cases e3:x=3
 ·subst e3;go_wp2
  go_region_law (first
   |(go_simp;go_at_call 51;have _t:=ag5;clear ag5 _t;(with_reducible refine (aT g 6 _ hCd aa).mono ?_);rintro e w5 ⟨z5,rfl,⟨Un,cf,_⟩,kH,hZ⟩;clear cf;have iy:=hY (wG.u.drew.grown hZ kH fA di);have UE:=iy.u.lt;have akM:w5.cell? (aA s 0)=some (iI N):=iy.u.2.1.cell 0;have akN:w5.cell? (aA s 3)=some (.slice A len cap):=iy.u.2.1.cell 3)
   |(go_simp;go_at_call 51;have _t:=abZ;clear abZ _t;(with_reducible refine (aT g 4 _ kH aa).mono ?_);rintro e w6 ⟨z6,rfl,⟨hz6,qB,_⟩,Bj,nR⟩;clear qB;have zu:=hY (iy.u.grown nR Bj fA di);have hl6:=zu.u.lt;have aud:w6.cell? (aA s 0)=some (iI N):=zu.u.2.1.cell 0;have aue:w6.cell? (aA s 3)=some (.slice A len cap):=zu.u.2.1.cell 3)
   |(go_simp;go_at_call 51;have _t:=apd;clear apd _t;(with_reducible refine (aT g 3 _ Bj aa).mono ?_);rintro e w7 ⟨z7,rfl,⟨hz7,hy7,_⟩,hC7,hG7⟩;clear hy7;have HD7:=hY (zu.u.grown hG7 hC7 fA di);have hl7:=HD7.u.lt;have auf:w7.cell? (aA s 0)=some (iI N):=HD7.u.2.1.cell 0;have aug:w7.cell? (aA s 3)=some (.slice A len cap):=HD7.u.2.1.cell 3)
   |(go_simp;go_at_call 51;have _t:=ape;clear ape _t;(with_reducible refine (aT g 3 _ hC7 aa).mono ?_);rintro e w8 ⟨z8,rfl,⟨hz8,hy8,_⟩,hC8,hG8⟩;clear hy8;have Za:=hY (HD7.u.grown hG8 hC8 fA di);have hl8:=Za.u.lt;have auh:w8.cell? (aA s 0)=some (iI N):=Za.u.2.1.cell 0;have aui:w8.cell? (aA s 3)=some (.slice A len cap):=Za.u.2.1.cell 3)
   |(refine Oa (B:=w.heap.size+1) ah _ _ ah _ len xs ah Za.u.2.2.1 aa ⟨_,⟨0,0,0,0⟩,z6,z7,z8⟩ _ _ ah ah aa ?_;intro A9 c9 w9 kM hg9 Wv;have HA:=hY (Za.u.app CA di kM hg9 Wv);have k6:w9.cell? (aA s 3)=some (.slice A len cap):=HA.u.1.cell 3;have f6:w9.frozen? (aA s 3)=false:=HA.u.1.frozen 3))
  all_goals
   clear k6 f6 akM akN aud aue auf aug auh aui c0 c1 c2 c3 x0 x1 x2 x3
   exact Ig
 by_cases e4:x=4
 ·subst e4;go_wp2
  go_region_law (first
   |(go_simp;go_at_call 51;have _t:=ag5;clear ag5 _t;(with_reducible refine (aT g N _ hCd aa).mono ?_);rintro e w5 ⟨z5,rfl,⟨Un,cf,_⟩,kH,hZ⟩;clear cf;have iy:=hY (wG.u.drew.grown hZ kH fA di);have UE:=iy.u.lt;have akM:w5.cell? (aA s 0)=some (iI N):=iy.u.2.1.cell 0;have akN:w5.cell? (aA s 3)=some (.slice A len cap):=iy.u.2.1.cell 3)
   |(refine Oa (B:=w.heap.size+1) ah _ _ ah _ len xs ah iy.u.2.2.1 aa ⟨3,⟨0,0,0,0⟩,z5,0,0⟩ _ _ ah ah aa ?_;intro A9 c9 w9 kM hg9 Wv;have HA:=hY (iy.u.app CA di kM hg9 Wv);have k6:w9.cell? (aA s 3)=some (.slice A len cap):=HA.u.1.cell 3;have f6:w9.frozen? (aA s 3)=false:=HA.u.1.frozen 3))
  all_goals
   clear k6 f6 akM akN c0 c1 c2 c3 x0 x1 x2 x3
   exact Ig
 by_cases e5:x=5
 ·subst e5;go_wp2_with fail;refine (gU g _ _ uW aa).mono ?_;rintro e w5 ⟨bb,rfl,kH,hZ⟩;have Ff:=wG.u.grown hZ kH fA di;clear hZ c0 c1 c2 c3 x0 x1 x2 x3 hCd wG uW
  cases bb
  ·have HD:=hY Ff;clear Ff;obtain ⟨⟨b0,b1,b2,b3⟩,z0,z1,z2,z3⟩:=dJ HD.u.2.1;obtain ⟨⟨a0,a1,a2,a3⟩,y0,y1,y2,y3⟩:=dJ HD.u.1;go_wp2
   exact bJ (v:=.agg #[iI N,iI I,iI B,.slice A len cap]) (QX rfl HD.u.1 (iI N) (iI I) (iI B) (.slice A len cap) _ rfl) rfl (HD.u.done di aa aa)
  ·go_wp2
   go_loopw [] (fun wr=>∃(A:OA) (l cap:Nat) (xs:List Oq),l<=bE+121/\DR w wr g s N I B A l cap xs) (fun wr=>122 - Ic wr s)
   case atStart=>exact ⟨A,len,cap,xs,aa,Ff⟩
   case round=>
    clear Ff kH;obtain ⟨A,l,cap,xs,hl,hD⟩:=hrel;have HD:=hY hD;obtain ⟨⟨b0,b1,b2,b3⟩,z0,z1,z2,z3⟩:=dJ hD.2.1;have hCd:=hD.cur.ext (xZ wr).drew;have hlr:=hD.lt;clear hD;go_wp2
    go_region_law (first
     |(go_simp;go_at_call 51;(with_reducible refine (aT g 3 _ hCd aa).mono ?_);rintro e w6 ⟨z,rfl,⟨fH,iV,_⟩,Bj,nR⟩;have zu:=hY (HD.u.drew.grown nR Bj fA di);have k3:w6.cell? (aA s 3)=some (.slice A l cap):=zu.u.2.1.cell 3;have kz:z<3:=iV aa;clear iV))
    all_goals
     clear k3 b0 b1 b2 b3 z0 z1 z2 z3;obtain ⟨⟨b0,b1,b2,b3⟩,z0,z1,z2,z3⟩:=dJ zu.u.2.1;have hl6:=zu.u.lt;rw [show IntKind.i64.wrap (119+z)=119+z from lH _ aa]
     by_cases ba:(l:Int)<119+z
     ·go_wp2_with (at_builtin;refine ab0 (B:=w.heap.size+1) rfl _ _ rfl _ l xs rfl zu.u.2.2.1 aa ⟨1,⟨1,0,0,0⟩,0,0,0⟩ _ _ rfl rfl aa ?_;intro A7 c7 w7 DY hg7 Mc;have HA:=hY (zu.u.app CA di DY hg7 Mc);have k6:w7.cell? (aA s 3)=some (.slice A l cap):=HA.u.1.cell 3;have f6:w7.frozen? (aA s 3)=false:=HA.u.1.frozen 3)
      have HM:Hid (122 - Ic (w7.setCell (aA s 3) (.slice A7 (l+1) c7)) s<122 - Ic wr s):=by
       unfold Hid;rw [Ie HA.u.2.2.1,Ie HD.u.2.1];omega
      clear k6 f6 b0 b1 b2 b3 z0 z1 z2 z3;go_roundw
      case rel=>exact ⟨A7,l+1,c7,_,aa,HA.u.2⟩
      case measure=>exact HM.u
     ·clear b0 b1 b2 b3 z0 z1 z2 z3;obtain ⟨⟨b0,b1,b2,b3⟩,z0,z1,z2,z3⟩:=dJ zu.u.2.1;obtain ⟨⟨a0,a1,a2,a3⟩,y0,y1,y2,y3⟩:=dJ zu.u.1;go_wp2
      exact bJ (v:=.agg #[iI N,iI I,iI B,.slice A l cap]) (QX rfl zu.u.1 (iI N) (iI I) (iI B) (.slice A l cap) _ rfl) rfl (zu.u.done di aa aa)
 ·clear c0 c1 c2 c3 x0 x1 x2 x3;obtain ⟨⟨b0,b1,b2,b3⟩,z0,z1,z2,z3⟩:=dJ wG.u.2.1;obtain ⟨⟨a0,a1,a2,a3⟩,y0,y1,y2,y3⟩:=dJ wG.u.1;go_wp2
  exact bJ (v:=.agg #[iI N,iI I,iI B,.slice A len cap]) (QX rfl wG.u.1 (iI N) (iI I) (iI B) (.slice A len cap) _ rfl) rfl (wG.u.done di aa aa)
end Go.Proofs.YtodhjgngkkcjgaaGreatDoor
