import Derived.Test.YtodhjgngkkcjgaaGreatDoorXo
import Derived.Test.YtodhjgngkkcjgaaGreatDoorXp
import Derived.Test.YtodhjgngkkcjgaaGreatDoorXh
import Derived.Test.YtodhjgngkkcjgaaGreatDoorXi
namespace Go.Proofs.YtodhjgngkkcjgaaGreatDoor
open Go.ChangeShapes Go.WideShapes Go.ChangeAt Go.RowKit Go.Deep Go.Proofs.Tryz
set_option linter.unusedVariables false
set_option linter.unusedSimpArgs false
set_option maxRecDepth 100000
set_option maxHeartbeats 16000000
def Ji (R:Nat->Int):Array Value:=#[iI (R 0),iI (R 1),iI (R 2),iI (R 3)]
theorem anA (R:Nat->Int) {j:Nat} (hj:j<4):(Ji R)[j]?=some (iI (R j)):=by
 rcases (aa:j=0\/j=1\/j=2\/j=3) with rfl|rfl|rfl|rfl<;>rfl
theorem alh {R R':Nat->Int} {j:Nat} {v:Int} (hj:j<4) (h:∀z,R' z=if z=j then v else R z):(Ji R).setIfInBounds j (iI v)=Ji R':=by
 unfold Ji;rcases (aa:j=0\/j=1\/j=2\/j=3) with rfl|rfl|rfl|rfl<;>simp [h]
def GdI (w wr:World) (n:Nat) (es:List Ed) (A1:OA) (c1:Nat) (R:Nat->Int):Prop:=
 au wr (w.heap.size+1) 3 (Ji R)/\au wr w.heap.size 63 #[iI (n:Int),.slice A1 es.length c1]/\Ext w wr
theorem apF {adj:Int->Int->Bool} {s x y:Nat} {R:Nat->Int} (h:¬(R x=(s:Int)/\R y<0/\adj (x:Int) (y:Int)=true)):fr.Ee adj s x y R=R:=by
 funext z;unfold fr.Ee;rw [aM (fun h'=>h h'.2)]
theorem apG {adj:Int->Int->Bool} {m:Int} {l:List Int} {k:Nat} (h:(adj m (k:Int) && !(gf (fr.rK adj m l k) (k:Int)))=false):fr.rK adj m l (k+1)=fr.rK adj m l k:=by
 rw [fr.rK,aM aZ]
theorem ali {adj:Int->Int->Bool} {m:Int} {l:List Int} {k:Nat} (h:adj m (k:Int)=true) (h':gf (fr.rK adj m l k) (k:Int)=false):fr.rK adj m l (k+1)=fr.rK adj m l k++[(k:Int)]:=by
 rw [fr.rK,aY (by simp [h,h'])]
theorem Jj {P:Prop} (h:P:=by
 go_wp2;go_roundw
 case rel=>exact ⟨q+1,aa,az,by rw [HN2.u];exact aj hoq ig,OL.trans ig⟩
 case measure=>simp [intOf];omega):P:=h
theorem ahy (n a b:Nat) (es:List Ed) (A1:OA) (c1:Nat) (w:World) (h1:1<=n) (h4:n<=4) (ha:a<n) (hb:b<n) (h:Rd w w.heap.size 2 A1 es.length (bK es)) (hl:es.length<=2000000000000):
  Calls prog 125 #[.agg #[iI (n:Int),.slice A1 es.length c1],iI (a:Int),iI (b:Int)] w fun e w'=>e=.returned (iI (fr.oC (uL es) n a b))/\Ext w w':=by
 have HG:Hid (∀w',Ext w w'->fB w' w'.heap.size (.agg #[iI (n:Int),.slice A1 es.length c1]) ⟨n,es⟩):=fun w' hx=>⟨A1,c1,rfl,h.ext hx⟩
 have HS:=hY (fun s=>fr.akV (adj:=uL es) ha hb s);have HL:=hY (fun (s:Nat) (hs:s<=4)=>fr.acQ (adj:=uL es) h4 (a:Int) hs);clear h;go_enter func125,ntmps125;go_wp2_with fail;refine (aF _ _ _ _ aa aa).mono ?_;rintro e w1 ⟨rfl,rfl⟩;go_wp2_with fail;refine (aF _ _ _ _ aa aa).mono ?_;rintro e w1 ⟨rfl,rfl⟩;go_wp2_with fail;refine (aF _ _ _ _ aa aa).mono ?_;rintro e w1 ⟨rfl,rfl⟩;have dx:au ((w.alloc (cO #[iI (n:Int),.slice A1 es.length c1] 63)).alloc (cO #[iI (a:Int)] 3)) w.heap.size 63 #[iI (n:Int),.slice A1 es.length c1]:=(au.new _ _ _).alloc _;have dN:Ext w ((w.alloc (cO #[iI (n:Int),.slice A1 es.length c1] 63)).alloc (cO #[iI (a:Int)] 3)):=aw
 have hO0:((w.alloc (cO #[iI (n:Int),.slice A1 es.length c1] 63)).alloc (cO #[iI (a:Int)] 3)).ownsRow w.heap.size 3 1 (.slice (some ⟨w.heap.size+1,0,none⟩) 1 1) 1 (aD [(a:Int)]):=bS aw _ _ 1 1 #[iI (a:Int)] _ ag rfl rfl aa;have bW:=hY dx;have qc:=hY dN;have qx:=hY hO0;clear dx dN hO0;go_wp2;replace bW:=bW.u;replace qc:=qc.u;replace qx:=qx.u;generalize ((w.alloc (cO #[iI (n:Int),.slice A1 es.length c1] 63)).alloc (cO #[iI (a:Int)] 3))=W0 at*
 go_loopw [7,8] (fun v i wr=>∃s:Nat,s<=n/\i=iI s/\wr.ownsRow w.heap.size 3 1 v (fr.rS (uL es) n a s).length (aD (fr.rS (uL es) n a s))/\Hid (∀t,t<s->fr.lvl (uL es) n a t b=false)/\au wr w.heap.size 63 #[iI (n:Int),.slice A1 es.length c1]/\Ext w wr) (fun _ i _=>n - (intOf i).toNat)
 case atStart=>exact ⟨0,lJ _,rfl,qx,fun t ht=>absurd ht aa,bW,qc⟩
 case round=>
  clear qx bW qc;obtain ⟨s,hs,rfl,ho,HQ,hB,hx⟩:=hrel;have hls:=HL.u s aa;have hhs:=HS.u s;have HH:=hY hhs;have d0:=hB.ck 0;clear hhs;have hrS:Hid (fr.rS (uL es) n a (s+1)=fr.rI (uL es) n (fr.rS (uL es) n a s) (fr.rS (uL es) n a s).length):=rfl;generalize fr.rS (uL es) n a s=met at*
  obtain ⟨A7,c7,rfl,Fq⟩:=ak ho
  by_cases ba:s<n
  ·go_wp2_with fail;refine (dE A7 _ c7 met (b:Int) _ Fq aa).mono ?_;rintro e w1 ⟨rfl,rfl⟩
   cases hh:gf met (b:Int)
   ·have oH:Hid (∀t,t<s+1->fr.lvl (uL es) n a t b=false):=fun t ht=>by
     by_cases e:t=s
     ·subst e;rw [<-HH.u];exact hh
     ·exact HQ.u t aa
    go_wp2_with (at_builtin;refine oJ (w0:=wr) rfl _ _ rfl _ 0 [] rfl (aN wr wr _ _ (xZ _)) aw A7 _ c7 met rfl (Fq.ext aw) aa ?_;intro v9 w2 kM nj hg9 Wv)
    clear hg9 Wv;simp only [lM,lN] at kM;have xQ:=hB.ext nj;have jk:=Fq.ext nj;have bz:=hx.trans nj;clear d0;obtain ⟨L,hLm⟩:=ey (met.length);have HLM:=hY hLm;have auO:=Fq.len bG aa;rw [<-hLm] at Fq kM hls |-;have ax1:L<=625:=hls;have iD:Hid (w2.ownsRow wr.heap.size 3 1 v9 (fr.rI (uL es) n met 0).length (aD (fr.rI (uL es) n met 0))):=by
     unfold Hid;rw [show fr.rI (uL es) n met 0=met from rfl,<-hLm]
     exact kM
    have HLI:Hid (∀p,p<=L->(fr.rI (uL es) n met p).length<=3125):=fun p hp=>fr.acR aa h4 aa
    clear hLm auO kM xQ jk bz ho;obtain ⟨wo,rfl⟩:∃wo:World,wo=wr:=⟨_,rfl⟩
    go_loopw [9,10] (fun v i wr=>∃p:Nat,p<=L/\i=iI p/\wr.ownsRow wo.heap.size 3 1 v (fr.rI (uL es) n met p).length (aD (fr.rI (uL es) n met p))/\Ext wo wr) (fun _ i _=>L - (intOf i).toNat)
    case atStart=>exact ⟨0,lJ _,rfl,iD.u,nj⟩
    case round=>
     clear iD nj;obtain ⟨p,hp,rfl,VQ,hxp⟩:=hrel
     by_cases auP:p<L
     ·obtain ⟨b7,o7,m,rfl,Mc,hm,c0⟩:=du Fq auP;have HM:Hid (fr.rI (uL es) n met (p+1)=fr.rK (uL es) m (fr.rI (uL es) n met p) n):=by
       unfold Hid;rw [fr.rI,lP,hm];rfl
      have MG:=HLI.u p hp;clear hm;go_wp2;generalize fr.rI (uL es) n met p=nx at*
      obtain ⟨wp,rfl⟩:∃wp:World,wp=wr:=⟨_,rfl⟩
      go_loopw [9,11] (fun v i wr=>∃q:Nat,q<=n/\i=iI q/\wr.ownsRow wo.heap.size 3 1 v (fr.rK (uL es) m nx q).length (aD (fr.rK (uL es) m nx q))/\Ext wo wr) (fun _ i _=>n - (intOf i).toNat)
      case atStart=>exact ⟨0,lJ _,rfl,VQ,hxp⟩
      case round=>
       clear VQ hxp;obtain ⟨q,hq,rfl,hoq,OL⟩:=hrel;have hBq:=hB.ext OL;have d0:=hBq.ck 0
       by_cases aBu:q<n
       ·have d1:=hBq.ck 1;have Zm:wr.cell? (aA b7 (o7+p))=some (iI m):=(OL.cell (p:=(aA b7 (o7+p))) Mc).trans c0;have hxw:=hx.trans OL;have hlk:=fr.UH (adj:=uL es) (m:=m) (l:=nx) q;have HY:=hY (ali (adj:=uL es) (m:=m) (l:=nx) (k:=q));have HN:=hY (apG (adj:=uL es) (m:=m) (l:=nx) (k:=q));obtain ⟨A9,c9,rfl,Cb⟩:=ak hoq;have hp0:(0:Int)<=(p:Int):=aa
        have hpL:(p:Int)<(L:Int):=aa
        have HK:Hid (∀w',Ext wr w'->w'.cell? (aA w.z 0)=some (iI (n:Int))/\w'.cell? (aA w.z 1)=some (.slice A1 es.length c1)/\w'.cell? (aA b7 (o7+p))=some (iI m)):=fun w' z=>⟨(hBq.ext z).cell 0,(hBq.ext z).cell 1,(z.cell (p:=(aA b7 (o7+p))) (qD Mc OL.size)).trans Zm⟩
        generalize fr.rK (uL es) m nx q=nq at*
        cases hc:uL es m (q:Int)
        ·have HN2:=hY (HN.u (by rw [hc];rfl));go_wp2
         first|go_region_with ((go_at_call 124;refine (dH _ ⟨n,es⟩ m q _ (HG.u _ hxw.drew) hl).mono ?_;rintro e w3 ⟨rfl,ig⟩;replace ig:Ext wr w3:=Ext.trans (xZ wr).drew ig;have sW:(gP es m (q:Int)||gP es (q:Int) m)=false:=hc;rw [sW]))|fail
         all_goals
          exact Jj
        ·cases Lt:gf nq (q:Int)
         ·have HY2:=hY (HY.u hc Lt);go_wp2
          go_region_held3 (fun w'=>w'.cell? (aA w.z 0)=some (iI (n:Int))/\w'.cell? (aA w.z 1)=some (.slice A1 es.length c1)/\w'.cell? (aA b7 (o7+p))=some (iI m))
           (first|go_keep|exact HK.u _ aL)
           (first
            |(go_at_call 124;refine (dH _ ⟨n,es⟩ m q _ (HG.u _ hxw.drew) hl).mono ?_;rintro e w3 ⟨rfl,ig⟩;replace ig:Ext wr w3:=Ext.trans (xZ wr).drew ig;have sW:(gP es m (q:Int)||gP es (q:Int) m)=true:=hc;rw [sW])
            |(go_at_call 47;refine (dE A9 _ c9 nq (q:Int) _ (Cb.ext ig) aa).mono ?_;rintro e w4 ⟨rfl,rfl⟩;rw [Lt]))
          all_goals
           go_wp2_with (at_builtin;refine pq (w0:=wo) rfl _ _ rfl _ _ nq rfl (aj hoq ig) (OL.trans ig) (q:Int) _ _ rfl ag aa ?_;intro v5 w5 kg cI zK NZ)
           go_roundw
           case rel=>exact ⟨q+1,aa,az,by rw [HY2.u,lA];exact kg,cI⟩
           case measure=>simp [intOf];omega
         ·have HN2:=hY (HN.u (by rw [Lt];simp));go_wp2
          go_region_held3 (fun w'=>w'.cell? (aA w.z 0)=some (iI (n:Int))/\w'.cell? (aA w.z 1)=some (.slice A1 es.length c1)/\w'.cell? (aA b7 (o7+p))=some (iI m))
           (first|go_keep|exact HK.u _ aL)
           (first
            |(go_at_call 124;refine (dH _ ⟨n,es⟩ m q _ (HG.u _ hxw.drew) hl).mono ?_;rintro e w3 ⟨rfl,ig⟩;replace ig:Ext wr w3:=Ext.trans (xZ wr).drew ig;have sW:(gP es m (q:Int)||gP es (q:Int) m)=true:=hc;rw [sW])
            |(go_at_call 47;refine (dE A9 _ c9 nq (q:Int) _ (Cb.ext ig) aa).mono ?_;rintro e w4 ⟨rfl,rfl⟩;rw [Lt]))
          all_goals
           exact Jj
       ·obtain rfl:q=n:=aa
        go_wp2;go_roundw
        case rel=>exact ⟨p+1,aa,az,by rw [HM.u];exact hoq,OL⟩
        case measure=>simp [intOf];omega
     ·obtain rfl:p=L:=aa
      have auR:=HLM.u;have hBp:=hB.ext hxp;subst auR;go_wp2;go_roundw
      case rel=>exact ⟨s+1,aa,az,by rw [hrS.u];exact aC VQ hx.size,oH,hBp,hx.trans hxp⟩
      case measure=>simp [intOf];omega
   ·have HF:=hY (fr.pT ba (HH.u.symm.trans hh) HQ.u);go_wp2;go_ret
    exact ⟨eB HF.u.symm,hx⟩
  ·obtain rfl:s=n:=aa
   have HF:=hY (fr.zX HQ.u);go_wp2;go_ret
   exact ⟨eB HF.u.symm,hx⟩
theorem AE {P:Prop} (h:P:=by
 go_wp2_with fail;refine (bP _ _ _ _ HB.u).mono ?_;rintro e w1 ⟨rfl,rfl⟩;go_wp2;go_ret
 exact ⟨eB HF.u.symm,xx⟩):P:=h
theorem bV (v:Value) (x:Gr) (a b:Int) (w:World) (h:fB w w.heap.size v x) (hl:x.es.length<=2000000000000):
  Calls prog 125 #[v,iI a,iI b] w fun e w'=>e=.returned (iI (gd x a b))/\Ext w w':=by
 obtain ⟨A1,c1,rfl,h1⟩:=h
 by_cases hN:1<=x.n/\x.n<=4
 ·obtain ⟨n,hn⟩:=lD (aa:0<=x.n)
  by_cases ha:0<=a/\a<x.n
  ·by_cases hb:0<=b/\b<x.n
   ·obtain ⟨i,rfl⟩:=lD ha.1;obtain ⟨j,rfl⟩:=lD hb.1;rw [Ou hn aa aa aa aa aa aa,hn]
    exact ahy n i j x.es A1 c1 w aa aa aa aa h1 hl
   ·have HF:=hY (Rz (x:=x) (a:=a) (b:=b) aa);have HB:Hid (b<0\/x.n - 1<b):=bN
    obtain ⟨hN1,hN4⟩:=hN;obtain ⟨ha1,ha2⟩:=ha;clear hb hn;go_enter func125,ntmps125;go_wp2_with fail;refine (aF _ _ _ _ aa aa).mono ?_;rintro e w1 ⟨rfl,rfl⟩;go_wp2_with fail;refine (aF _ _ _ _ aa aa).mono ?_;rintro e w1 ⟨rfl,rfl⟩
    exact AE
  ·have HF:=hY (Rz (x:=x) (a:=a) (b:=b) aa);have HB:Hid (a<0\/x.n - 1<a):=bN
   obtain ⟨hN1,hN4⟩:=hN;clear ha hn;go_enter func125,ntmps125;go_wp2_with fail;refine (aF _ _ _ _ aa aa).mono ?_;rintro e w1 ⟨rfl,rfl⟩
   exact AE
 ·have HF:=hY (Rz (x:=x) (a:=a) (b:=b) aa);have HB:Hid (x.n<1\/4<x.n):=bN
  clear hN;go_enter func125,ntmps125
  exact AE
def conn (x:Gr):Bool:=decide (1<=x.n) && decide (x.n<=4) && (List.range x.n.toNat).all fun k=>decide (0<=gd x 0 (k:Int))
theorem ahA {x:Gr} (h:x.n<1):conn x=false:=by
 unfold conn;rw [show decide (1<=x.n)=false from sU h];rfl
theorem ahB {x:Gr} (h:4<x.n):conn x=false:=by
 unfold conn;rw [show decide (x.n<=4)=false from sU h];simp
theorem ahC {x:Gr} {k n:Nat} (hn:x.n=n) (h:k<n) (h0:gd x 0 (k:Int)= -1):conn x=false:=by
 unfold conn;have:((List.range x.n.toNat).all fun k=>decide (0<=gd x 0 (k:Int)))=false:=by
  rw [FN]
  exact ⟨k,by rw [hn];simpa using h,by rw [h0];simp⟩
 rw [this,ic]
theorem ads {x:Gr} {n:Nat} (hn:x.n=n) (h1:1<=n) (h4:n<=4) (h:∀k,k<n->0<=gd x 0 (k:Int)):conn x=true:=by
 unfold conn;have:((List.range x.n.toNat).all fun k=>decide (0<=gd x 0 (k:Int)))=true:=by
  rw [lO];intro k hk;rw [hn] at hk;simp at hk;simpa using h k hk
 rw [this,hn];simp;omega
theorem wQ (v:Value) (x:Gr) (w:World) (h:fB w w.heap.size v x) (hl:x.es.length<=2000000000000):
  Calls prog 102 #[v] w fun e w'=>e=.returned (.bool (conn x))/\Ext w w':=by
 obtain ⟨A1,c1,rfl,h1⟩:=h;have HG:Hid (∀w',Ext w w'->fB w' w'.heap.size (.agg #[iI x.n,.slice A1 x.es.length c1]) x):=fun w' hx=>⟨A1,c1,rfl,h1.ext hx⟩
 clear h1;have dx:au (w.alloc (cO #[iI x.n,.slice A1 x.es.length c1] 63)) w.heap.size 63 #[iI x.n,.slice A1 x.es.length c1]:=au.new _ _ _;have dN:Ext w (w.alloc (cO #[iI x.n,.slice A1 x.es.length c1] 63)):=aw
 have bW:=hY dx;have qc:=hY dN;clear dx dN
 by_cases qe:x.n<1
 ·have HF:=hY (ahA qe);have HN:Hid (x.n<1\/4<x.n):=.inl qe;go_enter func102,ntmps102;go_wp2;have dx:=bW.u;have dN:=qc.u;clear bW qc;generalize (w.alloc (cO #[iI x.n,.slice A1 x.es.length c1] 63))=Wb at*
  go_loop [3] (fun i=>i=iI 0) (fun _=>0)
  case atStart=>rfl
  case round=>
   obtain rfl:=hrel;have d0:=dx.ck 0;have fy:x.n<=4:=aa
   have cD:¬(0:Int)<x.n:=aa
   go_wp2_with fail;refine (bP _ _ _ _ HN.u).mono ?_;rintro e w1 ⟨rfl,rfl⟩;go_wp2;go_ret
   exact ⟨aI HF.u.symm,dN⟩
 by_cases hhi:4<x.n
 ·have HF:=hY (ahB hhi);have HGD:=hY (Rz (x:=x) (a:=0) (b:=0) aa);go_enter func102,ntmps102;go_wp2;have dx:=bW.u;have dN:=qc.u;clear bW qc;generalize (w.alloc (cO #[iI x.n,.slice A1 x.es.length c1] 63))=Wb at*
  go_loop [3] (fun i=>i=iI 0) (fun _=>0)
  case atStart=>rfl
  case round=>
   obtain rfl:=hrel;have d0:=dx.ck 0;have d1:=dx.ck 1;have fy:¬x.n<=4:=aa
   have cD:4<=x.n:=aa
   go_wp2_with fail;refine (bV _ x 0 0 _ (HG.u _ dN) hl).mono ?_;rintro e w1 ⟨rfl,dw⟩;rw [HGD.u];go_wp2;go_ret
   exact ⟨aI HF.u.symm,dN.trans dw⟩
 obtain ⟨n,hn⟩:=lD (aa:0<=x.n);have jX:1<=n:=aa
 have zn:n<=4:=aa
 have HN:=hY hn;rw [hn] at bW qc HG |-;clear hn qe hhi;go_enter func102,ntmps102;go_wp2;have dx:=bW.u;have dN:=qc.u;clear bW qc;generalize (w.alloc (cO #[iI (n:Int),.slice A1 x.es.length c1] 63))=Wb at*
 go_loopw [3] (fun i wr=>∃k:Nat,k<=n/\i=iI k/\Hid (∀j,j<k->0<=gd x 0 (j:Int))/\Ext Wb wr) (fun i _=>n - (intOf i).toNat)
 case atStart=>exact ⟨0,lJ _,rfl,fun j hj=>absurd hj aa,xZ _⟩
 case round=>
  obtain ⟨k,hk,rfl,HQ,hx⟩:=hrel;have hB:=dx.ext hx;have d0:=hB.ck 0;have d1:=hB.ck 1
  by_cases ba:k<n
  ·go_wp2_with fail;refine (bV _ x 0 k _ (HG.u _ (dN.trans hx)) hl).mono ?_;rintro e w1 ⟨rfl,dw⟩;have pU:=sD x 0 (k:Int)
   by_cases hg:gd x 0 (k:Int)= -1
   ·have HF:=hY (ahC HN.u ba hg);rw [hg];clear hg pU;go_wp2;go_ret
    exact ⟨aI HF.u.symm,(dN.trans hx).trans dw⟩
   ·have oH:Hid (∀j,j<k+1->0<=gd x 0 (j:Int)):=fun j hj=>by
     by_cases e:j=k
     ·subst e;omega
     ·exact HQ.u j aa
    have hgb:¬gd x 0 (k:Int)<0:=aa
    clear hg pU;generalize gd x 0 (k:Int)=G at*
    go_wp2;go_roundw
    case rel=>exact ⟨k+1,aa,az,oH,hx.trans dw⟩
    case measure=>simp [intOf];omega
  ·obtain rfl:k=n:=aa
   have HF:=hY (ads HN.u jX zn HQ.u);go_wp2_with fail;refine (aF _ _ _ _ aa aa).mono ?_;rintro e w1 ⟨rfl,rfl⟩;go_wp2;go_ret
   exact ⟨aI HF.u.symm,dN.trans hx⟩
def Cc (m:Int) (es:List Ed) (i:Nat) (e:Ed):Bool:=!(e.a==e.b) && decide (0<=e.a) && decide (e.a<=m) && decide (0<=e.b) && decide (e.b<=m) && !((es.take i).any fun y=>Qc y e)
def adt (m:Int) (es:List Ed):Bool:=(List.range es.length).all fun i=>match es[i]? with
 |some e=>Cc m es i e
 |none=>true
def je (x:Gr):Bool:=adt (wrap64 (x.n - 1)) x.es && conn x
theorem OZ {x:Gr} {m:Int} (hm:m=wrap64 (x.n - 1)) {k:Nat} {e:Ed} (h:x.es[k]?=some e) (ho:Cc m x.es k e=false):je x=false:=by
 subst hm;have:adt (wrap64 (x.n - 1)) x.es=false:=by
  unfold adt;rw [FN]
  exact ⟨k,by simpa using (gu.1 h).1,by rw [h];simp [ho]⟩
 unfold je;rw [this,ku]
theorem ahD {x:Gr} {m:Int} (hm:m=wrap64 (x.n - 1)) (h:∀i e,x.es[i]?=some e->Cc m x.es i e=true):je x=conn x:=by
 subst hm;have:adt (wrap64 (x.n - 1)) x.es=true:=by
  unfold adt;rw [lO];intro i _;split
  ·rename_i e he
   exact h i e he
  ·rfl
 unfold je;rw [this,oc]
theorem ZG {m:Int} {es:List Ed} {i:Nat} {e:Ed} (h:(e.a==e.b)=true):Cc m es i e=false:=by unfold Cc;rw [h];simp
theorem alk {m:Int} {es:List Ed} {i:Nat} {e:Ed} (h:e.a<0\/m<e.a):Cc m es i e=false:=by
 unfold Cc;rcases h with h|h
 ·rw [show decide (0<=e.a)=false from sU h];simp
 ·rw [show decide (e.a<=m)=false from sU h];simp
theorem alm {m:Int} {es:List Ed} {i:Nat} {e:Ed} (h:e.b<0\/m<e.b):Cc m es i e=false:=by
 unfold Cc;rcases h with h|h
 ·rw [show decide (0<=e.b)=false from sU h];simp
 ·rw [show decide (e.b<=m)=false from sU h];simp
def EK (es:List Ed) (i:Nat) (e:Ed):Bool:=(es.take i).any fun y=>Qc y e
theorem adu {m:Int} {es:List Ed} {i:Nat} {e:Ed} (h:EK es i e=true):Cc m es i e=false:=by unfold Cc;rw [show ((es.take i).any fun y=>Qc y e)=true from h];simp
theorem adv {m:Int} {es:List Ed} {i:Nat} {e:Ed} (h:(e.a==e.b)=false) (h1:0<=e.a) (h2:e.a<=m) (h3:0<=e.b) (h4:e.b<=m) (h5:EK es i e=false):Cc m es i e=true:=by
 unfold Cc;rw [show ((es.take i).any fun y=>Qc y e)=false from h5,h];simp [h1,h2,h3,h4]
theorem RW (x y:Ed):Qc x y=Qc y x:=by
 unfold Qc;rw [Nx];simp;omega
theorem ZH {es:List Ed} {i:Nat} {e:Ed} (h:es[i]?=some e):EK es (i+1)=fun z=>Qc z e||EK es i z:=by
 funext z;unfold EK;rw [aS h,List.any_append,Bool.or_comm];simp [RW]
theorem adw {es:List Ed} {i j:Nat} {y e:Ed} (h:es[j]?=some y) (hj:j<i) (hq:Qc y e=true):EK es i e=true:=by
 unfold EK;rw [CD]
 exact ⟨y,lG (by rw [yi hj];exact h),hq⟩
theorem ahE {es:List Ed} {j:Nat} {y e:Ed} (h:es[j]?=some y) (h0:EK es j e=false) (hq:Qc y e=false):EK es (j+1) e=false:=by
 rw [ZH h];show (Qc e y||EK es j e)=false;rw [h0,RW,hq];rfl
theorem Jk {P:Prop} (h:P:=by
 go_wp2_with fail;refine (bP _ _ _ _ HA.u).mono ?_;rintro e1 w1 ⟨rfl,rfl⟩;go_wp2;go_ret
 exact ⟨aI HF.u.symm,hx.alloc _⟩):P:=h
theorem tR {P:Prop} (h:P:=by
 go_wp2;go_ret
 exact ⟨aI HF.u.symm,xx⟩):P:=h
theorem dO (v:Value) (x:Gr) (w:World) (h:fB w w.heap.size v x) (hl:x.es.length<=2000000000000):
  Calls prog 82 #[v] w fun e w'=>e=.returned (.bool (je x))/\Ext w w':=by
 obtain ⟨A1,c1,rfl,h1⟩:=h;have HG:Hid (∀w',Ext w w'->fB w' w'.heap.size (.agg #[iI x.n,.slice A1 x.es.length c1]) x):=fun w' hx=>⟨A1,c1,rfl,h1.ext hx⟩
 obtain ⟨L,hL⟩:=ey (x.es.length);have HL:=hY hL;rw [<-hL] at h1 HG hl |-;clear hL;have dx:au (w.alloc (cO #[iI x.n,.slice A1 L c1] 63)) w.heap.size 63 #[iI x.n,.slice A1 L c1]:=au.new _ _ _;have dN:Ext w (w.alloc (cO #[iI x.n,.slice A1 L c1] 63)):=aw
 have bW:=hY dx;have qc:=hY dN;clear dx dN;obtain ⟨m,hm⟩:=ey (wrap64 (x.n - 1));have HM:=hY hm;clear hm;go_enter func82,ntmps82;go_wp2;have dx:=bW.u;have dN:=qc.u;clear bW qc;generalize (w.alloc (cO #[iI x.n,.slice A1 L c1] 63))=W0 at*
 go_loopw [3] (fun i wr=>∃k:Nat,k<=L/\i=iI k/\Hid (∀i e,i<k->x.es[i]?=some e->Cc m x.es i e=true)/\au wr w.heap.size 63 #[iI x.n,.slice A1 L c1]/\Ext w wr) (fun i _=>L - (intOf i).toNat)
 case atStart=>exact ⟨0,lJ _,rfl,fun i e h=>absurd h aa,dx,dN⟩
 case round=>
  clear dx dN;obtain ⟨k,hk,rfl,HQ,hB,hx⟩:=hrel;have d0:=hB.ck 0;have d1:=hB.ck 1
  by_cases ba:k<L
  ·obtain ⟨b,o,e,rfl,hb,he,r0,r1⟩:=NM (h1.ext hx) ba;have HE:=hY he;clear he;have aBw:=hB.lt
   by_cases ha:e.a<0\/m<e.a
   ·have HF:=hY (OZ HM.u HE.u (alk ha));have HA:Hid (e.a<0\/wrap64 (x.n - 1)<e.a):=by rw [<-HM.u];exact ha
    clear ha
    exact Jk
   have ha1:0<=e.a:=aa
   have ha2:e.a<=m:=aa
   have HA2:Hid (e.a<=wrap64 (x.n - 1)):=by rw [<-HM.u];exact ha2
   clear ha;go_wp2_with fail;refine (aF _ _ _ _ ha1 HA2.u).mono ?_;rintro e1 w1 ⟨rfl,rfl⟩
   by_cases rJ:e.b<0\/m<e.b
   ·have HF:=hY (OZ HM.u HE.u (alm rJ));have HA:Hid (e.b<0\/wrap64 (x.n - 1)<e.b):=by rw [<-HM.u];exact rJ
    clear rJ
    exact Jk
   have ky:0<=e.b:=aa
   have zC:e.b<=m:=aa
   have dv:Hid (e.b<=wrap64 (x.n - 1)):=by rw [<-HM.u];exact zC
   clear rJ;go_wp2_with fail;refine (aF _ _ _ _ ky dv.u).mono ?_;rintro e1 w1 ⟨rfl,rfl⟩
   cases hab:(e.a==e.b)
   case true=>
    have HF:=hY (OZ HM.u HE.u (ZG hab));go_wp2;go_ret
    exact ⟨aI HF.u.symm,hx.alloc _⟩
   go_wp2;have hBe:au (wr.alloc (cO #[iI e.a,iI e.b] 130)) wr.heap.size 130 #[iI e.a,iI e.b]:=au.new _ _ _;have xQ:=hB.alloc (cO #[iI e.a,iI e.b] 130);have bz:=hx.alloc (cO #[iI e.a,iI e.b] 130);clear r0 r1 d0 d1 hB hx;generalize hs:wr.heap.size=s at*
   generalize (wr.alloc (cO #[iI e.a,iI e.b] 130))=We at*
   clear hs;have jk:=h1.ext bz;have d1:=xQ.ck 1;have e0:=hBe.ck 0;have e1:=hBe.ck 1
   go_loopw [5] (fun i wr=>∃j:Nat,j<=k/\i=iI j/\Hid (EK x.es j e=false)/\∃q,wr=We.drewN q) (fun i _=>k - (intOf i).toNat)
   case atStart=>exact ⟨0,lJ _,rfl,by simp [Hid,EK],0,rfl⟩
   case round=>
    obtain ⟨j,hj,rfl,HJ,q,rfl⟩:=hrel
    by_cases hlj:j<k
    ·obtain ⟨b',o',y,eA,rJ,hy,s0,s1⟩:=NM jk (aa:j<L);injection eA with eA;injection eA with eA1 eA2;subst eA1 eA2;have HY:=hY hy;clear hy;have KZ:(0:Int)<=(j:Int):=aa
     have hjL:(j:Int)<(L:Int):=aa
     have HEG:=agD
     cases hq:Qc y e
     ·have HN2:=hY (ahE HY.u HJ.u hq);have HN:=(show ∀w,(Op.equalIn 10000 130 y.val e.val).run prog w=.ok false w from fun w=>by rw [Mf,hq]);go_wp2;go_quiet (fail);go_wp2;go_roundw
      case rel=>exact ⟨j+1,aa,az,HN2,_,rfl⟩
      case measure=>simp [intOf];omega
     ·have HF:=hY (OZ HM.u HE.u (adu (adw HY.u hlj hq)));have HN:=(show ∀w,(Op.equalIn 10000 130 y.val e.val).run prog w=.ok true w from fun w=>by rw [Mf,hq]);go_wp2;go_quiet (fail)
      exact tR
    ·obtain rfl:j=k:=aa
     have HY:=hY (adv (m:=m) (es:=x.es) (i:=j) hab ha1 ha2 ky zC HJ.u);go_wp2;go_roundw
     case rel=>
      refine ⟨j+1,aa,az,fun i e' hi he'=>?_,xQ.ext ((xZ We).drewN q),bz.drewN q⟩
      by_cases KY:i=j
      ·subst KY;have:=HE.u;rw [he'] at this;injection this with this;rw [this]
       exact HY.u
      ·exact HQ.u i e' aa he'
     case measure=>simp [intOf];omega
  ·obtain rfl:k=L:=aa
   have HF:=hY (ahD HM.u (fun i e h=>HQ.u i e (by rw [HL.u];exact (gu.1 h).1) h));go_wp2_with fail;refine (wQ _ x _ (HG.u _ hx) (by rw [<-HL.u];exact hl)).mono ?_;rintro e1 w1 ⟨rfl,dw⟩;go_wp2;go_ret
   exact ⟨aI HF.u.symm,hx.trans dw⟩
def xY (x:Gr) (b a:Int) (d:Nat):Option Nat:=(List.range x.n.toNat).find? fun k=>uL x.es a (k:Int) && (gd x (k:Int) b==(d:Int))
def spw (x:Gr) (b:Int):Nat->Int->List Int
 |0,_=>[]
 |d+1,a=>match xY x b a d with
  |some k=>(k:Int)::spw x b d (k:Int)
  |none=>[]
def ld (x:Gr) (a b:Int):List Int:=if gd x a b<0 then [] else a::spw x b (gd x a b).toNat a
theorem adx {x:Gr} {a b:Int} (h:gd x a b<0):ld x a b=[]:=aY h
theorem MH {x:Gr} {a b:Int} {d:Nat} (h:gd x a b=d):ld x a b=a::spw x b d a:=by
 unfold ld;rw [aM aa,h];rfl
theorem ady {x:Gr} {a b:Int} (h:0<=gd x a b):∃n i j:Nat,x.n=n/\1<=n/\n<=4/\a=i/\b=j/\i<n/\j<n/\gd x a b=fr.oC (uL x.es) n (i:Int) (j:Int):=by
 by_cases hc:1<=x.n/\x.n<=4/\0<=a/\a<x.n/\0<=b/\b<x.n
 ·obtain ⟨n,hn⟩:=lD (aa:0<=x.n);obtain ⟨i,hi⟩:=lD (aa:0<=a);obtain ⟨j,hj⟩:=lD (aa:0<=b)
  exact ⟨n,i,j,hn,aa,aa,hi,hj,aa,aa,by rw [Ou hn aa aa aa aa aa aa,hi,hj]⟩
 ·rw [Rz hc] at h;omega
theorem RX {x:Gr} {a b:Int} {d:Nat} (h:gd x a b=((d+1:Nat):Int)):∃k,xY x b a d=some k:=by
 obtain ⟨n,i,j,hn,h1,h4,rfl,rfl,hi,hj,hg⟩:=ady (aa:0<=gd x a b);rw [hg] at h;obtain ⟨k,hk,hc,hd⟩:=fr.UG hi hj h;have hx:gd x (k:Int) (j:Int)=(d:Int):=by rw [Ou hn h1 h4 aa aa aa aa,hd]
 cases hf:xY x (j:Int) (i:Int) d with
 |some k=>exact ⟨k,rfl⟩
 |none=>
  unfold xY at hf;rw [Ns] at hf;have:=hf k (by rw [hn];simpa using hk);rw [hc,hx] at this;simp at this
theorem RY {x:Gr} {a b:Int} {d k:Nat} (h:xY x b a d=some k):(k:Int)<x.n/\uL x.es a (k:Int)=true/\gd x (k:Int) b=(d:Int)/\∀j:Nat,j<k->(uL x.es a (j:Int) && (gd x (j:Int) b==(d:Int)))=false:=by
 unfold xY at h;rw [List.find?_range_eq_some] at h;obtain ⟨h1,h2,h3⟩:=h;simp at h1 h2;refine ⟨aa,h1.1,h1.2,fun j hj=>?_⟩;have:=h3 j hj
 cases hq:(uL x.es a (j:Int) && (gd x (j:Int) b==(d:Int)))
 ·rfl
 ·rw [hq] at this;cases this
theorem RZ {x:Gr} {a b:Int} {d k:Nat} (h:xY x b a d=some k):spw x b (d+1) a=(k:Int)::spw x b d (k:Int):=by
 rw [spw,h]
theorem Xn {x:Gr} {b:Int}:∀d a,(spw x b d a).length<=d
 |0,_=>by simp [spw]
 |d+1,a=>by
  rw [spw];split
  ·have:=Xn (x:=x) (b:=b) d;simp;rename_i k _
   exact this _
  ·simp
theorem ZI (x:Gr) (a b:Int):(ld x a b).length<=5:=by
 have h:=sD x a b;unfold ld;split
 ·simp
 ·have:=Xn (x:=x) (b:=b) (gd x a b).toNat a;simp;omega
theorem mq (v:Value) (x:Gr) (a b:Int) (w:World) (h:fB w w.heap.size v x) (hl:x.es.length<=2000000000000):
  Calls prog 157 #[v,iI a,iI b] w fun e w'=>∃A len cap,e=.returned (.slice A len cap)/\len=(ld x a b).length/\w'.ownsRow w.heap.size 3 1 (.slice A len cap) len (aD (ld x a b))/\Ext w w':=by
 obtain ⟨A1,c1,rfl,h1⟩:=h;have HG:Hid (∀w',Ext w w'->fB w' w'.heap.size (.agg #[iI x.n,.slice A1 x.es.length c1]) x):=fun w' hx=>⟨A1,c1,rfl,h1.ext hx⟩
 have pU:=sD x a b;clear h1;have dx:au (w.alloc (cO #[iI x.n,.slice A1 x.es.length c1] 63)) w.heap.size 63 #[iI x.n,.slice A1 x.es.length c1]:=au.new _ _ _;have dN:Ext w (w.alloc (cO #[iI x.n,.slice A1 x.es.length c1] 63)):=aw
 have bW:=hY dx;have qc:=hY dN;clear dx dN;go_enter func157,ntmps157;go_wp2_with fail;have hO0:((w.alloc (cO #[iI x.n,.slice A1 x.es.length c1] 63)).alloc (cO #[] 3)).ownsRow (w.alloc (cO #[iI x.n,.slice A1 x.es.length c1] 63)).heap.size 3 1 (.slice (some ⟨w.heap.size+1,0,none⟩) 0 0) 0 (aD []):=bS (xZ _) _ _ 1 0 #[] _ ag rfl rfl aa;have hE0:Ext (w.alloc (cO #[iI x.n,.slice A1 x.es.length c1] 63)) ((w.alloc (cO #[iI x.n,.slice A1 x.es.length c1] 63)).alloc (cO #[] 3)):=(xZ _).alloc _;generalize ((w.alloc (cO #[iI x.n,.slice A1 x.es.length c1] 63)).alloc (cO #[] 3))=W0 at*
 have dx:=bW.u;have dN:=qc.u;clear bW qc;generalize (w.alloc (cO #[iI x.n,.slice A1 x.es.length c1] 63))=Wb at*
 refine (bV _ x a b _ (HG.u _ (dN.trans hE0)) hl).mono ?_;rintro e w1 ⟨rfl,aK⟩;have hO1:=aj hO0 aK;have hE1:=hE0.trans aK;clear hO0 hE0 aK
 by_cases pH:gd x a b<0
 ·have HS:=hY (adx pH);go_wp2;go_ret;refine ⟨_,_,_,rfl,by rw [HS.u];rfl,by rw [HS.u];exact aC hO1 dN.size,dN.trans hE1⟩
 obtain ⟨d,hd⟩:=lD (aa:0<=gd x a b);have HS:=hY (MH hd);have HD:=hY hd;rw [hd] at pH pU |-;have ZJ:d<=4:=aa
 clear hd pU;go_wp2_with (at_builtin;refine pq (w0:=Wb) rfl _ _ rfl _ 0 [] rfl hO1 hE1 a _ _ rfl rfl aa ?_;intro v2 w2 fg bz jW zC)
 clear jW zC hO1 hE1;replace fg:w2.ownsRow Wb.heap.size 3 1 v2 1 (aD [a]):=fg
 go_loopw [1,7,8] (fun va v vd wr=>∃(q:Nat) (z:Int) (out:List Int),q<=d/\va=iI z/\vd=iI q/\gd x z b=(q:Int)/\out.length<=5 - q/\Hid (ld x a b=out++spw x b q z)/\wr.ownsRow Wb.heap.size 3 1 v out.length (aD out)/\Ext Wb wr) (fun _ _ vd _=>(intOf vd).toNat)
 case atStart=>exact ⟨d,a,[a],lI _,rfl,rfl,HD.u,ai,HS.u,fg,bz⟩
 case round=>
  clear fg bz;obtain ⟨q,z,out,hq,rfl,rfl,hz,hlen,HQ,ho,hx⟩:=hrel
  by_cases fc:0<q
  ·obtain ⟨q,rfl⟩:∃q',q=q'+1:=⟨q - 1,aa⟩;obtain ⟨k,hk⟩:=RX hz;obtain ⟨jJ,hkc,hkd,wE⟩:=RY hk;have zn:x.n<=4:=by
    obtain ⟨n,i,j,hn,h1,h4,_⟩:=ady (aa:0<=gd x z b);omega
   have bf:=hY (RZ hk);have HKC:=hY hkc;have HKD:=hY hkd;have HKL:=hY wE;clear hk hkc hkd wE hz;go_wp2;obtain ⟨wo,rfl⟩:∃wo:World,wo=wr:=⟨_,rfl⟩
   go_loopw [1,9] (fun va i wr=>∃j:Nat,j<=k/\i=iI j/\va=iI z/\Ext wo wr) (fun _ i _=>k - (intOf i).toNat)
   case atStart=>exact ⟨0,lJ _,rfl,rfl,xZ _⟩
   case round=>
    obtain ⟨j,hj,rfl,rfl,hxj⟩:=hrel;have hX:=hx.trans hxj;have hB:=dx.ext hX;have d0:=hB.ck 0;have d1:=hB.ck 1;have VU:(j:Int)<x.n:=aa
    go_wp2_with fail;refine (dH _ x z j _ (HG.u _ (dN.trans hX)) hl).mono ?_;rintro e w3 ⟨rfl,ig⟩;have hX3:=hX.trans ig;have KW:=dx.ext hX3;clear d0 d1;have d0:=KW.ck 0;have d1:=KW.ck 1
    by_cases hjk:j<k
    ·have qe:=HKL.u j hjk
     cases hc:uL x.es z (j:Int)
     ·have sW:(gP x.es z (j:Int)||gP x.es (j:Int) z)=false:=hc;rw [sW];clear sW hc qe;go_wp2;go_roundw
      case rel=>first|exact ⟨j+1,aa,az,rfl,hxj.trans ig⟩|((repeat apply Exists.intro);exact ⟨⟨j+1,aa,az,rfl,hxj.trans ig⟩,rfl⟩)
      case measure=>simp [intOf];omega
     ·have sW:(gP x.es z (j:Int)||gP x.es (j:Int) z)=true:=hc;rw [sW];rw [hc,oc] at qe;have Jl:=hY qe;clear sW hc qe;go_wp2_with fail;refine (bV _ x j b _ (HG.u _ (dN.trans hX3)) hl).mono ?_;rintro e w4 ⟨rfl,Ha⟩;have qe:=Jl.u;generalize gd x (j:Int) b=G at*
      go_wp2;go_roundw
      case rel=>first|exact ⟨j+1,aa,az,rfl,(hxj.trans ig).trans Ha⟩|((repeat apply Exists.intro);exact ⟨⟨j+1,aa,az,rfl,(hxj.trans ig).trans Ha⟩,rfl⟩)
      case measure=>simp [intOf];omega
    ·obtain rfl:j=k:=aa
     have sW:(gP x.es z (j:Int)||gP x.es (j:Int) z)=true:=HKC.u;rw [sW];clear sW;go_wp2_with fail;refine (bV _ x j b _ (HG.u _ (dN.trans hX3)) hl).mono ?_;rintro e w4 ⟨rfl,Ha⟩;have hX4:=hX3.trans Ha;have uJ:=aj ho ((hxj.trans ig).trans Ha);rw [HKD.u];go_wp2_with (at_builtin;refine pq (w0:=Wb) rfl _ _ rfl _ out.length out rfl uJ hX4 (j:Int) _ _ rfl ag aa ?_;intro v5 w5 kg cI zK NZ)
     go_roundw
     case rel=>exact ⟨q,j,out++[(j:Int)],aa,rfl,az,HKD.u,ai,by rw [HQ.u,bf.u];simp [Hid],by rw [lA];exact kg,cI⟩
     case measure=>simp [intOf]
  ·obtain rfl:q=0:=aa
   have HE:Hid (ld x a b=out):=by rw [HQ.u];simp [spw,Hid]
   obtain ⟨A,c,rfl,_⟩:=ak ho;go_wp2;go_ret
   exact ⟨_,_,_,rfl,by rw [HE.u],by rw [HE.u];exact aC ho dN.size,dN.trans hx⟩
theorem ZK {gs:List Gt} {k:Nat} {g:Gt} (h:gs[k]?=some g):nG (gs.take (k+1))=nG (gs.take k)+OB g:=by
 unfold nG;rw [aS h];simp
theorem ahF (g:Gt):OB g<=100:=by unfold OB;split<;>(try split)<;>omega
theorem ahG (gs:List Gt):nG gs<=100*gs.length:=by
 unfold nG
 induction gs with
 |nil=>simp
 |cons g gs ih=>have:=ahF g;simp;omega
theorem ZL (gs:List Gt) (k:Nat):nG (gs.take k)<=100*k:=by
 have h1:=ahG (gs.take k);have h2:(gs.take k).length<=k:=qE _ _;omega
theorem alo {g:Gt} (h:(g.k==7)=true):OB g=100:=aY h
theorem alp {g:Gt} (h:(g.k==7)=false) (h2:(g.k==8)=true):OB g=100:=by unfold OB;rw [aM aZ,aY h2]
theorem alq {g:Gt} (h:(g.k==7)=false) (h2:(g.k==8)=false):OB g=1:=by unfold OB;rw [aM aZ,aM eY]
theorem wR {P:Prop} (h:P:=by
 go_wp2;go_round
 case rel=>exact ⟨k+1,aa,az,by rw [HS.u,HC.u];go_num⟩
 case measure=>simp [intOf];omega):P:=h
theorem sJ (A:OA) (n c:Nat) (gs:List Gt) (w:World) (h:Rd w w.heap.size 4 A n (aq gs)) (hn:n<=2000000000000):
  Calls prog 187 #[.slice A n c] w fun e w'=>e=.returned (iI (nG gs:Nat))/\Ext w w':=by
 have hlen:=hY (h.len Gt.aG aa);go_enter func187,ntmps187;go_wp2
 go_loop [3,4] (fun v i=>∃k:Nat,k<=n/\i=iI k/\v=iI (nG (gs.take k):Nat)) (fun _ i=>n - (intOf i).toNat)
 case atStart=>exact ⟨0,lJ _,rfl,rfl⟩
 case round=>
  obtain ⟨k,hk,rfl,rfl⟩:=hrel;have hle:=ZL gs k
  by_cases ba:k<n
  ·obtain ⟨b,o,g,rfl,hb,hg,h0,h1,h2,h3⟩:=bT h ba;have HS:=hY (ZK hg);clear hg
   cases h7:(g.k==7)
   ·cases h8:(g.k==8)
    ·have HC:=hY (alq h7 h8)
     exact wR
    ·have HC:=hY (alp h7 h8)
     exact wR
   ·have HC:=hY (alo h7)
    exact wR
  ·rw [lE bQ];go_wp2;go_ret
   exact ⟨rfl,xZ _⟩
def Tq (g:Gt):Bool:=ar g.k==1||g.k==9
theorem wS (g:Gt) (w:World):Calls prog 155 #[g.val] w fun e w'=>e=.returned (.bool (Tq g))/\Ext w w':=by
 go_enter func155,ntmps155;go_wp2_with fail;refine (bc _ _).mono ?_;rintro e w1 ⟨rfl,rfl⟩
 cases h:(ar g.k==1)
 ·have HF:Hid (Tq g=(g.k==9)):=by unfold Hid Tq;rw [h,ju]
  exact tR
 ·have HF:Hid (Tq g=true):=by unfold Hid Tq;rw [h,ma]
  exact tR
def lay (x:Gr) (p:List Int):Bool:=je x && perm p && ((p.length:Int)==x.n)
def may (g:Gt) (x:Gr) (p:List Int):Bool:=lay x p && Tq g && vg g x.n
theorem adz {x:Gr} {p:List Int} (h:je x=false):lay x p=false:=by unfold lay;rw [h];rfl
theorem adA {x:Gr} {p:List Int} (h:perm p=false):lay x p=false:=by unfold lay;rw [h];simp
theorem adB {x:Gr} {p:List Int} (h:je x=true) (h':perm p=true):lay x p=((p.length:Int)==x.n):=by unfold lay;rw [h,h'];rfl
theorem ax6 {g:Gt} {x:Gr} {p:List Int} (h:lay x p=false):may g x p=false:=by unfold may;rw [h];rfl
theorem apH {g:Gt} {x:Gr} {p:List Int} (h:Tq g=false):may g x p=false:=by unfold may;rw [h];simp
theorem apI {g:Gt} {x:Gr} {p:List Int} (h:vg g x.n=false):may g x p=false:=by unfold may;rw [h];simp
theorem ax7 {g:Gt} {x:Gr} {p:List Int} (h:lay x p=true) (h':Tq g=true):may g x p=vg g x.n:=by unfold may;rw [h,h'];rfl
theorem alr {g:Gt} {x:Gr} {p:List Int} (h:vg g x.n=true) (h':Tq g=true):may g x p=lay x p:=by unfold may;rw [h,h'];simp
theorem qV {P:Prop} (h:P:=by
 go_wp2;go_ret
 exact ⟨aI HF.u.symm,hx⟩):P:=h
theorem lf (g:Gt) (v:Value) (x:Gr) (A:OA) (n c:Nat) (p:List Int) (w:World) (h:fB w w.heap.size v x) (hl:x.es.length<=2000000000000) (hp:Rd w w.heap.size 1 A n (aD p)) (hn:n<=2000000000000) (hc:n<=c):
  Calls prog 131 #[g.val,v,.slice A n c] w fun e w'=>e=.returned (.bool (may g x p))/\Ext w w':=by
 have hlen:=hY (hp.len bG aa);obtain ⟨A1,c1,rfl,h1⟩:=h;have HG:Hid (∀w',Ext w w'->fB w' w'.heap.size (.agg #[iI x.n,.slice A1 x.es.length c1]) x):=fun w' hx=>⟨A1,c1,rfl,h1.ext hx⟩
 clear h1;have KV:au ((w.alloc (cO (gA g) 39)).alloc (cO #[iI x.n,.slice A1 x.es.length c1] 63)) w.heap.size 39 (gA g):=(au.new _ _ _).alloc _;have dx:au ((w.alloc (cO (gA g) 39)).alloc (cO #[iI x.n,.slice A1 x.es.length c1] 63)) (w.heap.size+1) 63 #[iI x.n,.slice A1 x.es.length c1]:=au.newAt ag;have dN:Ext w ((w.alloc (cO (gA g) 39)).alloc (cO #[iI x.n,.slice A1 x.es.length c1] 63)):=aw
 have MA:=hY KV;have bW:=hY dx;have qc:=hY dN;clear dx dN KV;go_enter func131,ntmps131;go_wp2_with fail;have KV:=MA.u;have dx:=bW.u;have dN:=qc.u;clear bW qc MA;generalize ((w.alloc (cO (gA g) 39)).alloc (cO #[iI x.n,.slice A1 x.es.length c1] 63))=W at*
 refine (wS g _).mono ?_;rintro e w1 ⟨rfl,aK⟩;have hx:=dN.trans aK;have hG:=KV.ext aK;have hB:=dx.ext aK;clear dx dN aK KV;have b0:=hG.ck 0;have b1:=hG.ck 1;have b2:=hG.ck 2;have b3:=hG.ck 3;have d0:=hB.ck 0
 cases hb:Tq g
 ·have HF:=hY (apH (x:=x) (p:=p) hb)
  exact qV
 have Xo:=hY hb;clear hb;go_wp2_with fail;refine (bn g x.n _).mono ?_;rintro e w2 ⟨rfl,bz⟩;replace hx:=hx.trans bz;replace hB:=hB.ext bz;clear b0 b1 b2 b3 bz d0 hG;have d0:=hB.ck 0;have d1:=hB.ck 1
 cases hv:vg g x.n
 ·have HF:=hY (apI (p:=p) hv)
  exact qV
 have HM:=hY (alr (p:=p) hv Xo.u);clear hv;go_wp2_with fail;refine (dO _ x _ (HG.u _ hx) hl).mono ?_;rintro e w3 ⟨rfl,bO⟩;replace hx:=hx.trans bO;replace hB:=hB.ext bO;clear d0 d1 bO;have d0:=hB.ck 0
 cases hv:je x
 ·have HF:=hY (HM.u.trans (adz (p:=p) hv))
  exact qV
 have HV:=hY hv;clear hv;go_wp2_with fail;refine (bU A n c p _ (hp.ext hx) hn hc).mono ?_;rintro e w4 ⟨rfl,fy⟩;replace hx:=hx.trans fy;replace hB:=hB.ext fy;clear d0 fy;have d0:=hB.ck 0
 cases UR:perm p
 ·have HF:=hY (HM.u.trans (adA (x:=x) UR))
  exact qV
 have HF:=hY (HM.u.trans (adB HV.u UR));clear UR;go_wp2;go_ret
 exact ⟨aI (by rw [HF.u,hlen.u]),hx⟩
theorem cE {P:Prop} (h:P:=by
 go_wp2;go_ret
 exact ⟨aI HV.u.symm,HX.u⟩):P:=h
theorem Cd (g h:Gt) (w:World):Calls prog 208 #[g.val,h.val] w fun e w'=>e=.returned (.bool (alike g h))/\Ext w w':=by
 have HX:Hid (Ext w ((w.alloc (cO (gA g) 39)).alloc (cO (gA h) 39))):=fT
 have dv:Hid (au ((w.alloc (cO (gA g) 39)).alloc (cO (gA h) 39)) w.heap.size 39 (gA g)/\au ((w.alloc (cO (gA g) 39)).alloc (cO (gA h) 39)) (w.heap.size+1) 39 (gA h)):=⟨(au.new w _ _).alloc _,au.newAt ag⟩;go_enter func208,ntmps208;go_upto_region 1 with fail;generalize ((w.alloc (cO (gA g) 39)).alloc (cO (gA h) 39))=W at*
 obtain ⟨⟨g0,g1,g2,g3⟩,-⟩:=aB dv.u.1;obtain ⟨⟨h0,h1,h2,h3⟩,-⟩:=aB dv.u.2
 cases e1:(g.k==h.k)
 ·skip;have HV:Hid (alike g h=false):=by unfold Hid alike;simp only [e1,oc,ku,pb,ic,pj,ma,ju,uD]
  exact cE
 ·skip
  cases e2:(g.k==10)
  ·skip
   cases e3:(g.k==11)
   ·skip;have HV:Hid (alike g h=false):=by unfold Hid alike;simp only [e1,e2,e3,oc,ku,pb,ic,pj,ma,ju,uD]
    exact cE
   ·skip
    cases e4:(g.a==h.a)
    ·skip
     cases e6:(g.a==h.b)
     ·skip;have HV:Hid (alike g h=false):=by unfold Hid alike;simp only [e1,e2,e3,e4,e6,oc,ku,pb,ic,pj,ma,ju,uD]
      exact cE
     ·skip
      cases e7:(g.b==h.a)
      ·skip;have HV:Hid (alike g h=false):=yR
       exact cE
      ·skip;have HV:Hid (alike g h=true):=yR
       exact cE
    ·skip
     cases e5:(g.b==h.b)
     ·skip
      cases e6:(g.a==h.b)
      ·skip;have HV:Hid (alike g h=false):=by unfold Hid alike;simp only [e1,e2,e3,e4,e5,e6,oc,ku,pb,ic,pj,ma,ju,uD]
       exact cE
      ·skip
       cases e7:(g.b==h.a)
       ·skip;have HV:Hid (alike g h=false):=yS
        exact cE
       ·skip;have HV:Hid (alike g h=true):=yS
        exact cE
     ·skip;have HV:Hid (alike g h=true):=by unfold Hid alike;simp only [e1,e2,e3,e4,e5,oc,ku,pb,ic,pj,ma,ju,uD]
      exact cE
  ·skip
   cases e4:(g.a==h.a)
   ·skip
    cases e6:(g.a==h.b)
    ·skip;have HV:Hid (alike g h=false):=by unfold Hid alike;simp only [e1,e2,e4,e6,oc,ku,pb,ic,pj,ma,ju,uD]
     exact cE
    ·skip
     cases e7:(g.b==h.a)
     ·skip;have HV:Hid (alike g h=false):=yT
      exact cE
     ·skip;have HV:Hid (alike g h=true):=yT
      exact cE
   ·skip
    cases e5:(g.b==h.b)
    ·skip
     cases e6:(g.a==h.b)
     ·skip;have HV:Hid (alike g h=false):=by unfold Hid alike;simp only [e1,e2,e4,e5,e6,oc,ku,pb,ic,pj,ma,ju,uD]
      exact cE
     ·skip
      cases e7:(g.b==h.a)
      ·skip;have HV:Hid (alike g h=false):=yU
       exact cE
      ·skip;have HV:Hid (alike g h=true):=yU
       exact cE
    ·skip;have HV:Hid (alike g h=true):=by unfold Hid alike;simp only [e1,e2,e4,e5,oc,ku,pb,ic,pj,ma,ju,uD]
     exact cE
end Go.Proofs.YtodhjgngkkcjgaaGreatDoor
