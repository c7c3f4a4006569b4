import Derived.Test.YtiajdbllccmokaaGreatDoorXp
import Derived.Test.YtiajdbllccmokaaGreatDoorXn
import Derived.Test.YtiajdbllccmokaaGreatDoorXo
namespace Go.Proofs.YtiajdbllccmokaaGreatDoor
open Go.ChangeShapes Go.WideShapes Go.ChangeAt Go.RowKit Go.Deep Go.Proofs.Tryz
set_option linter.unusedVariables false
set_option linter.unusedSimpArgs false
set_option maxRecDepth 100000
set_option maxHeartbeats 16000000
def DP (R:Nat->Int):Array Value:=#[iI (R 0),iI (R 1),iI (R 2),iI (R 3)]
theorem ahn (R:Nat->Int) {j:Nat} (hj:j<4):(DP R)[j]?=some (iI (R j)):=by
 rcases (aa:j=0\/j=1\/j=2\/j=3) with rfl|rfl|rfl|rfl<;>rfl
theorem ae3 {R R':Nat->Int} {j:Nat} {v:Int} (hj:j<4) (h:∀z,R' z=if z=j then v else R z):(DP R).setIfInBounds j (iI v)=DP R':=by
 unfold DP;rcases (aa:j=0\/j=1\/j=2\/j=3) with rfl|rfl|rfl|rfl<;>simp [h]
def GdI (w wr:World) (n:Nat) (es:List Ed) (A1:OA) (c1:Nat) (R:Nat->Int):Prop:=
 ay wr (w.heap.size+1) 3 (DP R)/\ay wr w.heap.size 42 #[iI (n:Int),.slice A1 es.length c1]/\Ext w wr
theorem ajz {adj:Int->Int->Bool} {s x y:Nat} {R:Nat->Int} (h:¬(R x=(s:Int)/\R y<0/\adj (x:Int) (y:Int)=true)):eN.AB adj s x y R=R:=by
 funext z;unfold eN.AB;rw [aK (fun h'=>h h'.2)]
theorem ajA {adj:Int->Int->Bool} {m:Int} {l:List Int} {k:Nat} (h:(adj m (k:Int) && !(fC (eN.rK adj m l k) (k:Int)))=false):eN.rK adj m l (k+1)=eN.rK adj m l k:=by
 rw [eN.rK,aK aW]
theorem ae4 {adj:Int->Int->Bool} {m:Int} {l:List Int} {k:Nat} (h:adj m (k:Int)=true) (h':fC (eN.rK adj m l k) (k:Int)=false):eN.rK adj m l (k+1)=eN.rK adj m l k++[(k:Int)]:=by
 rw [eN.rK,aX (by simp [h,h'])]
theorem DQ {P:Prop} (h:P:=by
 go_wp2;go_roundw
 case rel=>exact ⟨q+1,aa,az,by rw [HN2.u];exact aq hoq kl,Ju.trans kl⟩
 case measure=>simp [intOf];omega):P:=h
theorem abd (n a b:Nat) (es:List Ed) (A1:OA) (c1:Nat) (w:World) (h1:1<=n) (h4:n<=4) (ha:a<n) (hb:b<n) (h:Rd w w.heap.size 2 A1 es.length (bD es)) (hl:es.length<=2000000000000):
  Calls prog 77 #[.agg #[iI (n:Int),.slice A1 es.length c1],iI (a:Int),iI (b:Int)] w fun e w'=>e=.returned (iI (eN.mn (rq es) n a b))/\Ext w w':=by
 have HG:Hid (∀w',Ext w w'->eR w' w'.heap.size (.agg #[iI (n:Int),.slice A1 es.length c1]) ⟨n,es⟩):=fun w' hx=>⟨A1,c1,rfl,h.ext hx⟩
 have HS:=hY (fun s=>eN.aeO (adj:=rq es) ha hb s);have HL:=hY (fun (s:Nat) (hs:s<=4)=>eN.Wc (adj:=rq es) h4 (a:Int) hs);clear h;go_enter func77,ntmps77;go_wp2_with fail;refine (aF _ _ _ _ aa aa).mono ?_;rintro e w1 ⟨rfl,rfl⟩;go_wp2_with fail;refine (aF _ _ _ _ aa aa).mono ?_;rintro e w1 ⟨rfl,rfl⟩;go_wp2_with fail;refine (aF _ _ _ _ aa aa).mono ?_;rintro e w1 ⟨rfl,rfl⟩;have eY:ay ((w.alloc (cO #[iI (n:Int),.slice A1 es.length c1] 42)).alloc (cO #[iI (a:Int)] 3)) w.heap.size 42 #[iI (n:Int),.slice A1 es.length c1]:=(ay.new _ _ _).alloc _;have dC:Ext w ((w.alloc (cO #[iI (n:Int),.slice A1 es.length c1] 42)).alloc (cO #[iI (a:Int)] 3)):=aD
 have hO0:((w.alloc (cO #[iI (n:Int),.slice A1 es.length c1] 42)).alloc (cO #[iI (a:Int)] 3)).ownsRow w.heap.size 3 1 (.slice (some ⟨w.heap.size+1,0,none⟩) 1 1) 1 (aG [(a:Int)]):=bL aD _ _ 1 1 #[iI (a:Int)] _ ag rfl rfl aa;have eG:=hY eY;have ke:=hY dC;have nN:=hY hO0;clear eY dC hO0;go_wp2;replace eG:=eG.u;replace ke:=ke.u;replace nN:=nN.u;generalize ((w.alloc (cO #[iI (n:Int),.slice A1 es.length c1] 42)).alloc (cO #[iI (a:Int)] 3))=W0 at*
 go_loopw [7,8] (fun v i wr=>∃s:Nat,s<=n/\i=iI s/\wr.ownsRow w.heap.size 3 1 v (eN.rS (rq es) n a s).length (aG (eN.rS (rq es) n a s))/\Hid (∀t,t<s->eN.lvl (rq es) n a t b=false)/\ay wr w.heap.size 42 #[iI (n:Int),.slice A1 es.length c1]/\Ext w wr) (fun _ i _=>n - (intOf i).toNat)
 case atStart=>exact ⟨0,lJ _,rfl,nN,fun t ht=>absurd ht aa,eG,ke⟩
 case round=>
  clear nN eG ke;obtain ⟨s,hs,rfl,ho,HQ,hB,hx⟩:=hrel;have Vi:=HL.u s aa;have hhs:=HS.u s;have HH:=hY hhs;have d0:=hB.ck 0;clear hhs;have hrS:Hid (eN.rS (rq es) n a (s+1)=eN.rI (rq es) n (eN.rS (rq es) n a s) (eN.rS (rq es) n a s).length):=rfl;generalize eN.rS (rq es) n a s=met at*
  obtain ⟨A7,c7,rfl,BB⟩:=au ho
  by_cases bh:s<n
  ·go_wp2_with fail;refine (dv A7 _ c7 met (b:Int) _ BB aa).mono ?_;rintro e w1 ⟨rfl,rfl⟩
   cases hh:fC met (b:Int)
   ·have mr:Hid (∀t,t<s+1->eN.lvl (rq es) n a t b=false):=fun t ht=>by
     by_cases e:t=s
     ·subst e;rw [<-HH.u];exact hh
     ·exact HQ.u t aa
    go_wp2_with (at_builtin;refine my (w0:=wr) rfl _ _ rfl _ 0 [] rfl (aJ wr wr _ _ (xZ _)) aD A7 _ c7 met rfl (BB.ext aD) aa ?_;intro v9 w2 AZ tA hg9 hb9)
    clear hg9 hb9;simp only [lM,lN] at AZ;have rh:=hB.ext tA;have mg:=BB.ext tA;have bH:=hx.trans tA;clear d0;obtain ⟨L,hLm⟩:=ey (met.length);have HLM:=hY hLm;have aoA:=BB.len bO aa;rw [<-hLm] at BB AZ Vi |-;have arX:L<=625:=Vi;have kN:Hid (w2.ownsRow wr.heap.size 3 1 v9 (eN.rI (rq es) n met 0).length (aG (eN.rI (rq es) n met 0))):=by
     unfold Hid;rw [show eN.rI (rq es) n met 0=met from rfl,<-hLm]
     exact AZ
    have HLI:Hid (∀p,p<=L->(eN.rI (rq es) n met p).length<=3125):=fun p hp=>eN.Wd aa h4 aa
    clear hLm aoA AZ rh mg bH ho;obtain ⟨wo,rfl⟩:∃wo:World,wo=wr:=⟨_,rfl⟩
    go_loopw [9,10] (fun v i wr=>∃p:Nat,p<=L/\i=iI p/\wr.ownsRow wo.heap.size 3 1 v (eN.rI (rq es) n met p).length (aG (eN.rI (rq es) n met p))/\Ext wo wr) (fun _ i _=>L - (intOf i).toNat)
    case atStart=>exact ⟨0,lJ _,rfl,kN.u,tA⟩
    case round=>
     clear kN tA;obtain ⟨p,hp,rfl,Sv,hxp⟩:=hrel
     by_cases aoB:p<L
     ·obtain ⟨b7,o7,m,rfl,GM,hm,c0⟩:=eT BB aoB;have HM:Hid (eN.rI (rq es) n met (p+1)=eN.rK (rq es) m (eN.rI (rq es) n met p) n):=by
       unfold Hid;rw [eN.rI,lP,hm];rfl
      have Hi:=HLI.u p hp;clear hm;go_wp2;generalize eN.rI (rq es) n met p=nx at*
      obtain ⟨wp,rfl⟩:∃wp:World,wp=wr:=⟨_,rfl⟩
      go_loopw [9,11] (fun v i wr=>∃q:Nat,q<=n/\i=iI q/\wr.ownsRow wo.heap.size 3 1 v (eN.rK (rq es) m nx q).length (aG (eN.rK (rq es) m nx q))/\Ext wo wr) (fun _ i _=>n - (intOf i).toNat)
      case atStart=>exact ⟨0,lJ _,rfl,Sv,hxp⟩
      case round=>
       clear Sv hxp;obtain ⟨q,hq,rfl,hoq,Ju⟩:=hrel;have hBq:=hB.ext Ju;have d0:=hBq.ck 0
       by_cases avt:q<n
       ·have d1:=hBq.ck 1;have Si:wr.cell? (aA b7 (o7+p))=some (iI m):=(Ju.cell (p:=(aA b7 (o7+p))) GM).trans c0;have hxw:=hx.trans Ju;have hlk:=eN.Ot (adj:=rq es) (m:=m) (l:=nx) q;have HY:=hY (ae4 (adj:=rq es) (m:=m) (l:=nx) (k:=q));have HN:=hY (ajA (adj:=rq es) (m:=m) (l:=nx) (k:=q));obtain ⟨A9,c9,rfl,xr⟩:=au hoq;have VV:(0:Int)<=(p:Int):=aa
        have hpL:(p:Int)<(L:Int):=aa
        have HK:Hid (∀w',Ext wr w'->w'.cell? (aA w.z 0)=some (iI (n:Int))/\w'.cell? (aA w.z 1)=some (.slice A1 es.length c1)/\w'.cell? (aA b7 (o7+p))=some (iI m)):=fun w' z=>⟨(hBq.ext z).cell 0,(hBq.ext z).cell 1,(z.cell (p:=(aA b7 (o7+p))) (sC GM Ju.size)).trans Si⟩
        generalize eN.rK (rq es) m nx q=nq at*
        cases hc:rq es m (q:Int)
        ·have HN2:=hY (HN.u (by rw [hc];rfl));go_wp2
         first|go_region_with ((go_at_call 76;refine (dz _ ⟨n,es⟩ m q _ (HG.u _ hxw.drew) hl).mono ?_;rintro e w3 ⟨rfl,kl⟩;replace kl:Ext wr w3:=Ext.trans (xZ wr).drew kl;have sg:(fJ es m (q:Int)||fJ es (q:Int) m)=false:=hc;rw [sg]))|fail
         all_goals
          exact DQ
        ·cases FZ:fC nq (q:Int)
         ·have HY2:=hY (HY.u hc FZ);go_wp2
          go_region_held3 (fun w'=>w'.cell? (aA w.z 0)=some (iI (n:Int))/\w'.cell? (aA w.z 1)=some (.slice A1 es.length c1)/\w'.cell? (aA b7 (o7+p))=some (iI m))
           (first|go_keep|exact HK.u _ aQ)
           (first
            |(go_at_call 76;refine (dz _ ⟨n,es⟩ m q _ (HG.u _ hxw.drew) hl).mono ?_;rintro e w3 ⟨rfl,kl⟩;replace kl:Ext wr w3:=Ext.trans (xZ wr).drew kl;have sg:(fJ es m (q:Int)||fJ es (q:Int) m)=true:=hc;rw [sg])
            |(go_at_call 81;refine (dv A9 _ c9 nq (q:Int) _ (xr.ext kl) aa).mono ?_;rintro e w4 ⟨rfl,rfl⟩;rw [FZ]))
          all_goals
           go_wp2_with (at_builtin;refine qb (w0:=wo) rfl _ _ rfl _ _ nq rfl (aq hoq kl) (Ju.trans kl) (q:Int) _ _ rfl ag aa ?_;intro v5 w5 jM cN xV Qh)
           go_roundw
           case rel=>exact ⟨q+1,aa,az,by rw [HY2.u,lA];exact jM,cN⟩
           case measure=>simp [intOf];omega
         ·have HN2:=hY (HN.u (by rw [FZ];simp));go_wp2
          go_region_held3 (fun w'=>w'.cell? (aA w.z 0)=some (iI (n:Int))/\w'.cell? (aA w.z 1)=some (.slice A1 es.length c1)/\w'.cell? (aA b7 (o7+p))=some (iI m))
           (first|go_keep|exact HK.u _ aQ)
           (first
            |(go_at_call 76;refine (dz _ ⟨n,es⟩ m q _ (HG.u _ hxw.drew) hl).mono ?_;rintro e w3 ⟨rfl,kl⟩;replace kl:Ext wr w3:=Ext.trans (xZ wr).drew kl;have sg:(fJ es m (q:Int)||fJ es (q:Int) m)=true:=hc;rw [sg])
            |(go_at_call 81;refine (dv A9 _ c9 nq (q:Int) _ (xr.ext kl) aa).mono ?_;rintro e w4 ⟨rfl,rfl⟩;rw [FZ]))
          all_goals
           exact DQ
       ·obtain rfl:q=n:=aa
        go_wp2;go_roundw
        case rel=>exact ⟨p+1,aa,az,by rw [HM.u];exact hoq,Ju⟩
        case measure=>simp [intOf];omega
     ·obtain rfl:p=L:=aa
      have aoD:=HLM.u;have hBp:=hB.ext hxp;subst aoD;go_wp2;go_roundw
      case rel=>exact ⟨s+1,aa,az,by rw [hrS.u];exact aC Sv hx.size,mr,hBp,hx.trans hxp⟩
      case measure=>simp [intOf];omega
   ·have HF:=hY (eN.ny bh (HH.u.symm.trans hh) HQ.u);go_wp2;go_ret
    exact ⟨dZ HF.u.symm,hx⟩
  ·obtain rfl:s=n:=aa
   have HF:=hY (eN.wj HQ.u);go_wp2;go_ret
   exact ⟨dZ HF.u.symm,hx⟩
theorem wD {P:Prop} (h:P:=by
 go_wp2_with fail;refine (bI _ _ _ _ HB.u).mono ?_;rintro e w1 ⟨rfl,rfl⟩;go_wp2;go_ret
 exact ⟨dZ HF.u.symm,xx⟩):P:=h
theorem bM (v:Value) (x:Gr) (a b:Int) (w:World) (h:eR w w.heap.size v x) (hl:x.es.length<=2000000000000):
  Calls prog 77 #[v,iI a,iI b] w fun e w'=>e=.returned (iI (gd x a b))/\Ext w w':=by
 obtain ⟨A1,c1,rfl,h1⟩:=h
 by_cases hN:1<=x.n/\x.n<=4
 ·obtain ⟨n,hn⟩:=lD (aa:0<=x.n)
  by_cases ha:0<=a/\a<x.n
  ·by_cases hb:0<=b/\b<x.n
   ·obtain ⟨i,rfl⟩:=lD ha.1;obtain ⟨j,rfl⟩:=lD hb.1;rw [Jj hn aa aa aa aa aa aa,hn]
    exact abd n i j x.es A1 c1 w aa aa aa aa h1 hl
   ·have HF:=hY (LH (x:=x) (a:=a) (b:=b) aa);have HB:Hid (b<0\/x.n - 1<b):=bZ
    obtain ⟨Zy,hN4⟩:=hN;obtain ⟨ha1,ha2⟩:=ha;clear hb hn;go_enter func77,ntmps77;go_wp2_with fail;refine (aF _ _ _ _ aa aa).mono ?_;rintro e w1 ⟨rfl,rfl⟩;go_wp2_with fail;refine (aF _ _ _ _ aa aa).mono ?_;rintro e w1 ⟨rfl,rfl⟩
    exact wD
  ·have HF:=hY (LH (x:=x) (a:=a) (b:=b) aa);have HB:Hid (a<0\/x.n - 1<a):=bZ
   obtain ⟨Zy,hN4⟩:=hN;clear ha hn;go_enter func77,ntmps77;go_wp2_with fail;refine (aF _ _ _ _ aa aa).mono ?_;rintro e w1 ⟨rfl,rfl⟩
   exact wD
 ·have HF:=hY (LH (x:=x) (a:=a) (b:=b) aa);have HB:Hid (x.n<1\/4<x.n):=bZ
  clear hN;go_enter func77,ntmps77
  exact wD
def conn (x:Gr):Bool:=decide (1<=x.n) && decide (x.n<=4) && (List.range x.n.toNat).all fun k=>decide (0<=gd x 0 (k:Int))
theorem abf {x:Gr} (h:x.n<1):conn x=false:=by
 unfold conn;rw [show decide (1<=x.n)=false from sU h];rfl
theorem abg {x:Gr} (h:4<x.n):conn x=false:=by
 unfold conn;rw [show decide (x.n<=4)=false from sU h];simp
theorem abh {x:Gr} {k n:Nat} (hn:x.n=n) (h:k<n) (h0:gd x 0 (k:Int)= -1):conn x=false:=by
 unfold conn;have:((List.range x.n.toNat).all fun k=>decide (0<=gd x 0 (k:Int)))=false:=by
  rw [BR]
  exact ⟨k,by rw [hn];simpa using h,by rw [h0];simp⟩
 rw [this,fX]
theorem WG {x:Gr} {n:Nat} (hn:x.n=n) (h1:1<=n) (h4:n<=4) (h:∀k,k<n->0<=gd x 0 (k:Int)):conn x=true:=by
 unfold conn;have:((List.range x.n.toNat).all fun k=>decide (0<=gd x 0 (k:Int)))=true:=by
  rw [lO];intro k hk;rw [hn] at hk;simp at hk;simpa using h k hk
 rw [this,hn];simp;omega
theorem tB (v:Value) (x:Gr) (w:World) (h:eR w w.heap.size v x) (hl:x.es.length<=2000000000000):
  Calls prog 64 #[v] w fun e w'=>e=.returned (.bool (conn x))/\Ext w w':=by
 obtain ⟨A1,c1,rfl,h1⟩:=h;have HG:Hid (∀w',Ext w w'->eR w' w'.heap.size (.agg #[iI x.n,.slice A1 x.es.length c1]) x):=fun w' hx=>⟨A1,c1,rfl,h1.ext hx⟩
 clear h1;have eY:ay (w.alloc (cO #[iI x.n,.slice A1 x.es.length c1] 42)) w.heap.size 42 #[iI x.n,.slice A1 x.es.length c1]:=ay.new _ _ _;have dC:Ext w (w.alloc (cO #[iI x.n,.slice A1 x.es.length c1] 42)):=aD
 have eG:=hY eY;have ke:=hY dC;clear eY dC
 by_cases rr:x.n<1
 ·have HF:=hY (abf rr);have HN:Hid (x.n<1\/4<x.n):=.inl rr;go_enter func64,ntmps64;go_wp2;have eY:=eG.u;have dC:=ke.u;clear eG ke;generalize (w.alloc (cO #[iI x.n,.slice A1 x.es.length c1] 42))=Wb at*
  go_loop [3] (fun i=>i=iI 0) (fun _=>0)
  case atStart=>rfl
  case round=>
   obtain rfl:=hrel;have d0:=eY.ck 0;have fe:x.n<=4:=aa
   have cH:¬(0:Int)<x.n:=aa
   go_wp2_with fail;refine (bI _ _ _ _ HN.u).mono ?_;rintro e w1 ⟨rfl,rfl⟩;go_wp2;go_ret
   exact ⟨aT HF.u.symm,dC⟩
 by_cases hhi:4<x.n
 ·have HF:=hY (abg hhi);have RU:=hY (LH (x:=x) (a:=0) (b:=0) aa);go_enter func64,ntmps64;go_wp2;have eY:=eG.u;have dC:=ke.u;clear eG ke;generalize (w.alloc (cO #[iI x.n,.slice A1 x.es.length c1] 42))=Wb at*
  go_loop [3] (fun i=>i=iI 0) (fun _=>0)
  case atStart=>rfl
  case round=>
   obtain rfl:=hrel;have d0:=eY.ck 0;have d1:=eY.ck 1;have fe:¬x.n<=4:=aa
   have cH:4<=x.n:=aa
   go_wp2_with fail;refine (bM _ x 0 0 _ (HG.u _ dC) hl).mono ?_;rintro e w1 ⟨rfl,ki⟩;rw [RU.u];go_wp2;go_ret
   exact ⟨aT HF.u.symm,dC.trans ki⟩
 obtain ⟨n,hn⟩:=lD (aa:0<=x.n);have nM:1<=n:=aa
 have xT:n<=4:=aa
 have HN:=hY hn;rw [hn] at eG ke HG |-;clear hn rr hhi;go_enter func64,ntmps64;go_wp2;have eY:=eG.u;have dC:=ke.u;clear eG ke;generalize (w.alloc (cO #[iI (n:Int),.slice A1 x.es.length c1] 42))=Wb at*
 go_loopw [3] (fun i wr=>∃k:Nat,k<=n/\i=iI k/\Hid (∀j,j<k->0<=gd x 0 (j:Int))/\Ext Wb wr) (fun i _=>n - (intOf i).toNat)
 case atStart=>exact ⟨0,lJ _,rfl,fun j hj=>absurd hj aa,xZ _⟩
 case round=>
  obtain ⟨k,hk,rfl,HQ,hx⟩:=hrel;have hB:=eY.ext hx;have d0:=hB.ck 0;have d1:=hB.ck 1
  by_cases bh:k<n
  ·go_wp2_with fail;refine (bM _ x 0 k _ (HG.u _ (dC.trans hx)) hl).mono ?_;rintro e w1 ⟨rfl,ki⟩;have LJ:=pL x 0 (k:Int)
   by_cases hg:gd x 0 (k:Int)= -1
   ·have HF:=hY (abh HN.u bh hg);rw [hg];clear hg LJ;go_wp2;go_ret
    exact ⟨aT HF.u.symm,(dC.trans hx).trans ki⟩
   ·have mr:Hid (∀j,j<k+1->0<=gd x 0 (j:Int)):=fun j hj=>by
     by_cases e:j=k
     ·subst e;omega
     ·exact HQ.u j aa
    have hgb:¬gd x 0 (k:Int)<0:=aa
    clear hg LJ;generalize gd x 0 (k:Int)=G at*
    go_wp2;go_roundw
    case rel=>exact ⟨k+1,aa,az,mr,hx.trans ki⟩
    case measure=>simp [intOf];omega
  ·obtain rfl:k=n:=aa
   have HF:=hY (WG HN.u nM xT HQ.u);go_wp2_with fail;refine (aF _ _ _ _ aa aa).mono ?_;rintro e w1 ⟨rfl,rfl⟩;go_wp2;go_ret
   exact ⟨aT HF.u.symm,dC.trans hx⟩
def yk (m:Int) (es:List Ed) (i:Nat) (e:Ed):Bool:=!(e.a==e.b) && decide (0<=e.a) && decide (e.a<=m) && decide (0<=e.b) && decide (e.b<=m) && !((es.take i).any fun y=>Kn y e)
def WH (m:Int) (es:List Ed):Bool:=(List.range es.length).all fun i=>match es[i]? with
 |some e=>yk m es i e
 |none=>true
def hU (x:Gr):Bool:=WH (wrap64 (x.n - 1)) x.es && conn x
theorem Jv {x:Gr} {m:Int} (hm:m=wrap64 (x.n - 1)) {k:Nat} {e:Ed} (h:x.es[k]?=some e) (ho:yk m x.es k e=false):hU x=false:=by
 subst hm;have:WH (wrap64 (x.n - 1)) x.es=false:=by
  unfold WH;rw [BR]
  exact ⟨k,by simpa using (gU.1 h).1,by rw [h];simp [ho]⟩
 unfold hU;rw [this,js]
theorem abi {x:Gr} {m:Int} (hm:m=wrap64 (x.n - 1)) (h:∀i e,x.es[i]?=some e->yk m x.es i e=true):hU x=conn x:=by
 subst hm;have:WH (wrap64 (x.n - 1)) x.es=true:=by
  unfold WH;rw [lO];intro i _;split
  ·rename_i e he
   exact h i e he
  ·rfl
 unfold hU;rw [this,kQ]
theorem Sw {m:Int} {es:List Ed} {i:Nat} {e:Ed} (h:(e.a==e.b)=true):yk m es i e=false:=by unfold yk;rw [h];simp
theorem ae6 {m:Int} {es:List Ed} {i:Nat} {e:Ed} (h:e.a<0\/m<e.a):yk m es i e=false:=by
 unfold yk;rcases h with h|h
 ·rw [show decide (0<=e.a)=false from sU h];simp
 ·rw [show decide (e.a<=m)=false from sU h];simp
theorem ae7 {m:Int} {es:List Ed} {i:Nat} {e:Ed} (h:e.b<0\/m<e.b):yk m es i e=false:=by
 unfold yk;rcases h with h|h
 ·rw [show decide (0<=e.b)=false from sU h];simp
 ·rw [show decide (e.b<=m)=false from sU h];simp
def Bc (es:List Ed) (i:Nat) (e:Ed):Bool:=(es.take i).any fun y=>Kn y e
theorem WI {m:Int} {es:List Ed} {i:Nat} {e:Ed} (h:Bc es i e=true):yk m es i e=false:=by unfold yk;rw [show ((es.take i).any fun y=>Kn y e)=true from h];simp
theorem WJ {m:Int} {es:List Ed} {i:Nat} {e:Ed} (h:(e.a==e.b)=false) (h1:0<=e.a) (h2:e.a<=m) (h3:0<=e.b) (h4:e.b<=m) (h5:Bc es i e=false):yk m es i e=true:=by
 unfold yk;rw [show ((es.take i).any fun y=>Kn y e)=false from h5,h];simp [h1,h2,h3,h4]
theorem LP (x y:Ed):Kn x y=Kn y x:=by
 unfold Kn;rw [Ca];simp;omega
theorem Sx {es:List Ed} {i:Nat} {e:Ed} (h:es[i]?=some e):Bc es (i+1)=fun z=>Kn z e||Bc es i z:=by
 funext z;unfold Bc;rw [aL h,List.any_append,Bool.or_comm];simp [LP]
theorem WL {es:List Ed} {i j:Nat} {y e:Ed} (h:es[j]?=some y) (hj:j<i) (hq:Kn y e=true):Bc es i e=true:=by
 unfold Bc;rw [yO]
 exact ⟨y,lG (by rw [zK hj];exact h),hq⟩
theorem abj {es:List Ed} {j:Nat} {y e:Ed} (h:es[j]?=some y) (h0:Bc es j e=false) (hq:Kn y e=false):Bc es (j+1) e=false:=by
 rw [Sx h];show (Kn e y||Bc es j e)=false;rw [h0,LP,hq];rfl
theorem DS {P:Prop} (h:P:=by
 go_wp2_with fail;refine (bI _ _ _ _ HA.u).mono ?_;rintro e1 w1 ⟨rfl,rfl⟩;go_wp2;go_ret
 exact ⟨aT HF.u.symm,hx.alloc _⟩):P:=h
theorem qA {P:Prop} (h:P:=by
 go_wp2;go_ret
 exact ⟨aT HF.u.symm,xx⟩):P:=h
theorem dJ (v:Value) (x:Gr) (w:World) (h:eR w w.heap.size v x) (hl:x.es.length<=2000000000000):
  Calls prog 45 #[v] w fun e w'=>e=.returned (.bool (hU x))/\Ext w w':=by
 obtain ⟨A1,c1,rfl,h1⟩:=h;have HG:Hid (∀w',Ext w w'->eR w' w'.heap.size (.agg #[iI x.n,.slice A1 x.es.length c1]) x):=fun w' hx=>⟨A1,c1,rfl,h1.ext hx⟩
 obtain ⟨L,hL⟩:=ey (x.es.length);have HL:=hY hL;rw [<-hL] at h1 HG hl |-;clear hL;have eY:ay (w.alloc (cO #[iI x.n,.slice A1 L c1] 42)) w.heap.size 42 #[iI x.n,.slice A1 L c1]:=ay.new _ _ _;have dC:Ext w (w.alloc (cO #[iI x.n,.slice A1 L c1] 42)):=aD
 have eG:=hY eY;have ke:=hY dC;clear eY dC;obtain ⟨m,hm⟩:=ey (wrap64 (x.n - 1));have HM:=hY hm;clear hm;go_enter func45,ntmps45;go_wp2;have eY:=eG.u;have dC:=ke.u;clear eG ke;generalize (w.alloc (cO #[iI x.n,.slice A1 L c1] 42))=W0 at*
 go_loopw [3] (fun i wr=>∃k:Nat,k<=L/\i=iI k/\Hid (∀i e,i<k->x.es[i]?=some e->yk m x.es i e=true)/\ay wr w.heap.size 42 #[iI x.n,.slice A1 L c1]/\Ext w wr) (fun i _=>L - (intOf i).toNat)
 case atStart=>exact ⟨0,lJ _,rfl,fun i e h=>absurd h aa,eY,dC⟩
 case round=>
  clear eY dC;obtain ⟨k,hk,rfl,HQ,hB,hx⟩:=hrel;have d0:=hB.ck 0;have d1:=hB.ck 1
  by_cases bh:k<L
  ·obtain ⟨b,o,e,rfl,hb,he,r0,r1⟩:=IK (h1.ext hx) bh;have HE:=hY he;clear he;have avv:=hB.lt
   by_cases ha:e.a<0\/m<e.a
   ·have HF:=hY (Jv HM.u HE.u (ae6 ha));have HA:Hid (e.a<0\/wrap64 (x.n - 1)<e.a):=by rw [<-HM.u];exact ha
    clear ha
    exact DS
   have ha1:0<=e.a:=aa
   have ha2:e.a<=m:=aa
   have HA2:Hid (e.a<=wrap64 (x.n - 1)):=by rw [<-HM.u];exact ha2
   clear ha;go_wp2_with fail;refine (aF _ _ _ _ ha1 HA2.u).mono ?_;rintro e1 w1 ⟨rfl,rfl⟩
   by_cases rb:e.b<0\/m<e.b
   ·have HF:=hY (Jv HM.u HE.u (ae7 rb));have HA:Hid (e.b<0\/wrap64 (x.n - 1)<e.b):=by rw [<-HM.u];exact rb
    clear rb
    exact DS
   have mS:0<=e.b:=aa
   have vG:e.b<=m:=aa
   have fV:Hid (e.b<=wrap64 (x.n - 1)):=by rw [<-HM.u];exact vG
   clear rb;go_wp2_with fail;refine (aF _ _ _ _ mS fV.u).mono ?_;rintro e1 w1 ⟨rfl,rfl⟩
   cases hab:(e.a==e.b)
   case true=>
    have HF:=hY (Jv HM.u HE.u (Sw hab));go_wp2;go_ret
    exact ⟨aT HF.u.symm,hx.alloc _⟩
   go_wp2;have hBe:ay (wr.alloc (cO #[iI e.a,iI e.b] 95)) wr.heap.size 95 #[iI e.a,iI e.b]:=ay.new _ _ _;have rh:=hB.alloc (cO #[iI e.a,iI e.b] 95);have bH:=hx.alloc (cO #[iI e.a,iI e.b] 95);clear r0 r1 d0 d1 hB hx;generalize hs:wr.heap.size=s at*
   generalize (wr.alloc (cO #[iI e.a,iI e.b] 95))=We at*
   clear hs;have mg:=h1.ext bH;have d1:=rh.ck 1;have e0:=hBe.ck 0;have e1:=hBe.ck 1
   go_loopw [5] (fun i wr=>∃j:Nat,j<=k/\i=iI j/\Hid (Bc x.es j e=false)/\∃q,wr=We.drewN q) (fun i _=>k - (intOf i).toNat)
   case atStart=>exact ⟨0,lJ _,rfl,by simp [Hid,Bc],0,rfl⟩
   case round=>
    obtain ⟨j,hj,rfl,HJ,q,rfl⟩:=hrel
    by_cases hlj:j<k
    ·obtain ⟨b',o',y,eA,rb,hy,s0,s1⟩:=IK mg (aa:j<L);injection eA with eA;injection eA with eA1 eA2;subst eA1 eA2;have HY:=hY hy;clear hy;have FY:(0:Int)<=(j:Int):=aa
     have hjL:(j:Int)<(L:Int):=aa
     have HEG:=aak
     cases hq:Kn y e
     ·have HN2:=hY (abj HY.u HJ.u hq);have HN:=(show ∀w,(Op.equalIn 10000 95 y.val e.val).run prog w=.ok false w from fun w=>by rw [GJ,hq]);go_wp2;go_quiet (fail);go_wp2;go_roundw
      case rel=>exact ⟨j+1,aa,az,HN2,_,rfl⟩
      case measure=>simp [intOf];omega
     ·have HF:=hY (Jv HM.u HE.u (WI (WL HY.u hlj hq)));have HN:=(show ∀w,(Op.equalIn 10000 95 y.val e.val).run prog w=.ok true w from fun w=>by rw [GJ,hq]);go_wp2;go_quiet (fail)
      exact qA
    ·obtain rfl:j=k:=aa
     have HY:=hY (WJ (m:=m) (es:=x.es) (i:=j) hab ha1 ha2 mS vG HJ.u);go_wp2;go_roundw
     case rel=>
      refine ⟨j+1,aa,az,fun i e' hi he'=>?_,rh.ext ((xZ We).drewN q),bH.drewN q⟩
      by_cases Fz:i=j
      ·subst Fz;have:=HE.u;rw [he'] at this;injection this with this;rw [this]
       exact HY.u
      ·exact HQ.u i e' aa he'
     case measure=>simp [intOf];omega
  ·obtain rfl:k=L:=aa
   have HF:=hY (abi HM.u (fun i e h=>HQ.u i e (by rw [HL.u];exact (gU.1 h).1) h));go_wp2_with fail;refine (tB _ x _ (HG.u _ hx) (by rw [<-HL.u];exact hl)).mono ?_;rintro e1 w1 ⟨rfl,ki⟩;go_wp2;go_ret
   exact ⟨aT HF.u.symm,hx.trans ki⟩
def ud (x:Gr) (b a:Int) (d:Nat):Option Nat:=(List.range x.n.toNat).find? fun k=>rq x.es a (k:Int) && (gd x (k:Int) b==(d:Int))
def TS (x:Gr) (b:Int):Nat->Int->List Int
 |0,_=>[]
 |d+1,a=>match ud x b a d with
  |some k=>(k:Int)::TS x b d (k:Int)
  |none=>[]
def jz (x:Gr) (a b:Int):List Int:=if gd x a b<0 then [] else a::TS x b (gd x a b).toNat a
theorem WM {x:Gr} {a b:Int} (h:gd x a b<0):jz x a b=[]:=aX h
theorem Hj {x:Gr} {a b:Int} {d:Nat} (h:gd x a b=d):jz x a b=a::TS x b d a:=by
 unfold jz;rw [aK aa,h];rfl
theorem WN {x:Gr} {a b:Int} (h:0<=gd x a b):∃n i j:Nat,x.n=n/\1<=n/\n<=4/\a=i/\b=j/\i<n/\j<n/\gd x a b=eN.mn (rq x.es) n (i:Int) (j:Int):=by
 by_cases hc:1<=x.n/\x.n<=4/\0<=a/\a<x.n/\0<=b/\b<x.n
 ·obtain ⟨n,hn⟩:=lD (aa:0<=x.n);obtain ⟨i,hi⟩:=lD (aa:0<=a);obtain ⟨j,hj⟩:=lD (aa:0<=b)
  exact ⟨n,i,j,hn,aa,aa,hi,hj,aa,aa,by rw [Jj hn aa aa aa aa aa aa,hi,hj]⟩
 ·rw [LH hc] at h;omega
theorem LQ {x:Gr} {a b:Int} {d:Nat} (h:gd x a b=((d+1:Nat):Int)):∃k,ud x b a d=some k:=by
 obtain ⟨n,i,j,hn,h1,h4,rfl,rfl,hi,hj,hg⟩:=WN (aa:0<=gd x a b);rw [hg] at h;obtain ⟨k,hk,hc,hd⟩:=eN.Oo hi hj h;have hx:gd x (k:Int) (j:Int)=(d:Int):=by rw [Jj hn h1 h4 aa aa aa aa,hd]
 cases hf:ud x (j:Int) (i:Int) d with
 |some k=>exact ⟨k,rfl⟩
 |none=>
  unfold ud at hf;rw [Ir] at hf;have:=hf k (by rw [hn];simpa using hk);rw [hc,hx] at this;simp at this
theorem LR {x:Gr} {a b:Int} {d k:Nat} (h:ud x b a d=some k):(k:Int)<x.n/\rq x.es a (k:Int)=true/\gd x (k:Int) b=(d:Int)/\∀j:Nat,j<k->(rq x.es a (j:Int) && (gd x (j:Int) b==(d:Int)))=false:=by
 unfold ud at h;rw [List.find?_range_eq_some] at h;obtain ⟨h1,h2,h3⟩:=h;simp at h1 h2;refine ⟨aa,h1.1,h1.2,fun j hj=>?_⟩;have:=h3 j hj
 cases hq:(rq x.es a (j:Int) && (gd x (j:Int) b==(d:Int)))
 ·rfl
 ·rw [hq] at this;cases this
theorem LS {x:Gr} {a b:Int} {d k:Nat} (h:ud x b a d=some k):TS x b (d+1) a=(k:Int)::TS x b d (k:Int):=by
 rw [TS,h]
theorem QB {x:Gr} {b:Int}:∀d a,(TS x b d a).length<=d
 |0,_=>by simp [TS]
 |d+1,a=>by
  rw [TS];split
  ·have:=QB (x:=x) (b:=b) d;simp;rename_i k _
   exact this _
  ·simp
theorem Sy (x:Gr) (a b:Int):(jz x a b).length<=5:=by
 have h:=pL x a b;unfold jz;split
 ·simp
 ·have:=QB (x:=x) (b:=b) (gd x a b).toNat a;simp;omega
theorem ko (v:Value) (x:Gr) (a b:Int) (w:World) (h:eR w w.heap.size v x) (hl:x.es.length<=2000000000000):
  Calls prog 98 #[v,iI a,iI b] w fun e w'=>∃A len cap,e=.returned (.slice A len cap)/\len=(jz x a b).length/\w'.ownsRow w.heap.size 3 1 (.slice A len cap) len (aG (jz x a b))/\Ext w w':=by
 obtain ⟨A1,c1,rfl,h1⟩:=h;have HG:Hid (∀w',Ext w w'->eR w' w'.heap.size (.agg #[iI x.n,.slice A1 x.es.length c1]) x):=fun w' hx=>⟨A1,c1,rfl,h1.ext hx⟩
 have LJ:=pL x a b;clear h1;have eY:ay (w.alloc (cO #[iI x.n,.slice A1 x.es.length c1] 42)) w.heap.size 42 #[iI x.n,.slice A1 x.es.length c1]:=ay.new _ _ _;have dC:Ext w (w.alloc (cO #[iI x.n,.slice A1 x.es.length c1] 42)):=aD
 have eG:=hY eY;have ke:=hY dC;clear eY dC;go_enter func98,ntmps98;go_wp2_with fail;have hO0:((w.alloc (cO #[iI x.n,.slice A1 x.es.length c1] 42)).alloc (cO #[] 3)).ownsRow (w.alloc (cO #[iI x.n,.slice A1 x.es.length c1] 42)).heap.size 3 1 (.slice (some ⟨w.heap.size+1,0,none⟩) 0 0) 0 (aG []):=bL (xZ _) _ _ 1 0 #[] _ ag rfl rfl aa;have hE0:Ext (w.alloc (cO #[iI x.n,.slice A1 x.es.length c1] 42)) ((w.alloc (cO #[iI x.n,.slice A1 x.es.length c1] 42)).alloc (cO #[] 3)):=(xZ _).alloc _;generalize ((w.alloc (cO #[iI x.n,.slice A1 x.es.length c1] 42)).alloc (cO #[] 3))=W0 at*
 have eY:=eG.u;have dC:=ke.u;clear eG ke;generalize (w.alloc (cO #[iI x.n,.slice A1 x.es.length c1] 42))=Wb at*
 refine (bM _ x a b _ (HG.u _ (dC.trans hE0)) hl).mono ?_;rintro e w1 ⟨rfl,aS⟩;have hO1:=aq hO0 aS;have hE1:=hE0.trans aS;clear hO0 hE0 aS
 by_cases na:gd x a b<0
 ·have HS:=hY (WM na);go_wp2;go_ret;refine ⟨_,_,_,rfl,by rw [HS.u];rfl,by rw [HS.u];exact aC hO1 dC.size,dC.trans hE1⟩
 obtain ⟨d,hd⟩:=lD (aa:0<=gd x a b);have HS:=hY (Hj hd);have HD:=hY hd;rw [hd] at na LJ |-;have Sz:d<=4:=aa
 clear hd LJ;go_wp2_with (at_builtin;refine qb (w0:=Wb) rfl _ _ rfl _ 0 [] rfl hO1 hE1 a _ _ rfl rfl aa ?_;intro v2 w2 ep bH jL vG)
 clear jL vG hO1 hE1;replace ep:w2.ownsRow Wb.heap.size 3 1 v2 1 (aG [a]):=ep
 go_loopw [1,7,8] (fun va v vd wr=>∃(q:Nat) (z:Int) (out:List Int),q<=d/\va=iI z/\vd=iI q/\gd x z b=(q:Int)/\out.length<=5 - q/\Hid (jz x a b=out++TS x b q z)/\wr.ownsRow Wb.heap.size 3 1 v out.length (aG out)/\Ext Wb wr) (fun _ _ vd _=>(intOf vd).toNat)
 case atStart=>exact ⟨d,a,[a],lI _,rfl,rfl,HD.u,aj,HS.u,ep,bH⟩
 case round=>
  clear ep bH;obtain ⟨q,z,out,hq,rfl,rfl,hz,hlen,HQ,ho,hx⟩:=hrel
  by_cases fP:0<q
  ·obtain ⟨q,rfl⟩:∃q',q=q'+1:=⟨q - 1,aa⟩;obtain ⟨k,hk⟩:=LQ hz;obtain ⟨jT,Vu,hkd,uo⟩:=LR hk;have xT:x.n<=4:=by
    obtain ⟨n,i,j,hn,h1,h4,_⟩:=WN (aa:0<=gd x z b);omega
   have aZ:=hY (LS hk);have HKC:=hY Vu;have HKD:=hY hkd;have ZD:=hY uo;clear hk Vu hkd uo hz;go_wp2;obtain ⟨wo,rfl⟩:∃wo:World,wo=wr:=⟨_,rfl⟩
   go_loopw [1,9] (fun va i wr=>∃j:Nat,j<=k/\i=iI j/\va=iI z/\Ext wo wr) (fun _ i _=>k - (intOf i).toNat)
   case atStart=>exact ⟨0,lJ _,rfl,rfl,xZ _⟩
   case round=>
    obtain ⟨j,hj,rfl,rfl,hxj⟩:=hrel;have hX:=hx.trans hxj;have hB:=eY.ext hX;have d0:=hB.ck 0;have d1:=hB.ck 1;have Qa:(j:Int)<x.n:=aa
    go_wp2_with fail;refine (dz _ x z j _ (HG.u _ (dC.trans hX)) hl).mono ?_;rintro e w3 ⟨rfl,kl⟩;have ZE:=hX.trans kl;have xR:=eY.ext ZE;clear d0 d1;have d0:=xR.ck 0;have d1:=xR.ck 1
    by_cases hjk:j<k
    ·have rr:=ZD.u j hjk
     cases hc:rq x.es z (j:Int)
     ·have sg:(fJ x.es z (j:Int)||fJ x.es (j:Int) z)=false:=hc;rw [sg];clear sg hc rr;go_wp2;go_roundw
      case rel=>first|exact ⟨j+1,aa,az,rfl,hxj.trans kl⟩|((repeat apply Exists.intro);exact ⟨⟨j+1,aa,az,rfl,hxj.trans kl⟩,rfl⟩)
      case measure=>simp [intOf];omega
     ·have sg:(fJ x.es z (j:Int)||fJ x.es (j:Int) z)=true:=hc;rw [sg];rw [hc,kQ] at rr;have DU:=hY rr;clear sg hc rr;go_wp2_with fail;refine (bM _ x j b _ (HG.u _ (dC.trans ZE)) hl).mono ?_;rintro e w4 ⟨rfl,CN⟩;have rr:=DU.u;generalize gd x (j:Int) b=G at*
      go_wp2;go_roundw
      case rel=>first|exact ⟨j+1,aa,az,rfl,(hxj.trans kl).trans CN⟩|((repeat apply Exists.intro);exact ⟨⟨j+1,aa,az,rfl,(hxj.trans kl).trans CN⟩,rfl⟩)
      case measure=>simp [intOf];omega
    ·obtain rfl:j=k:=aa
     have sg:(fJ x.es z (j:Int)||fJ x.es (j:Int) z)=true:=HKC.u;rw [sg];clear sg;go_wp2_with fail;refine (bM _ x j b _ (HG.u _ (dC.trans ZE)) hl).mono ?_;rintro e w4 ⟨rfl,CN⟩;have hX4:=ZE.trans CN;have rk:=aq ho ((hxj.trans kl).trans CN);rw [HKD.u];go_wp2_with (at_builtin;refine qb (w0:=Wb) rfl _ _ rfl _ out.length out rfl rk hX4 (j:Int) _ _ rfl ag aa ?_;intro v5 w5 jM cN xV Qh)
     go_roundw
     case rel=>exact ⟨q,j,out++[(j:Int)],aa,rfl,az,HKD.u,aj,by rw [HQ.u,aZ.u];simp [Hid],by rw [lA];exact jM,cN⟩
     case measure=>simp [intOf]
  ·obtain rfl:q=0:=aa
   have HE:Hid (jz x a b=out):=by rw [HQ.u];simp [TS,Hid]
   obtain ⟨A,c,rfl,_⟩:=au ho;go_wp2;go_ret
   exact ⟨_,_,_,rfl,by rw [HE.u],by rw [HE.u];exact aC ho dC.size,dC.trans hx⟩
def LU (g:Gt):Bool:=ar g.k==1||g.k==9
theorem tC (g:Gt) (w:World):Calls prog 96 #[g.val] w fun e w'=>e=.returned (.bool (LU g))/\Ext w w':=by
 go_enter func96,ntmps96;go_wp2_with fail;refine (aY _ _).mono ?_;rintro e w1 ⟨rfl,rfl⟩
 cases h:(ar g.k==1)
 ·have HF:Hid (LU g=(g.k==9)):=by unfold Hid LU;rw [h,iC]
  exact qA
 ·have HF:Hid (LU g=true):=by unfold Hid LU;rw [h,kh]
  exact qA
def lay (x:Gr) (p:List Int):Bool:=hU x && perm p && ((p.length:Int)==x.n)
def may (g:Gt) (x:Gr) (p:List Int):Bool:=lay x p && LU g && vg g x.n
theorem WO {x:Gr} {p:List Int} (h:hU x=false):lay x p=false:=by unfold lay;rw [h];rfl
theorem WQ {x:Gr} {p:List Int} (h:perm p=false):lay x p=false:=by unfold lay;rw [h];simp
theorem WR {x:Gr} {p:List Int} (h:hU x=true) (h':perm p=true):lay x p=((p.length:Int)==x.n):=by unfold lay;rw [h,h'];rfl
theorem ar8 {g:Gt} {x:Gr} {p:List Int} (h:lay x p=false):may g x p=false:=by unfold may;rw [h];rfl
theorem ajB {g:Gt} {x:Gr} {p:List Int} (h:LU g=false):may g x p=false:=by unfold may;rw [h];simp
theorem ajC {g:Gt} {x:Gr} {p:List Int} (h:vg g x.n=false):may g x p=false:=by unfold may;rw [h];simp
theorem asa {g:Gt} {x:Gr} {p:List Int} (h:lay x p=true) (h':LU g=true):may g x p=vg g x.n:=by unfold may;rw [h,h'];rfl
theorem ae9 {g:Gt} {x:Gr} {p:List Int} (h:vg g x.n=true) (h':LU g=true):may g x p=lay x p:=by unfold may;rw [h,h'];simp
theorem qB {P:Prop} (h:P:=by
 go_wp2;go_ret
 exact ⟨aT HF.u.symm,hx⟩):P:=h
theorem jY (g:Gt) (v:Value) (x:Gr) (A:OA) (n c:Nat) (p:List Int) (w:World) (h:eR w w.heap.size v x) (hl:x.es.length<=2000000000000) (hp:Rd w w.heap.size 1 A n (aG p)) (hn:n<=2000000000000) (hc:n<=c):
  Calls prog 82 #[g.val,v,.slice A n c] w fun e w'=>e=.returned (.bool (may g x p))/\Ext w w':=by
 have hlen:=hY (hp.len bO aa);obtain ⟨A1,c1,rfl,h1⟩:=h;have HG:Hid (∀w',Ext w w'->eR w' w'.heap.size (.agg #[iI x.n,.slice A1 x.es.length c1]) x):=fun w' hx=>⟨A1,c1,rfl,h1.ext hx⟩
 clear h1;have Fv:ay ((w.alloc (cO (gA g) 54)).alloc (cO #[iI x.n,.slice A1 x.es.length c1] 42)) w.heap.size 54 (gA g):=(ay.new _ _ _).alloc _;have eY:ay ((w.alloc (cO (gA g) 54)).alloc (cO #[iI x.n,.slice A1 x.es.length c1] 42)) (w.heap.size+1) 42 #[iI x.n,.slice A1 x.es.length c1]:=ay.newAt ag;have dC:Ext w ((w.alloc (cO (gA g) 54)).alloc (cO #[iI x.n,.slice A1 x.es.length c1] 42)):=aD
 have BA:=hY Fv;have eG:=hY eY;have ke:=hY dC;clear eY dC Fv;go_enter func82,ntmps82;go_wp2_with fail;have Fv:=BA.u;have eY:=eG.u;have dC:=ke.u;clear eG ke BA;generalize ((w.alloc (cO (gA g) 54)).alloc (cO #[iI x.n,.slice A1 x.es.length c1] 42))=W at*
 refine (tC g _).mono ?_;rintro e w1 ⟨rfl,aS⟩;have hx:=dC.trans aS;have hG:=Fv.ext aS;have hB:=eY.ext aS;clear eY dC aS Fv;have b0:=hG.ck 0;have b1:=hG.ck 1;have b2:=hG.ck 2;have b3:=hG.ck 3;have d0:=hB.ck 0
 cases hb:LU g
 ·have HF:=hY (ajB (x:=x) (p:=p) hb)
  exact qB
 have HBS:=hY hb;clear hb;go_wp2_with fail;refine (bj g x.n _).mono ?_;rintro e w2 ⟨rfl,bH⟩;replace hx:=hx.trans bH;replace hB:=hB.ext bH;clear b0 b1 b2 b3 bH d0 hG;have d0:=hB.ck 0;have d1:=hB.ck 1
 cases hv:vg g x.n
 ·have HF:=hY (ajC (p:=p) hv)
  exact qB
 have HM:=hY (ae9 (p:=p) hv HBS.u);clear hv;go_wp2_with fail;refine (dJ _ x _ (HG.u _ hx) hl).mono ?_;rintro e w3 ⟨rfl,bT⟩;replace hx:=hx.trans bT;replace hB:=hB.ext bT;clear d0 d1 bT;have d0:=hB.ck 0
 cases hv:hU x
 ·have HF:=hY (HM.u.trans (WO (p:=p) hv))
  exact qB
 have HV:=hY hv;clear hv;go_wp2_with fail;refine (cK A n c p _ (hp.ext hx) hn hc).mono ?_;rintro e w4 ⟨rfl,fe⟩;replace hx:=hx.trans fe;replace hB:=hB.ext fe;clear d0 fe;have d0:=hB.ck 0
 cases Oy:perm p
 ·have HF:=hY (HM.u.trans (WQ (x:=x) Oy))
  exact qB
 have HF:=hY (HM.u.trans (WR HV.u Oy));clear Oy;go_wp2;go_ret
 exact ⟨aT (by rw [HF.u,hlen.u]),hx⟩

end Go.Proofs.YtiajdbllccmokaaGreatDoor
