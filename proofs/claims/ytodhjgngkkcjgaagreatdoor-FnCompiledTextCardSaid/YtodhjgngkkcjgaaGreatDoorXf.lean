import Derived.Test.YtodhjgngkkcjgaaGreatDoorXc
import Derived.Test.YtodhjgngkkcjgaaGreatDoorXb
import Derived.Test.YtodhjgngkkcjgaaGreatDoorXd
namespace Go.Proofs.YtodhjgngkkcjgaaGreatDoor
open Go.ChangeShapes Go.WideShapes Go.ChangeAt Go.RowKit Go.Deep Go.Proofs.Tryz
set_option linter.unusedVariables false
set_option linter.unusedSimpArgs false
set_option maxRecDepth 100000
set_option maxHeartbeats 16000000
def qs (g:Gt):List Int:=[g.a,g.b,g.c]
def DS (g:Gt) (n:Int) (i:Nat) (q:Int):Bool:=
 if ar g.k<=i then q==0 else decide (0<=q) && decide (q<=n - 1) && !(((qs g).take i).contains q)
def vg (g:Gt) (n:Int):Bool:=decide (1<=n) && decide (n<=4) && decide (0<ar g.k) && DS g n 0 g.a && DS g n 1 g.b && DS g n 2 g.c
theorem aiK {g:Gt} {k:Nat} (h:k<3):∃q,(qs g)[k]?=some q:=by
 rcases (aa:k=0\/k=1\/k=2) with rfl|rfl|rfl<;>exact ⟨_,rfl⟩
theorem GI {g:Gt} {n:Int} {k:Nat} {q:Int} (h:(qs g)[k]?=some q) (hk:DS g n k q=false):vg g n=false:=by
 have Qt:k<3:=rB
 rcases (aa:k=0\/k=1\/k=2) with rfl|rfl|rfl<;>(simp [qs] at h;subst h;unfold vg;simp [hk])
theorem aki {g:Gt} {n:Int} (h:n<1\/4<n):vg g n=false:=by
 unfold vg;rcases h with h|h
 ·have:decide (1<=n)=false:=ai
  simp [this]
 ·have:decide (n<=4)=false:=ai
  simp [this]
theorem aoy {g:Gt} {n:Int} (h:ar g.k=0):vg g n=false:=by
 unfold vg;simp [h]
theorem NW {g:Gt} {n:Int} (h1:1<=n) (h2:n<=4) (h3:0<ar g.k) (h:∀i q,(qs g)[i]?=some q->DS g n i q=true):vg g n=true:=by
 unfold vg;rw [h 0 g.a rfl,h 1 g.b rfl,h 2 g.c rfl];simp [h1,h2,h3]
theorem Uj {g:Gt} {n:Int} {i:Nat} {q:Int} (h:ar g.k<=i):DS g n i q=(q==0):=aY h
theorem wm {g:Gt} {n:Int} {i:Nat} {q:Int} (h:¬ar g.k<=i):DS g n i q=(decide (0<=q) && decide (q<=n - 1) && !(((qs g).take i).contains q)):=aM h
theorem VY {g:Gt} {n:Int} {i:Nat} {q:Int} (h:¬ar g.k<=i) (hr:q<0\/n - 1<q):DS g n i q=false:=by
 rw [wm h];rcases hr with hr|hr
 ·have e:decide (0<=q)=false:=ai
  simp [e]
 ·have e:decide (q<=n - 1)=false:=ai
  simp [e]
def uI (g:Gt) (k:Nat) (x:Int):Bool:=((qs g).take (min k (ar g.k).toNat)).contains x
theorem abL {g:Gt} {k:Nat} (h:ar g.k<=k):uI g (k+1)=uI g k:=by
 funext x;unfold uI;rw [show min (k+1) (ar g.k).toNat=min k (ar g.k).toNat from aa]
theorem abM {g:Gt} {k:Nat} {q:Int} (h:¬ar g.k<=k) (hq:(qs g)[k]?=some q):uI g (k+1)=fun z=>z==q||uI g k z:=by
 funext x;unfold uI;rw [show min (k+1) (ar g.k).toNat=k+1 from aa,show min k (ar g.k).toNat=k from aa,aS hq];rw [Nx];simp;constructor
 ·rintro (h|h)
  ·exact .inr h
  ·exact .inl h
 ·rintro (h|h)
  ·exact .inr h
  ·exact .inl h
theorem Uk {g:Gt} {k:Nat} (h:¬ar g.k<=k) (x:Int):uI g k x=((qs g).take k).contains x:=by
 unfold uI;rw [show min k (ar g.k).toNat=k from aa]
theorem zI {P:Prop} (h:P:=by
 rintro e w1 ⟨rfl,rfl⟩;go_wp2;go_ret
 exact ⟨aI HF.u.symm,hx⟩):P:=h
theorem iX (g:Gt) (n:Int) (w:World):
  Calls prog 61 #[g.val,iI n] w fun e w'=>e=.returned (.bool (vg g n))/\Ext w w':=by
 by_cases hn:n<1\/4<n
 ·have HF:=hY (aki (g:=g) hn);have HN:=hY hn;clear hn;go_enter func61,ntmps61;go_wp2_with fail;refine (px _ _ _ _ HN.u).mono ?_;rintro e w1 ⟨rfl,rfl⟩;go_wp2;go_ret
  exact ⟨aI HF.u.symm,xx⟩
 have jX:1<=n:=aa
 have zn:n<=4:=aa
 clear hn;have har:=eL g.k;obtain ⟨gV,jl⟩:=har
 by_cases hz:ar g.k=0
 ·have HF:=hY (aoy (n:=n) hz);go_enter func61,ntmps61;go_wp2_with fail;refine (gS _ _ _ _ jX zn).mono ?_;rintro e w1 ⟨rfl,rfl⟩;go_wp2_with fail;refine (dD _ _).mono ?_;rintro e w1 ⟨rfl,rfl⟩;rw [hz];go_wp2;go_ret
  exact ⟨aI HF.u.symm,xx⟩
 have ha1:1<=ar g.k:=aa
 have vX:(ar g.k==0)=false:=dV
 clear hz;have hmm:=@run_makeMap prog;go_enter func61,ntmps61;go_wp2_with fail;refine (gS _ _ _ _ jX zn).mono ?_;rintro e w1 ⟨rfl,rfl⟩;go_wp2_with fail;refine (dD _ _).mono ?_;rintro e w1 ⟨rfl,rfl⟩;go_wp2
 go_loopw [28] (fun i wr=>∃k:Nat,k<=3/\i=iI k/\Hid (∀i q,i<k->(qs g)[i]?=some q->DS g n i q=true)/\Seen wr (w.heap.size+1+1) k (uI g k)/\au wr w.heap.size 39 (gA g)/\au wr (w.heap.size+1) 3 #[iI g.a,iI g.b,iI g.c]/\Ext w wr) (fun i _=>3 - (intOf i).toNat)
 case atStart=>
  refine ⟨0,aa,rfl,fun i q h=>absurd h aa,?_,((au.new _ _ _).alloc _).alloc _,(au.newAt ag).alloc _,xx⟩;have h:=Seen.made ((w.alloc (cO (gA g) 39)).alloc (cO #[iI g.a,iI g.b,iI g.c] 3));have e0:uI g 0=fun _=>false:=by funext x;simp [uI]
  rw [e0];simpa using h
 case round=>
  obtain ⟨k,hk,rfl,HQ,hS,hB,hA,hx⟩:=hrel
  by_cases ba:k<3
  ·obtain ⟨q,hq⟩:=aiK (g:=g) ba;have hc:wr.cell? (aA (w.z+1) k)=some (iI q):=by
    rw [hA.cell k];rcases (aa:k=0\/k=1\/k=2) with rfl|rfl|rfl<;>(simp [qs] at hq;subst hq;rfl)
   have rV:=hB.ck 0;have HG:=hY hq;clear hq
   by_cases hak:ar g.k<=k
   ·have HO:=hY (Uj (n:=n) (q:=q) hak)
    cases fc:(q==0)
    ·have akj:(q !=0)=true:=mY
     have HF:=hY (GI (n:=n) HG.u (by rw [HO.u,fc]));go_wp2_with fail;refine (dD _ _).mono ?_
     exact zI
    ·have akj:(q !=0)=false:=mY
     have HE:=hY (abL hak);go_wp2_with fail;refine (dD _ _).mono ?_;rintro e w1 ⟨rfl,rfl⟩;go_wp2;go_roundw
     case rel=>
      refine ⟨k+1,aa,az,fun i q' hi Gl=>?_,by rw [HE.u];obtain ⟨D,h1,h2⟩:=hS;exact ⟨D,h1.mono aa,h2⟩,hB,hA,hx⟩
      by_cases e:i=k
      ·subst e;have:=HG.u;rw [Gl] at this;injection this with this;rw [this,HO.u,fc]
      ·exact HQ.u i q' aa Gl
     case measure=>simp [intOf];omega
   ·have HO:=hY (wm (n:=n) (q:=q) hak);have YH:¬ar g.k<=k:=hak;have HAK:=hY YH;have atJ:(k:Int)<ar g.k:=aa
    clear hak YH
    by_cases hr:q<0\/n - 1<q
    ·have HF:=hY (GI (n:=n) HG.u (VY HAK.u hr));have HR:=hY hr;clear hr;go_wp2_with fail;refine (dD _ _).mono ?_;rintro e w1 ⟨rfl,rfl⟩;go_wp2_with fail;refine (px _ _ _ _ HR.u).mono ?_
     exact zI
    ·have kG:0<=q:=aa
     have jk:q<=n - 1:=aa
     have hI:po q:=⟨aa,aa⟩;clear hr;have hlk:=hS.look hI;have HT:=hY (Uk HAK.u q)
     cases hs:uI g k q
     ·rw [hs] at hlk;have HE:=hY (abM HAK.u HG.u);go_wp2_with fail;refine (dD _ _).mono ?_;rintro e w1 ⟨rfl,rfl⟩;go_wp2_with fail;refine (gS _ _ _ _ kG jk).mono ?_;rintro e w1 ⟨rfl,rfl⟩;go_wp2_with (at_mapUpdate;refine Uc rfl _ _ _ rfl hS rfl aa rfl rfl hI ?_;intro w2 hS2 jW)
      go_roundw
      case rel=>
       refine ⟨k+1,aa,az,fun i q' hi Gl=>?_,by rw [HE.u];exact hS2,hB.grown jW (fun z hz=>by injection hz;omega),hA.grown jW (fun z hz=>by injection hz;omega),hx.grown jW (fun z hz=>by injection hz;omega)⟩
       by_cases e:i=k
       ·subst e;have:=HG.u;rw [Gl] at this;injection this with this;have ht:=HT.u;rw [hs] at ht;rw [this,HO.u,<-ht];simp [kG,jk]
       ·exact HQ.u i q' aa Gl
      case measure=>simp [intOf];omega
     ·rw [hs] at hlk;have HF:=hY (GI (n:=n) HG.u (by rw [HO.u,<-HT.u,hs];simp));go_wp2_with fail;refine (dD _ _).mono ?_;rintro e w1 ⟨rfl,rfl⟩;go_wp2_with fail;refine (gS _ _ _ _ kG jk).mono ?_
      exact zI
  ·obtain rfl:k=3:=aa
   have HF:=hY (NW jX zn aa (fun i q h=>HQ.u i q rB h));go_wp2;go_ret
   exact ⟨aI HF.u.symm,hx⟩
def kf (g:Gt):List Int:=(qs g).take (ar g.k).toNat
theorem oL (g:Gt):(kf g).length=(ar g.k).toNat:=by
 have:=eL g.k;unfold kf qs;rw [lT];simp;omega
theorem zJ {w:World} {B size n m:Nat} {A:OA} {xs:List Value} (h:Rd w B size A n xs) (hm:m<=n):Rd w B size A m (xs.take (m*size)):=by
 refine ⟨?_,fun h0=>?_⟩
 ·rw [lT,h.1];have:=Nn size hm;omega
 ·obtain ⟨b,o,e,hb,hc⟩:=h.2 aa
  exact ⟨b,o,e,hb,fun j u hu=>hc j u (by
   have hj:j<m*size:=by
    have:=(gu.1 hu).1;rw [lT] at this;omega
   rwa [yi hj] at hu)⟩
theorem qK (xs:List Int) (m:Nat):(aD xs).take (m*1)=aD (xs.take m):=by
 rw [vT]
 induction xs generalizing m with
 |nil=>simp
 |cons x xs ih=>
  cases m with
  |zero=>simp
  |succ m=>simp [Bs,jQ,<-ih m]
def gf (xs:List Int) (y:Int):Bool:=xs.contains y
theorem dE (A:OA) (n c:Nat) (xs:List Int) (y:Int) (w:World) (h:Rd w w.heap.size 1 A n (aD xs)) (hn:n<=2000000000000):
  Calls prog 47 #[.slice A n c,iI y] w fun e w'=>e=.returned (.bool (gf xs y))/\w=w':=by
 have hlen:=hY (h.len bG aa);go_enter func47,ntmps47;go_wp2
 go_loop [5] (fun i=>∃k:Nat,k<=n/\i=iI k/\Hid ((xs.take k).contains y=false)) (fun i=>n - (intOf i).toNat)
 case atStart=>exact ⟨0,lJ _,rfl,hY ag⟩
 case round=>
  obtain ⟨k,hk,rfl,HQ⟩:=hrel
  by_cases ba:k<n
  ·obtain ⟨b,o,x,rfl,hb,hx,h0⟩:=du h ba;have HG:=hY hx;clear hx
   cases he:(x==y)
   ·go_wp2;go_round
    case rel=>exact ⟨k+1,aa,az,hY (by
     rw [aS HG.u,FJ];have:=HQ.u;rw [FJ] at this;simp at this he |-
     exact ⟨this,fun e=>he e.symm⟩)⟩
    case measure=>simp [intOf];omega
   ·have HF:Hid (gf xs y=true):=by
     unfold Hid gf;rw [FJ];simp at he |-;subst he
     exact lG HG.u
    go_wp2;go_ret
    exact ⟨aI HF.u.symm,rfl⟩
  ·rw [lE bQ] at HQ;go_wp2;go_ret
   exact ⟨aI (show false=gf xs y from HQ.u.symm),rfl⟩
theorem eM (g:Gt) (w:World):
  Calls prog 69 #[g.val] w fun e w'=>∃v,e=.returned v/\w'.ownsRow w.heap.size 3 1 v (kf g).length (aD (kf g))/\Ext w w':=by
 obtain ⟨gV,jl⟩:=eL g.k;have HL:=hY (oL g);obtain ⟨a,hA⟩:=lD gV;have HA:=hY hA;have ha:a<=3:=aa
 clear hA gV jl;go_enter func69,ntmps69;go_wp2_with fail;refine (bc _ _).mono ?_;rintro e w1 ⟨rfl,rfl⟩;rw [HA.u];have hq:kf g=(qs g).take a:=by unfold kf;rw [HA.u];rfl
 have HQ:=hY hq;clear hq;have hR:=eC (w.alloc (cO (gA g) 39)) #[iI g.a,iI g.b,iI g.c] (w.heap.size+1) 3 3 1 (aD (qs g)) ag rfl rfl;have hR2:=zJ hR ha;rw [qK,<-HQ.u] at hR2;have hR3:=hR2.ext ((xZ _).alloc (cO #[] 3));clear hR hR2;have hl:(kf g).length=a:=by rw [HL.u,HA.u];rfl
 have By:=hY hl;clear hl;go_wp2_with (at_builtin;go_loud (refine oJ (w0:=w) rfl _ _ rfl _ 0 [] rfl (bS aw _ _ 1 0 #[] _ ag rfl rfl aa) xx _ a 3 (kf g) rfl hR3 aa ?_);intro v1 w1 eu aK Be ky)
 go_ret
 exact ⟨v1,rfl,by rw [By.u];simpa using eu,aK⟩
def iN (g:Gt) (q:Int):Bool:=gf (kf g) q
theorem xS (g:Gt) (w:World):
  Calls prog 63 #[g.val] w fun e w'=>∃A c,e=.returned (.slice A (kf g).length c)/\Rd w' w'.heap.size 1 A (kf g).length (aD (kf g))/\Ext w w':=by
 obtain ⟨gV,jl⟩:=eL g.k;have HL:=hY (oL g);obtain ⟨a,hA⟩:=lD gV;have HA:=hY hA;have ha:a<=3:=aa
 have ha1:(0:Int)<=(a:Int):=aa
 have ha2:(a:Int)<=3:=aa
 clear hA gV jl;have hq:kf g=(qs g).take a:=by unfold kf;rw [HA.u];rfl
 have HQ:=hY hq;clear hq;have hl:(kf g).length=a:=by rw [HL.u,HA.u];rfl
 have By:=hY hl;clear hl;go_enter func63,ntmps63;go_wp2;have hB:au (w.alloc (cO (gA g) 39)) w.heap.size 39 (gA g):=au.new _ _ _;have hx:Ext w (w.alloc (cO (gA g) 39)):=aw
 generalize (w.alloc (cO (gA g) 39))=W at*
 have b0:=hB.ck 0;have b1:=hB.ck 1;have b2:=hB.ck 2;have b3:=hB.ck 3;have HK:Hid (∀w',au w' w.heap.size 39 (gA g)->w'.cell? (aA w.z 0)=some (iI g.k)/\w'.cell? (aA w.z 1)=some (iI g.a)/\w'.cell? (aA w.z 2)=some (iI g.b)/\w'.cell? (aA w.z 3)=some (iI g.c)):=fun w' q1=>⟨q1.cell 0,q1.cell 1,q1.cell 2,q1.cell 3⟩
 go_region_held3 (fun w'=>w'.cell? (aA w.z 0)=some (iI g.k)/\w'.cell? (aA w.z 1)=some (iI g.a)/\w'.cell? (aA w.z 2)=some (iI g.b)/\w'.cell? (aA w.z 3)=some (iI g.c))
  (first|go_keep|exact HK.u _ aL)
  (first
   |(go_at_call 73;refine (dD _ _).mono ?_;rintro e w3 ⟨rfl,rfl⟩;rw [HA.u]))
 all_goals
  go_wp2;go_ret;refine ⟨some ⟨W.heap.size,0,none⟩,a,by rw [By.u];rfl,?_,xx⟩;rw [By.u,HQ.u,<-qK]
  exact zJ ((eC W _ _ _ 3 1 (aD (qs g)) rfl rfl rfl).ext ((xZ _).drew)) ha
theorem bC (g:Gt) (q:Int) (w:World):
  Calls prog 222 #[g.val,iI q] w fun e w'=>e=.returned (.bool (iN g q))/\Ext w w':=by
 obtain ⟨gV,jl⟩:=eL g.k;have HL:=hY (oL g);go_enter func222,ntmps222;go_wp2_with fail;refine (eM g _).mono ?_;rintro e w1 ⟨v,rfl,ho,hx⟩;obtain ⟨A,c,rfl,hr⟩:=ak ho;replace hx:Ext w w1:=Ext.trans aw hx;clear ho;go_wp2_with fail;refine (dE A _ c (kf g) q _ hr (oM HL.u)).mono ?_;rintro e w2 ⟨rfl,rfl⟩;go_wp2;go_ret
 exact ⟨rfl,hx⟩
structure Pa where
 n:Int
 x:Int
 z:Int
 p:Int
abbrev jF (x:Pa):Array Value:=#[iI x.n,iI x.x,iI x.z,iI x.p]
def P0:Pa:=⟨0,0,0,0⟩
def pw (q:Int):Int:=2 ^ q.toNat
def sx (n:Int):Int:=pw n - 1
def rM (v:Int):Int:=v % 2+v / 2 % 2+v / 4 % 2+v / 8 % 2
def Lj (a b:Int):Int:=bits .xor .i64 a b
def lV (a b:Int):Int:=bits .and .i64 a b
def DU (a b:Int):Int:=bits .or .i64 a b
def GJ (x q:Int):Bool:=lV (x / 2 ^ q.toNat) 1==1
def iO (p:Pa):Bool:=decide (1<=p.n) && decide (p.n<=4) && (decide (0<=p.x) && decide (p.x<=sx p.n)) && (decide (0<=p.z) && decide (p.z<=sx p.n)) && (decide (0<=p.p) && decide (p.p<=3))
def ags (a b:Pa):Pa:=⟨a.n,Lj a.x b.x,Lj a.z b.z,(a.p+b.p+2*rM (lV a.z b.x)) % 4⟩
def mulR (a b:Pa):Pa:=if (iO a && iO b && a.n==b.n)=true then ags a b else P0
def comm (a b:Pa):Bool:=(rM (lV a.x b.z)+rM (lV a.z b.x)) % 2==0
def Lk (p:Pa):Bool:=iO p && (p.p % 2==rM (lV p.x p.z) % 2)
def VZ (a b:Pa):Bool:=a.n==b.n && a.x==b.x && a.z==b.z && a.p==b.p
theorem abN (a:Pa):VZ a a=true:=by simp [VZ]
theorem axe {q:Int} (h0:0<=q) (h3:q<=3):1<=pw q/\pw q<=8:=by
 rcases (show q=0\/q=1\/q=2\/q=3 by omega) with rfl|rfl|rfl|rfl<;>decide
theorem abO {n:Int} (h0:1<=n) (h4:n<=4):1<=sx n/\sx n<=15:=by
 rcases (show n=1\/n=2\/n=3\/n=4 by omega) with rfl|rfl|rfl|rfl<;>decide
theorem nib (v:Int) (h0:0<=v) (h1:v<=15):∃k:Fin 16,v=(k.val:Int):=⟨⟨v.toNat,aa⟩,ai⟩
theorem agt:∀a b:Fin 16,0<=lV a.val b.val/\lV a.val b.val<=15:=ae
theorem Bz {a b:Int} (ha:0<=a/\a<=15) (hb:0<=b/\b<=15):0<=lV a b/\lV a b<=15:=by
 obtain ⟨k,rfl⟩:=nib a ha.1 ha.2;obtain ⟨m,rfl⟩:=nib b hb.1 hb.2
 exact agt k m
theorem Fb {v:Int} (h0:0<=v) (h1:v<=15):0<=rM v/\rM v<=4:=by unfold rM;omega
theorem NX {p:Pa}:iO p=true ↔ (1<=p.n/\p.n<=4)/\(0<=p.x/\p.x<=sx p.n)/\(0<=p.z/\p.z<=sx p.n)/\(0<=p.p/\p.p<=3):=by
 unfold iO;simp only [lF,kh];constructor
 ·rintro ⟨⟨⟨⟨a,b⟩,c⟩,d⟩,e⟩;exact ⟨⟨a,b⟩,c,d,e⟩
 ·rintro ⟨⟨a,b⟩,c,d,e⟩;exact ⟨⟨⟨⟨a,b⟩,c⟩,d⟩,e⟩
theorem akk {p:Pa} (h:¬((1<=p.n/\p.n<=4)/\(0<=p.x/\p.x<=sx p.n)/\(0<=p.z/\p.z<=sx p.n)/\(0<=p.p/\p.p<=3))):iO p=false:=by
 cases e:iO p with
 |false=>rfl
 |true=>exact absurd (NX.1 e) h
theorem BA {p:Pa} (h:iO p=true):(0<=p.x/\p.x<=15)/\(0<=p.z/\p.z<=15)/\(0<=p.p/\p.p<=3)/\(1<=p.n/\p.n<=4):=by
 obtain ⟨h1,h2,h3,h4⟩:=NX.1 h;have:=abO h1.1 h1.2
 exact ⟨⟨aa,aa⟩,⟨aa,aa⟩,h4,h1⟩
theorem abP {p:Pa} (h:Lk p=true):iO p=true:=by unfold Lk at h;simp at h;exact h.1
def cL (g:Gt):Bool:=decide (0<ar g.k) && !(g.k==7) && !(g.k==8) && !(g.k==12)
def dS (g:Gt) (q:Int):Bool:=q==g.a
def QR (g:Gt) (q:Int):Bool:=ar g.k==2 && q==g.b
def xT (n:Int) (g:Gt) (q:Int):Pa:=
 if (dS g q||QR g q)=false then ⟨n,pw q,0,0⟩
 else if g.k=2\/g.k=3 then ⟨n,pw q,0,2⟩
 else if g.k=4 then ⟨n,0,pw q,0⟩
 else if g.k=5 then ⟨n,pw q,pw q,1⟩
 else if g.k=6 then ⟨n,pw q,pw q,3⟩
 else if g.k=9 then (if dS g q=true then ⟨n,DU (pw q) (pw g.b),0,0⟩ else ⟨n,pw q,0,0⟩)
 else if g.k=10 then ⟨n,pw q,if dS g q=true then pw g.b else pw g.a,0⟩
 else if g.k=11 then ⟨n,if dS g q=true then pw g.b else pw g.a,0,0⟩
 else ⟨n,pw q,0,0⟩
def xU (n:Int) (g:Gt) (q:Int):Pa:=
 if (dS g q||QR g q)=false then ⟨n,0,pw q,0⟩
 else if g.k=1\/g.k=2 then ⟨n,0,pw q,2⟩
 else if g.k=4 then ⟨n,pw q,0,0⟩
 else if g.k=9 then (if dS g q=true then ⟨n,0,pw q,0⟩ else ⟨n,0,DU (pw q) (pw g.a),0⟩)
 else if g.k=11 then ⟨n,0,if dS g q=true then pw g.b else pw g.a,0⟩
 else ⟨n,0,pw q,0⟩
def cjX (p:Pa) (g:Gt) (q:Int) (o:Pa):Pa:=if GJ p.x q=true then mulR o (xT p.n g q) else o
def cjZ (p:Pa) (g:Gt) (q:Int) (o:Pa):Pa:=if GJ p.z q=true then mulR o (xU p.n g q) else o
def cjN (p:Pa) (g:Gt):Nat->Pa
 |0=>⟨p.n,0,0,p.p⟩
 |k+1=>cjZ p g k (cjX p g k (cjN p g k))
def uT (p:Pa) (g:Gt):Bool:=iO p && vg g p.n && cL g
def cj (p:Pa) (g:Gt):Pa:=if uT p g=true then cjN p g p.n.toNat else P0
def kW (n:Int) (rs:List Pa) (k:Nat):Bool:=
 match rs[k]? with
 |none=>true
 |some p=>p.n==n && Lk p && (List.range k).all fun i=>match rs[i]? with
  |none=>true
  |some x=>comm x p !=decide ((k:Int)=i+n)
def oO (n:Int) (rs:List Pa):Bool:=decide (1<=n) && decide (n<=4) && ((rs.length:Int)==2*n) && (List.range rs.length).all (kW n rs)
def YI (n:Nat):List Pa:=(List.range n).map (fun q=>⟨n,pw q,0,0⟩)++(List.range n).map (fun q=>⟨n,0,pw q,0⟩)
def fL (n:Int) (rs:List Pa) (g:Gt):Option (List Pa):=if (oO n rs && rs.all fun p=>uT p g)=true then some (rs.map fun p=>cj p g) else none
def uV (n:Int) (gs:List Gt):Option (List Pa):=gs.foldl (fun t g=>t.bind fun rs=>fL n rs g) (some (YI n.toNat))
abbrev Pa.val (x:Pa):Value:=.agg #[iI x.n,iI x.x,iI x.z,iI x.p]
def Pa.cells (x:Pa):List Value:=[iI x.n,iI x.x,iI x.z,iI x.p]
abbrev aX (xs:List Pa):List Value:=xs.flatMap Pa.cells
theorem Pa.aG (x:Pa):x.cells.length=4:=rfl
theorem gD {w:World} {B n i:Nat} {A:OA} {xs:List Pa} (h:Rd w B 4 A n (aX xs)) (hi:i<n):
  ∃b o x,A=some ⟨b,o,none⟩/\b<B/\xs[i]?=some x/\w.cell? (aA b (o+i*4))=some (iI x.n)/\w.cell? (aA b (o+i*4+1))=some (iI x.x)/\w.cell? (aA b (o+i*4+2))=some (iI x.z)/\w.cell? (aA b (o+i*4+3))=some (iI x.p):=by
 obtain ⟨b,o,x,rfl,hb,hx,hc⟩:=kQ Pa.aG aa h hi
 exact ⟨b,o,x,rfl,hb,hx,hc 0 _ rfl,hc 1 _ rfl,hc 2 _ rfl,hc 3 _ rfl⟩
theorem Ma:(prog.info? 251).map (fun i=>(i.zero,i.size,i.bytes))=some (some (.agg zO),4,32):=af
theorem Pa.one (xs:List Pa):∀u∈aX xs,u.oneCell'=true:=by
 intro u hu;obtain ⟨x,_,hx⟩:=vN.1 hu;simp [Pa.cells] at hx;rcases hx with rfl|rfl|rfl|rfl<;>rfl
theorem CO {w0 w:World} {ops:Array Oper} {rest:List Oper} {o:Oper} {a:Act} {Q:Exit->Act->World->Prop} (fX:o.guard=none) (s x:Operand)
  (ho:aO o s x 205) (v:Value) (n:Nat) (xs:List Pa) (hs:a.eval s=v)
  (bj:w.ownsRow w0.heap.size 251 4 v n (aX xs)) (cD:Ext w0 w) (A:OA) (m c:Nat) (ys:List Pa) (hx:a.eval x=.slice A m c) (hr:Rd w w.heap.size 4 A m (aX ys)) (hn:n+m<=2000000000000)
  (h:aH w0 w v 251 4 (n+m) (aX (xs++ys)) (wpList prog ops Q rest) a o):wpList prog ops Q (o::rest) a w:=by
 obtain ⟨i0,hi,fH,iV,kz⟩:=jH Ma
 exact fp fX s x _ ho 251 i0 _ 4 32 underlying205 hi fH iV kz rfl ae ae v n _ hs bj cD A m c _ hx hr (Pa.one ys) hn (fun v' w' h1=>h v' w' (by unfold aX;rw [lR];exact h1))
theorem GK {w0 w:World} {ops:Array Oper} {o:Oper} {a:Act} {K:Act->World->Prop} {Q:Exit->Act->World->Prop} {E:Prop} (fX:o.guard=none) (s x:Operand)
  (ho:aO o s x 205) (v:Value) (n:Nat) (xs:List Pa) (hs:a.eval s=v)
  (bj:w.ownsRow w0.heap.size 251 4 v n (aX xs)) (cD:Ext w0 w) (A:OA) (m c:Nat) (ys:List Pa) (hx:a.eval x=.slice A m c) (hr:Rd w w.heap.size 4 A m (aX ys)) (hn:n+m<=2000000000000)
  (h:aH w0 w v 251 4 (n+m) (aX (xs++ys)) K a o):if Region.wanted o (yielded ops a.tmps)=true then Oper.wp prog o a w K Q else E:=by
 obtain ⟨i0,hi,fH,iV,kz⟩:=jH Ma
 exact nz fX s x _ ho 251 i0 _ 4 32 underlying205 hi fH iV kz rfl ae ae v n _ hs bj cD A m c _ hx hr (Pa.one ys) hn (fun v' w' h1=>h v' w' (by unfold aX;rw [lR];exact h1))
theorem aoB {w0 w:World} {ops:Array Oper} {rest:List Oper} {o:Oper} {a:Act} {Q:Exit->Act->World->Prop} (fX:o.guard=none) (s x:Operand)
  (ho:aO o s x 205) (v:Value) (n:Nat) (xs:List Pa) (hs:a.eval s=v)
  (bj:w.ownsRow w0.heap.size 251 4 v n (aX xs)) (cD:Ext w0 w) (y:Pa) (e:TypeId) (b:Nat) (hx:a.eval x=.slice (some ⟨b,0,none⟩) 1 1) (sg:b=w.heap.size) (hn:n<=1800000000000)
  (h:∀v' w',w'.ownsRow w0.heap.size 251 4 v' (n+1) (aX (xs++[y]))->Ext w0 w'->(w.alloc (cO (jF y) e)).grownBy w' v.ownBlock->(v'.ownBlock=v.ownBlock\/v'.ownBlock=some (w.heap.size+1))->wpList prog ops Q rest (a.put o.dst v') w'):wpList prog ops Q (o::rest) a (w.alloc (cO (jF y) e)):=by
 subst sg;refine CO fX s x ho v n xs hs (bj.alloc _) (cD.alloc _) _ 1 1 [y] hx (dZ w _ e 4 _ eV eV) aa ?_;intro v' w' h1 h2 h3 h4
 exact h v' w' h1 h2 h3 (sU h4)
def wu (v:Int):Nat->Int
 |0=>0
 |k+1=>wu v k+lV (v / 2 ^ k) 1
theorem and_one:∀a:Fin 16,lV a.val 1=(a.val:Int) % 2:=ae
theorem abQ {v:Int} (h0:0<=v) (h1:v<=15) (k:Nat):0<=lV (v / 2 ^ k) 1/\lV (v / 2 ^ k) 1<=1:=by
 have hp:(0:Int)<2 ^ k:=Int.pow_pos ae;have e0:0<=v / 2 ^ k:=Int.ediv_nonneg h0 (Int.le_of_lt hp);have e1:v / 2 ^ k<=v:=Int.ediv_le_self _ h0;obtain ⟨a,ha⟩:=nib (v / 2 ^ k) e0 aa;rw [ha,and_one a];omega
theorem QS {v:Int} (h0:0<=v) (h1:v<=15):∀k,0<=wu v k/\wu v k<=k
 |0=>by simp [wu]
 |k+1=>by
  have:=QS h0 h1 k;have:=abQ h0 h1 k;simp only [wu];omega
theorem abR:∀a:Fin 16,wu a.val 64=rM a.val:=ae
theorem nd (v:Int) (w:World) (h0:0<=v) (h1:v<=15):Calls prog 227 #[iI v] w fun e w'=>e=.returned (iI (rM v))/\w=w':=by
 go_enter func227,ntmps227;go_wp2
 go_loop [3,4] (fun s i=>∃k:Nat,k<=64/\i=iI k/\s=iI (wu v k)) (fun _ i=>64 - (intOf i).toNat)
 case atStart=>exact ⟨0,lJ _,rfl,rfl⟩
 case round=>
  obtain ⟨k,hk,rfl,rfl⟩:=hrel;have hb:=QS h0 h1 k;have hc:=abQ h0 h1 k
  by_cases ba:k<64
  ·have HE:Hid (wu v (k+1)=wu v k+lV (v / 2 ^ k) 1):=rfl;have hw:IntKind.i64.wrap (wu v k+bits .and .i64 (v / 2 ^ k) 1)=wu v k+bits .and .i64 (v / 2 ^ k) 1:=lH _ (by unfold lV at hc;omega);go_wp2;go_round
   case rel=>exact ⟨k+1,aa,az,by rw [HE.u];first|rfl|(unfold lV;go_num)⟩
   case measure=>simp [intOf];omega
  ·have:k=64:=aa
   subst this;obtain ⟨a,rfl⟩:=nib v h0 h1;go_wp2;go_ret
   exact ⟨eB (abR a),rfl⟩
theorem akl {p:Pa} (h:p.n<1\/4<p.n):iO p=false:=akk aa
theorem aoC {p:Pa} (h:p.n=1):iO p=(decide (0<=p.x) && decide (p.x<=1) && (decide (0<=p.z) && decide (p.z<=1)) && (decide (0<=p.p) && decide (p.p<=3))):=by
 have e:sx p.n=1:=fV
 unfold iO;rw [e,h];simp
theorem aoD {p:Pa} (h:p.n=2):iO p=(decide (0<=p.x) && decide (p.x<=3) && (decide (0<=p.z) && decide (p.z<=3)) && (decide (0<=p.p) && decide (p.p<=3))):=by
 have e:sx p.n=3:=fV
 unfold iO;rw [e,h];simp
theorem aoE {p:Pa} (h:p.n=3):iO p=(decide (0<=p.x) && decide (p.x<=7) && (decide (0<=p.z) && decide (p.z<=7)) && (decide (0<=p.p) && decide (p.p<=3))):=by
 have e:sx p.n=7:=fV
 unfold iO;rw [e,h];simp
theorem aoF {p:Pa} (h:p.n=4):iO p=(decide (0<=p.x) && decide (p.x<=15) && (decide (0<=p.z) && decide (p.z<=15)) && (decide (0<=p.p) && decide (p.p<=3))):=by
 have e:sx p.n=15:=fV
 unfold iO;rw [e,h];simp
theorem cS {P:Prop} (h:P:=by
 go_ret
 exact ⟨aI (by rw [HV.u];simp;omega),xx⟩):P:=h
theorem GM {P:Prop} (h:P:=by
 have hnn:n<1\/4<n:=aa
 go_enter nu,nt;go_wp2_with (go_at_call 26;refine (bP _ _ _ _ hnn).mono ?_;rintro e w1 ⟨rfl,rfl⟩)
 go_ret
 exact ⟨aI HF.u.symm,xx⟩):P:=h
theorem cU (p:Pa) (w:World):Calls prog 216 #[p.val] w fun e w'=>e=.returned (.bool (iO p))/\Ext w w':=by
 obtain ⟨n,x,z,c⟩:=p
 by_cases hn:n<1\/4<n
 ·have HF:Hid (iO ⟨n,x,z,c⟩=false):=akl hn;rcases hn with hn|hn
  ·exact GM
  ·exact GM
 rcases (show n=1\/n=2\/n=3\/n=4 by omega) with rfl|rfl|rfl|rfl
 ·have HV:Hid (iO ⟨1,x,z,c⟩=(decide (0<=x) && decide (x<=1) && (decide (0<=z) && decide (z<=1)) && (decide (0<=c) && decide (c<=3)))):=aoC rfl
  by_cases hx:x<0\/1<x
  ·skip;go_enter nu,nt;go_wp2_with (first|(go_at_call 26;(with_reducible refine (aF 1 1 4 _ ae ae).mono ?_);rintro e w1 ⟨rfl,rfl⟩)|(go_at_call 26;(with_reducible refine (bP x 0 1 _ hx).mono ?_);rintro e w1 ⟨rfl,rfl⟩))
   exact cS
  replace hx:0<=x/\x<=1:=aa
  by_cases hz:z<0\/1<z
  ·skip;go_enter nu,nt;go_wp2_with (first|(go_at_call 26;(with_reducible refine (aF 1 1 4 _ ae ae).mono ?_);rintro e w1 ⟨rfl,rfl⟩)|(go_at_call 26;(with_reducible refine (aF x 0 1 _ hx.1 hx.2).mono ?_);rintro e w1 ⟨rfl,rfl⟩)|(go_at_call 26;(with_reducible refine (bP z 0 1 _ hz).mono ?_);rintro e w1 ⟨rfl,rfl⟩))
   exact cS
  replace hz:0<=z/\z<=1:=aa
  by_cases hc:c<0\/3<c
  ·skip;go_enter nu,nt;go_wp2_with (first|(go_at_call 26;(with_reducible refine (aF 1 1 4 _ ae ae).mono ?_);rintro e w1 ⟨rfl,rfl⟩)|(go_at_call 26;(with_reducible refine (aF x 0 1 _ hx.1 hx.2).mono ?_);rintro e w1 ⟨rfl,rfl⟩)|(go_at_call 26;(with_reducible refine (aF z 0 1 _ hz.1 hz.2).mono ?_);rintro e w1 ⟨rfl,rfl⟩)|(go_at_call 26;(with_reducible refine (bP c 0 3 _ hc).mono ?_);rintro e w1 ⟨rfl,rfl⟩))
   exact cS
  replace hc:0<=c/\c<=3:=aa
  go_enter nu,nt;go_wp2_with (first|(go_at_call 26;(with_reducible refine (aF 1 1 4 _ ae ae).mono ?_);rintro e w1 ⟨rfl,rfl⟩)|(go_at_call 26;(with_reducible refine (aF x 0 1 _ hx.1 hx.2).mono ?_);rintro e w1 ⟨rfl,rfl⟩)|(go_at_call 26;(with_reducible refine (aF z 0 1 _ hz.1 hz.2).mono ?_);rintro e w1 ⟨rfl,rfl⟩)|(go_at_call 26;(with_reducible refine (aF c 0 3 _ hc.1 hc.2).mono ?_);rintro e w1 ⟨rfl,rfl⟩))
  exact cS
 ·have HV:Hid (iO ⟨2,x,z,c⟩=(decide (0<=x) && decide (x<=3) && (decide (0<=z) && decide (z<=3)) && (decide (0<=c) && decide (c<=3)))):=aoD rfl
  by_cases hx:x<0\/3<x
  ·skip;go_enter nu,nt;go_wp2_with (first|(go_at_call 26;(with_reducible refine (aF 2 1 4 _ ae ae).mono ?_);rintro e w1 ⟨rfl,rfl⟩)|(go_at_call 26;(with_reducible refine (bP x 0 3 _ hx).mono ?_);rintro e w1 ⟨rfl,rfl⟩))
   exact cS
  replace hx:0<=x/\x<=3:=aa
  by_cases hz:z<0\/3<z
  ·skip;go_enter nu,nt;go_wp2_with (first|(go_at_call 26;(with_reducible refine (aF 2 1 4 _ ae ae).mono ?_);rintro e w1 ⟨rfl,rfl⟩)|(go_at_call 26;(with_reducible refine (aF x 0 3 _ hx.1 hx.2).mono ?_);rintro e w1 ⟨rfl,rfl⟩)|(go_at_call 26;(with_reducible refine (bP z 0 3 _ hz).mono ?_);rintro e w1 ⟨rfl,rfl⟩))
   exact cS
  replace hz:0<=z/\z<=3:=aa
  by_cases hc:c<0\/3<c
  ·skip;go_enter nu,nt;go_wp2_with (first|(go_at_call 26;(with_reducible refine (aF 2 1 4 _ ae ae).mono ?_);rintro e w1 ⟨rfl,rfl⟩)|(go_at_call 26;(with_reducible refine (aF x 0 3 _ hx.1 hx.2).mono ?_);rintro e w1 ⟨rfl,rfl⟩)|(go_at_call 26;(with_reducible refine (aF z 0 3 _ hz.1 hz.2).mono ?_);rintro e w1 ⟨rfl,rfl⟩)|(go_at_call 26;(with_reducible refine (bP c 0 3 _ hc).mono ?_);rintro e w1 ⟨rfl,rfl⟩))
   exact cS
  replace hc:0<=c/\c<=3:=aa
  go_enter nu,nt;go_wp2_with (first|(go_at_call 26;(with_reducible refine (aF 2 1 4 _ ae ae).mono ?_);rintro e w1 ⟨rfl,rfl⟩)|(go_at_call 26;(with_reducible refine (aF x 0 3 _ hx.1 hx.2).mono ?_);rintro e w1 ⟨rfl,rfl⟩)|(go_at_call 26;(with_reducible refine (aF z 0 3 _ hz.1 hz.2).mono ?_);rintro e w1 ⟨rfl,rfl⟩)|(go_at_call 26;(with_reducible refine (aF c 0 3 _ hc.1 hc.2).mono ?_);rintro e w1 ⟨rfl,rfl⟩))
  exact cS
 ·have HV:Hid (iO ⟨3,x,z,c⟩=(decide (0<=x) && decide (x<=7) && (decide (0<=z) && decide (z<=7)) && (decide (0<=c) && decide (c<=3)))):=aoE rfl
  by_cases hx:x<0\/7<x
  ·skip;go_enter nu,nt;go_wp2_with (first|(go_at_call 26;(with_reducible refine (aF 3 1 4 _ ae ae).mono ?_);rintro e w1 ⟨rfl,rfl⟩)|(go_at_call 26;(with_reducible refine (bP x 0 7 _ hx).mono ?_);rintro e w1 ⟨rfl,rfl⟩))
   exact cS
  replace hx:0<=x/\x<=7:=aa
  by_cases hz:z<0\/7<z
  ·skip;go_enter nu,nt;go_wp2_with (first|(go_at_call 26;(with_reducible refine (aF 3 1 4 _ ae ae).mono ?_);rintro e w1 ⟨rfl,rfl⟩)|(go_at_call 26;(with_reducible refine (aF x 0 7 _ hx.1 hx.2).mono ?_);rintro e w1 ⟨rfl,rfl⟩)|(go_at_call 26;(with_reducible refine (bP z 0 7 _ hz).mono ?_);rintro e w1 ⟨rfl,rfl⟩))
   exact cS
  replace hz:0<=z/\z<=7:=aa
  by_cases hc:c<0\/3<c
  ·skip;go_enter nu,nt;go_wp2_with (first|(go_at_call 26;(with_reducible refine (aF 3 1 4 _ ae ae).mono ?_);rintro e w1 ⟨rfl,rfl⟩)|(go_at_call 26;(with_reducible refine (aF x 0 7 _ hx.1 hx.2).mono ?_);rintro e w1 ⟨rfl,rfl⟩)|(go_at_call 26;(with_reducible refine (aF z 0 7 _ hz.1 hz.2).mono ?_);rintro e w1 ⟨rfl,rfl⟩)|(go_at_call 26;(with_reducible refine (bP c 0 3 _ hc).mono ?_);rintro e w1 ⟨rfl,rfl⟩))
   exact cS
  replace hc:0<=c/\c<=3:=aa
  go_enter nu,nt;go_wp2_with (first|(go_at_call 26;(with_reducible refine (aF 3 1 4 _ ae ae).mono ?_);rintro e w1 ⟨rfl,rfl⟩)|(go_at_call 26;(with_reducible refine (aF x 0 7 _ hx.1 hx.2).mono ?_);rintro e w1 ⟨rfl,rfl⟩)|(go_at_call 26;(with_reducible refine (aF z 0 7 _ hz.1 hz.2).mono ?_);rintro e w1 ⟨rfl,rfl⟩)|(go_at_call 26;(with_reducible refine (aF c 0 3 _ hc.1 hc.2).mono ?_);rintro e w1 ⟨rfl,rfl⟩))
  exact cS
 ·have HV:Hid (iO ⟨4,x,z,c⟩=(decide (0<=x) && decide (x<=15) && (decide (0<=z) && decide (z<=15)) && (decide (0<=c) && decide (c<=3)))):=aoF rfl
  by_cases hx:x<0\/15<x
  ·skip;go_enter nu,nt;go_wp2_with (first|(go_at_call 26;(with_reducible refine (aF 4 1 4 _ ae ae).mono ?_);rintro e w1 ⟨rfl,rfl⟩)|(go_at_call 26;(with_reducible refine (bP x 0 15 _ hx).mono ?_);rintro e w1 ⟨rfl,rfl⟩))
   exact cS
  replace hx:0<=x/\x<=15:=aa
  by_cases hz:z<0\/15<z
  ·skip;go_enter nu,nt;go_wp2_with (first|(go_at_call 26;(with_reducible refine (aF 4 1 4 _ ae ae).mono ?_);rintro e w1 ⟨rfl,rfl⟩)|(go_at_call 26;(with_reducible refine (aF x 0 15 _ hx.1 hx.2).mono ?_);rintro e w1 ⟨rfl,rfl⟩)|(go_at_call 26;(with_reducible refine (bP z 0 15 _ hz).mono ?_);rintro e w1 ⟨rfl,rfl⟩))
   exact cS
  replace hz:0<=z/\z<=15:=aa
  by_cases hc:c<0\/3<c
  ·skip;go_enter nu,nt;go_wp2_with (first|(go_at_call 26;(with_reducible refine (aF 4 1 4 _ ae ae).mono ?_);rintro e w1 ⟨rfl,rfl⟩)|(go_at_call 26;(with_reducible refine (aF x 0 15 _ hx.1 hx.2).mono ?_);rintro e w1 ⟨rfl,rfl⟩)|(go_at_call 26;(with_reducible refine (aF z 0 15 _ hz.1 hz.2).mono ?_);rintro e w1 ⟨rfl,rfl⟩)|(go_at_call 26;(with_reducible refine (bP c 0 3 _ hc).mono ?_);rintro e w1 ⟨rfl,rfl⟩))
   exact cS
  replace hc:0<=c/\c<=3:=aa
  go_enter nu,nt;go_wp2_with (first|(go_at_call 26;(with_reducible refine (aF 4 1 4 _ ae ae).mono ?_);rintro e w1 ⟨rfl,rfl⟩)|(go_at_call 26;(with_reducible refine (aF x 0 15 _ hx.1 hx.2).mono ?_);rintro e w1 ⟨rfl,rfl⟩)|(go_at_call 26;(with_reducible refine (aF z 0 15 _ hz.1 hz.2).mono ?_);rintro e w1 ⟨rfl,rfl⟩)|(go_at_call 26;(with_reducible refine (aF c 0 3 _ hc.1 hc.2).mono ?_);rintro e w1 ⟨rfl,rfl⟩))
  exact cS
theorem iY:(prog.info? 251).map (·.size)=some 4:=af
def tz (a b:Pa) (e:Ending):Prop:=e=.returned (.tuple #[(mulR a b).val,.bool (iO a && iO b && a.n==b.n)])
theorem abS {a b:Int} (h:0<=a) (k:0<=b):(a % 2==b % 2)=((a+b) % 2==0):=by
 by_cases e:a % 2=b % 2
 ·have:(a+b) % 2=0:=aa
  rw [eS.2 e,eS.2 this]
 ·have:¬(a+b) % 2=0:=aa
  rw [DE.2 e,DE.2 this]
theorem agu {a b:Pa} (h:(iO a && iO b && a.n==b.n)=false):mulR a b=P0:=by unfold mulR;rw [h];rfl
theorem abT {a b:Pa} (h:(iO a && iO b && a.n==b.n)=true):mulR a b=ags a b:=by unfold mulR;rw [aY h]
theorem Mb {a b:Pa} {e:Ending} (h:(iO a && iO b && a.n==b.n)=false) (he:e=.returned (.tuple #[P0.val,.bool false])):tz a b e:=by
 unfold tz;rw [he,agu h,h]
theorem Ul {a b:Pa} {e:Ending} (h:(iO a && iO b && a.n==b.n)=true) (he:e=.returned (.tuple #[(ags a b).val,.bool true])):tz a b e:=by
 unfold tz;rw [he,abT h,h]
theorem GO {P:Prop} (h:P:=by
 obtain ⟨⟨a0,a1,a2,a3⟩,z0,z1,z2,z3⟩:=aB jN.u;go_wp2
 exact bJ (v:=.tuple #[P0.val,.bool false]) (aR rfl _ _ _ _ _ _ _ rfl rfl (jN.u.bR (iI 0) (iI 0) (iI 0) (iI 0)) Bq rfl iY) rfl ⟨Mb HN.u rfl,aW (g:=w.heap.size+1+1) eK.u aa _ _ _ _⟩):P:=h
theorem dF (a b:Pa) (w:World):Calls prog 217 #[a.val,b.val] w fun e w'=>tz a b e/\Ext w w':=by
 go_enter func217,ntmps217;go_wp2_with fail;refine (cU a _).mono ?_;rintro e w1 ⟨rfl,aK⟩;have mC:Hid (au w1 (w.heap.size+2) 251 zO):=(au.newAt (b:=w.heap.size+2) ag).ext aK;have HA1:Hid (au w1 w.heap.size 251 (jF a)):=(((au.new w _ _).alloc _).alloc _).ext aK;have jI:Hid (au w1 (w.heap.size+1) 251 (jF b)):=((au.newAt (b:=w.heap.size+1) ag).alloc _).ext aK;have cH:Hid (Ext w w1):=Ext.trans aw aK;clear aK
 cases ha:iO a
 ·have HN:Hid ((iO a && iO b && a.n==b.n)=false):=by unfold Hid;rw [ha];rfl
  clear ha;obtain ⟨⟨a0,a1,a2,a3⟩,z0,z1,z2,z3⟩:=aB mC.u;go_wp2
  exact bJ (v:=.tuple #[P0.val,.bool false]) (aR rfl _ _ _ _ _ _ _ rfl rfl (mC.u.bR (iI 0) (iI 0) (iI 0) (iI 0)) Bq rfl iY) rfl ⟨Mb HN.u rfl,aW (g:=w.heap.size+1+1) cH.u aa _ _ _ _⟩
 have HVA:=hY ha;clear ha;obtain ⟨⟨b0,b1,b2,b3⟩,_⟩:=aB jI.u;go_wp2_with fail;refine (cU b _).mono ?_;rintro e w2 ⟨rfl,bz⟩;clear b0 b1 b2 b3;have jN:=hY (mC.u.ext bz);have HA2:=hY (HA1.u.ext bz);have dv:=hY (jI.u.ext bz);have eK:=hY (cH.u.trans bz);clear bz mC HA1 jI cH
 cases hb:iO b
 ·have HN:Hid ((iO a && iO b && a.n==b.n)=false):=by unfold Hid;rw [hb,ic];rfl
  clear hb
  exact GO
 have HVB:=hY hb;clear hb;obtain ⟨⟨b0,b1,b2,b3⟩,_⟩:=aB dv.u;obtain ⟨⟨c0,c1,c2,c3⟩,_⟩:=aB HA2.u
 cases hn:(a.n==b.n)
 ·have HN:Hid ((iO a && iO b && a.n==b.n)=false):=by unfold Hid;rw [hn,ic]
  have hn':(a.n !=b.n)=true:=mX
  clear hn
  exact GO
 have HN:Hid ((iO a && iO b && a.n==b.n)=true):=by unfold Hid;rw [HVA.u,HVB.u,hn];rfl
 have hn':(a.n !=b.n)=false:=mX
 clear hn;obtain ⟨hax,haz,YJ,_⟩:=BA HVA.u;obtain ⟨hbx,NJ,hbp,_⟩:=BA HVB.u;have hand:=Bz haz hbx;have hon:=Fb hand.1 hand.2;have HO:Hid (∀w',Calls prog 227 #[iI (bits .and .i64 a.z b.x)] w' fun e w''=>e=.returned (iI (rM (lV a.z b.x)))/\w'=w''):=fun w'=>nd _ w' hand.1 hand.2
 have HE:Hid ((ags a b).val=.agg #[iI a.n,iI (bits .xor .i64 a.x b.x),iI (bits .xor .i64 a.z b.z),iI ((a.p+b.p+2*rM (lV a.z b.x)) % 4)]):=rfl;generalize rM (lV a.z b.x)=t at*
 have e1:IntKind.i64.wrap (a.p+b.p)=a.p+b.p:=lH _ aa;have e2:IntKind.i64.wrap (2*t)=2*t:=lH _ aa;have e3:IntKind.i64.wrap (a.p+b.p+2*t)=a.p+b.p+2*t:=lH _ aa;have e4:(a.p+b.p+2*t).tmod 4=(a.p+b.p+2*t) % 4:=Ni aa;have e5:IntKind.i64.wrap ((a.p+b.p+2*t) % 4)=(a.p+b.p+2*t) % 4:=lH _ aa;clear hax haz YJ hbx NJ hbp hand hon;have HK:Hid (∀w',Ext w2 w'->((w'.cell? (aA w.z 0)=some (iI a.n)/\w'.cell? (aA w.z 1)=some (iI a.x)/\w'.cell? (aA w.z 2)=some (iI a.z)/\w'.cell? (aA w.z 3)=some (iI a.p))/\(w'.cell? (aA (w.z+1) 1)=some (iI b.x)/\w'.cell? (aA (w.z+1) 2)=some (iI b.z)/\w'.cell? (aA (w.z+1) 3)=some (iI b.p)))):=fun w' hx=>by
  obtain ⟨⟨q0,q1,q2,q3⟩,_⟩:=aB (HA2.u.ext hx);obtain ⟨⟨r0,r1,r2,r3⟩,_⟩:=aB (dv.u.ext hx)
  exact ⟨⟨q0,q1,q2,q3⟩,r1,r2,r3⟩
 have Bh:Hid (∀v0 v1 v2 v3,((((((w2.setCell (aA (w.heap.size+1+1) 0) v0).setCell (aA (w.heap.size+1+1) 1) v1).setCell (aA (w.heap.size+1+1) 2) v2).setCell (aA (w.heap.size+1+1) 3) v3).drew.cell? (aA w.z 0)=some (iI a.n)/\((((w2.setCell (aA (w.heap.size+1+1) 0) v0).setCell (aA (w.heap.size+1+1) 1) v1).setCell (aA (w.heap.size+1+1) 2) v2).setCell (aA (w.heap.size+1+1) 3) v3).drew.cell? (aA w.z 1)=some (iI a.x)/\((((w2.setCell (aA (w.heap.size+1+1) 0) v0).setCell (aA (w.heap.size+1+1) 1) v1).setCell (aA (w.heap.size+1+1) 2) v2).setCell (aA (w.heap.size+1+1) 3) v3).drew.cell? (aA w.z 2)=some (iI a.z)/\((((w2.setCell (aA (w.heap.size+1+1) 0) v0).setCell (aA (w.heap.size+1+1) 1) v1).setCell (aA (w.heap.size+1+1) 2) v2).setCell (aA (w.heap.size+1+1) 3) v3).drew.cell? (aA w.z 3)=some (iI a.p))/\(((((w2.setCell (aA (w.heap.size+1+1) 0) v0).setCell (aA (w.heap.size+1+1) 1) v1).setCell (aA (w.heap.size+1+1) 2) v2).setCell (aA (w.heap.size+1+1) 3) v3).drew.cell? (aA (w.z+1) 1)=some (iI b.x)/\((((w2.setCell (aA (w.heap.size+1+1) 0) v0).setCell (aA (w.heap.size+1+1) 1) v1).setCell (aA (w.heap.size+1+1) 2) v2).setCell (aA (w.heap.size+1+1) 3) v3).drew.cell? (aA (w.z+1) 2)=some (iI b.z)/\((((w2.setCell (aA (w.heap.size+1+1) 0) v0).setCell (aA (w.heap.size+1+1) 1) v1).setCell (aA (w.heap.size+1+1) 2) v2).setCell (aA (w.heap.size+1+1) 3) v3).drew.cell? (aA (w.z+1) 3)=some (iI b.p)))):=fun v0 v1 v2 v3=>by
  obtain ⟨⟨q0,q1,q2,q3⟩,_⟩:=aB ((ed (g:=w.heap.size+1+1) HA2.u aa v0 v1 v2 v3).ext (xZ _).drew);obtain ⟨⟨r0,r1,r2,r3⟩,_⟩:=aB ((ed (g:=w.heap.size+1+1) dv.u aa v0 v1 v2 v3).ext (xZ _).drew)
  exact ⟨⟨q0,q1,q2,q3⟩,r1,r2,r3⟩
 obtain ⟨⟨a0,a1,a2,a3⟩,z0,z1,z2,z3⟩:=aB jN.u;go_wp2
 go_region_held3 (fun w'=>(w'.cell? (aA w.z 0)=some (iI a.n)/\w'.cell? (aA w.z 1)=some (iI a.x)/\w'.cell? (aA w.z 2)=some (iI a.z)/\w'.cell? (aA w.z 3)=some (iI a.p))/\(w'.cell? (aA (w.z+1) 1)=some (iI b.x)/\w'.cell? (aA (w.z+1) 2)=some (iI b.z)/\w'.cell? (aA (w.z+1) 3)=some (iI b.p)))
  (first|(go_keep;done)|(with_reducible exact Bh.u _ _ _ _)|(refine HK.u _ ?_;exact xx;done))
  (first|(go_at_call 227;(with_reducible refine (HO.u _).mono ?_);rintro e w5 ⟨rfl,rfl⟩;obtain ⟨⟨y0,y1,y2,y3⟩,x0,x1,x2,x3⟩:=aB (jN.u.ext (xZ w2).drew)))
 go_wp2
 exact bJ (v:=.tuple #[.agg #[iI a.n,iI (bits .xor .i64 a.x b.x),iI (bits .xor .i64 a.z b.z),iI ((a.p+b.p+2*t) % 4)],.bool true]) (aR rfl _ _ _ _ _ _ _ rfl rfl ((jN.u.bR (iI a.n) (iI (bits .xor .i64 a.x b.x)) (iI (bits .xor .i64 a.z b.z)) (iI ((a.p+b.p+2*t) % 4))).ext (xZ _).drew) Bq rfl iY) rfl ⟨Ul HN.u (by rw [HE.u]),(aW (g:=w.heap.size+1+1) eK.u aa _ _ _ _).drew⟩
theorem sZ (a b:Pa) (w:World) (ha:iO a=true) (hb:iO b=true):Calls prog 215 #[a.val,b.val] w fun e w'=>e=.returned (.bool (comm a b))/\Ext w w':=by
 obtain ⟨hax,haz,YJ,_⟩:=BA ha;obtain ⟨hbx,NJ,hbp,_⟩:=BA hb;have hand:=Bz hax NJ;have hon:=Fb hand.1 hand.2;have QT:=Bz haz hbx;have atK:=Fb QT.1 QT.2;have HO:Hid (∀w',Calls prog 227 #[iI (bits .and .i64 a.x b.z)] w' fun e w''=>e=.returned (iI (rM (lV a.x b.z)))/\w'=w''):=fun w'=>nd _ w' hand.1 hand.2
 have HP:Hid (∀w',Calls prog 227 #[iI (bits .and .i64 a.z b.x)] w' fun e w''=>e=.returned (iI (rM (lV a.z b.x)))/\w'=w''):=fun w'=>nd _ w' QT.1 QT.2
 have HE:Hid (comm a b=((rM (lV a.x b.z)+rM (lV a.z b.x)) % 2==0)):=rfl;generalize rM (lV a.x b.z)=s at*
 generalize rM (lV a.z b.x)=t at*
 have e1:IntKind.i64.wrap (s+t)=s+t:=lH _ aa;have e2:(s+t).tmod 2=(s+t) % 2:=Ni aa;have e3:IntKind.i64.wrap ((s+t) % 2)=(s+t) % 2:=lH _ aa;clear hax haz YJ hbx NJ hbp hand hon QT atK ha hb;go_enter func215,ntmps215;go_wp2;have HA2:Hid (au ((w.alloc (cO (jF a) 251)).alloc (cO (jF b) 251)) w.heap.size 251 (jF a)):=(au.new w _ _).alloc _;have dv:Hid (au ((w.alloc (cO (jF a) 251)).alloc (cO (jF b) 251)) (w.heap.size+1) 251 (jF b)):=au.newAt (b:=w.heap.size+1) ag;have eK:Hid (Ext w ((w.alloc (cO (jF a) 251)).alloc (cO (jF b) 251))):=xx;generalize ((w.alloc (cO (jF a) 251)).alloc (cO (jF b) 251))=w2 at*
 have HK:Hid (∀w',Ext w2 w'->((w'.cell? (aA w.z 1)=some (iI a.x)/\w'.cell? (aA w.z 2)=some (iI a.z))/\(w'.cell? (aA (w.z+1) 1)=some (iI b.x)/\w'.cell? (aA (w.z+1) 2)=some (iI b.z)))):=fun w' hx=>by
  obtain ⟨⟨q0,q1,q2,q3⟩,_⟩:=aB (HA2.u.ext hx);obtain ⟨⟨r0,r1,r2,r3⟩,_⟩:=aB (dv.u.ext hx)
  exact ⟨⟨q1,q2⟩,r1,r2⟩
 obtain ⟨⟨q1,q2⟩,r1,r2⟩:=HK.u w2 (xZ _)
 go_region_held3 (fun w'=>(w'.cell? (aA w.z 1)=some (iI a.x)/\w'.cell? (aA w.z 2)=some (iI a.z))/\(w'.cell? (aA (w.z+1) 1)=some (iI b.x)/\w'.cell? (aA (w.z+1) 2)=some (iI b.z)))
  (first|(go_keep;done)|(refine HK.u _ ?_;exact xx;done))
  (first|(go_at_call 227;(with_reducible refine (HO.u _).mono ?_);rintro e w5 ⟨rfl,rfl⟩)|(go_at_call 227;(with_reducible refine (HP.u _).mono ?_);rintro e w5 ⟨rfl,rfl⟩))
 all_goals
  go_wp2;go_ret
  exact ⟨aI HE.u.symm,eK.u.drew⟩
theorem qy (p:Pa) (w:World):Calls prog 214 #[p.val] w fun e w'=>e=.returned (.bool (Lk p))/\Ext w w':=by
 have HE:Hid (Lk p=(iO p && (p.p % 2==rM (lV p.x p.z) % 2))):=rfl;go_enter func214,ntmps214;go_wp2;have HA2:Hid (au (w.alloc (cO (jF p) 251)) w.heap.size 251 (jF p)):=au.new w _ _;have eK:Hid (Ext w (w.alloc (cO (jF p) 251))):=xx;generalize (w.alloc (cO (jF p) 251))=w2 at*
 have HK:Hid (∀w',Ext w2 w'->(w'.cell? (aA w.z 0)=some (iI p.n)/\w'.cell? (aA w.z 1)=some (iI p.x)/\w'.cell? (aA w.z 2)=some (iI p.z)/\w'.cell? (aA w.z 3)=some (iI p.p))):=fun w' hx=>by
  obtain ⟨⟨q0,q1,q2,q3⟩,_⟩:=aB (HA2.u.ext hx)
  exact ⟨q0,q1,q2,q3⟩
 obtain ⟨q0,q1,q2,q3⟩:=HK.u w2 (xZ _)
 cases hv:iO p
 ·have HF:Hid (Lk p=false):=by unfold Hid;rw [HE.u,hv];rfl
  refine dt (S:=(fun w'=>w'.cell? (aA w.z 0)=some (iI p.n)/\w'.cell? (aA w.z 1)=some (iI p.x)/\w'.cell? (aA w.z 2)=some (iI p.z)/\w'.cell? (aA w.z 3)=some (iI p.p))) af (HK.u _ (xZ w2).drew) (fun aEQ=>?_);refine tq 0 ?_
  (refine jy (rs:=[1]) af ag ?_;refine iU rfl (fun K hK=>?_) jx;go_simp)
  refine (cU p _).mono ?_;rintro e w3 ⟨rfl,ig⟩;replace ig:Ext w2 w3:=Ext.trans (xZ w2).drew ig;rw [hv];refine ov hK (HK.u _ ig) fun aEQ=>?_
  refine tq 2 ?_;refine sk 3 ?_;refine sk 4 ?_;refine sk 5 ?_;refine sk 6 ?_;refine sk 7 ?_;refine sk 8 ?_;refine sk 9 ?_;refine sk 10 ?_;refine sk 11 ?_;refine sk 12 ?_;refine sk 13 ?_;refine tq 14 ?_;refine tq 15 ?_;refine dn ?_;go_wp2;go_ret
  exact ⟨aI HF.u.symm,eK.u.trans ig⟩
 have HV:=hY hv;obtain ⟨hax,haz,YJ,_⟩:=BA hv;have hand:=Bz hax haz;have hon:=Fb hand.1 hand.2;have HO:Hid (∀w',Calls prog 227 #[iI (bits .and .i64 p.x p.z)] w' fun e w''=>e=.returned (iI (rM (lV p.x p.z)))/\w'=w''):=fun w'=>nd _ w' hand.1 hand.2
 rw [hv,oc] at HE;generalize rM (lV p.x p.z)=t at*
 have e1:IntKind.i64.wrap (p.p+t)=p.p+t:=lH _ aa;have e2:(p.p+t).tmod 2=(p.p+t) % 2:=Ni aa;have e3:IntKind.i64.wrap ((p.p+t) % 2)=(p.p+t) % 2:=lH _ aa;rw [abS YJ.1 hon.1] at HE;clear hax haz YJ hand hon;have HCV:Hid (∀w',Calls prog 216 #[p.val] w' fun e w''=>e=.returned (.bool true)/\Ext w' w''):=fun w'=>by have:=cU p w';rw [hv] at this;exact this
 clear hv
 go_region_held3 (fun w'=>w'.cell? (aA w.z 0)=some (iI p.n)/\w'.cell? (aA w.z 1)=some (iI p.x)/\w'.cell? (aA w.z 2)=some (iI p.z)/\w'.cell? (aA w.z 3)=some (iI p.p))
  (first|(go_keep;done)|(refine HK.u _ ?_;first|assumption|exact Ext.trans aL (xZ _).drew))
  (first|(go_at_call 216;(with_reducible refine (HCV.u _).mono ?_);rintro e w5 ⟨rfl,cf⟩;replace cf:Ext w2 w5:=Ext.trans (xZ w2).drew cf)|(go_at_call 227;(with_reducible refine (HO.u _).mono ?_);rintro e w6 ⟨rfl,rfl⟩))
 all_goals
  go_wp2;go_ret
  exact ⟨aI HE.u.symm,eK.u.trans cf⟩
end Go.Proofs.YtodhjgngkkcjgaaGreatDoor
