import Derived.Test.YtodhjgngkkcjgaaGreatDoorXr
import Derived.Test.YtodhjgngkkcjgaaGreatDoorXu
import Derived.Test.YtodhjgngkkcjgaaGreatDoorXn
namespace Go.Proofs.YtodhjgngkkcjgaaGreatDoor
open Go.ChangeShapes Go.WideShapes Go.ChangeAt Go.RowKit Go.Deep Go.Proofs.Tryz
set_option linter.unusedVariables false
set_option linter.unusedSimpArgs false
set_option maxRecDepth 100000
set_option maxHeartbeats 16000000
def Cf (w0 W:World) (q n m bE:Nat):Prop:=∃A c rs L len cap gs,WK w0 W q n A m c rs L len cap gs/\len<=bE
theorem Cf.ext {w0 W W':World} {q n m bE:Nat} (h:Cf w0 W q n m bE) (hx:Ext W W'):Cf w0 W' q n m bE:=by
 obtain ⟨A,c,rs,L,len,cap,gs,h1,h2⟩:=h
 exact ⟨A,c,rs,L,len,cap,gs,h1.ext hx,h2⟩
theorem Cf.more {w0 W:World} {q n m bE most':Nat} (h:Cf w0 W q n m bE) (hl:bE<=most'):Cf w0 W q n m most':=by
 obtain ⟨A,c,rs,L,len,cap,gs,h1,h2⟩:=h
 exact ⟨A,c,rs,L,len,cap,gs,h1,aa⟩
theorem Cf.do_ {w0 W:World} {q n m bE:Nat} (h:Cf w0 W q n m bE) (hl:bE<=1000000) (g:Gt):Calls prog 221 #[.pointer (some ⟨q,0,none⟩),g.val] W fun e W'=>e=.returned (.tuple #[])/\Cf w0 W' q n m (bE+1):=by
 obtain ⟨A,c,rs,L,len,cap,gs,h1,h2⟩:=h;refine (Zy w0 W q n A m c rs L len cap gs g h1 aa).mono ?_;rintro e W' ⟨rfl,A',c',Eg,L',sK,jM,gs',h3,h4⟩
 exact ⟨rfl,A',c',Eg,L',sK,jM,gs',h3,aa⟩
theorem Cf.row {w0 W:World} {q n m bE i:Nat} (h:Cf w0 W q n m bE) (hi:i<m):W.cell? (aA q 0)=some (iI n)/\∃(b o c:Nat) (p:Pa),W.cell? (aA q 1)=some (.slice (some ⟨b,o,none⟩) m c)/\
  (W.cell? (aA b (o+i*4))=some (iI p.n)/\W.cell? (aA b (o+i*4+1))=some (iI p.x)/\W.cell? (aA b (o+i*4+2))=some (iI p.z)/\W.cell? (aA b (o+i*4+3))=some (iI p.p)):=by
 obtain ⟨A,c,rs,L,len,cap,gs,h1,h2⟩:=h;obtain ⟨b,o,p,rfl,hb,hg,y0,y1,y2,y3⟩:=gD h1.r hi
 exact ⟨h1.b.cell 0,b,o,c,p,h1.b.cell 1,y0,y1,y2,y3⟩
theorem Cf.n_ {w0 W:World} {q n m bE:Nat} (h:Cf w0 W q n m bE):W.cell? (aA q 0)=some (iI n):=by
 obtain ⟨A,c,rs,L,len,cap,gs,h1,h2⟩:=h
 exact h1.b.cell 0
theorem Cf.x {w0 W:World} {q n m bE:Nat} (h:Cf w0 W q n m bE):Ext w0 W:=by
 obtain ⟨A,c,rs,L,len,cap,gs,h1,h2⟩:=h
 exact h1.x
theorem tT {P:Prop} (h:P:=by
 rintro e wx ⟨⟨bx,rfl⟩,ka⟩;have cQ:=hY (HX.u.ext ka);have Xs:=hY (HP.u.ext ka);clear ka HX HP p0 p1 p2 p3;have HX:=cQ;have HP:=Xs;clear cQ Xs
 cases bx
 ·go_wp2;go_roundw
  case rel=>exact ⟨k+1,by first|rfl|rw [et]|rw [iM],oM bZ.u,oM bZ.u,HX.u.more (oM bZ.u)⟩
  case measure=>simp [intOf,iM];have:=bZ.u;omega
 ·go_wp2_with fail;refine (aP 4 k _ (xZ _)).mono ?_;rintro e wo ⟨rfl,uN⟩;have cQ:=hY (HX.u.ext uN);clear uN HX;have HX:=cQ;clear cQ;go_wp2_with fail;refine (HX.u.do_ (oM HN.u) ⟨4,k,0,0⟩).mono ?_;rintro e wd ⟨rfl,wU⟩;have cQ:=hY wU;clear wU HX;have HX:=cQ;clear cQ;go_wp2;go_roundw
  case rel=>exact ⟨k+1,by first|rfl|rw [et]|rw [iM],oM bZ.u,oM bZ.u,HX.u.more (oM bZ.u)⟩
  case measure=>simp [intOf,iM];have:=bZ.u;omega):P:=h
theorem mH {P:Prop} (h:P:=by
 go_wp2;go_roundw
 case rel=>exact ⟨k+1,by first|rfl|rw [et]|rw [iM],oM bZ.u,oM bZ.u,HX.u.more (oM bZ.u)⟩
 case measure=>simp [intOf,iM];have:=bZ.u;omega):P:=h
theorem AH {P:Prop} (h:P:=by
 have hi1:=wA i (oM HN.u);have hi2:=wB i (oM HN.u)
 exact ⟨i+1,by first|rfl|rw [hi1]|rw [hi2],lI _,oM HN.u,HX.u.more aa⟩):P:=h
theorem Pd (w0 W:World) (q n m i bE:Nat) (h:Cf w0 W q n m bE) (hn:1<=n/\n<=4) (hm:m=2*n) (hi:i<n) (GR:bE<=900000):
  Calls prog 205 #[.pointer (some ⟨q,0,none⟩),iI i] W fun e W'=>e=.returned (.tuple #[])/\Cf w0 W' q n m (bE+8):=by
 have HN:Hid (1<=n/\n<=4/\m=2*n/\i<n/\bE<=900000):=⟨hn.1,hn.2,hm,hi,GR⟩;have HX:=hY h;have TW:(0:Int)<=(i:Int):=aa
 have him:(i:Int)<(m:Int):=aa
 have jX:IntKind.i64.wrap ((n:Int) - 1)=((n - 1:Nat):Int):=rE
 have DP:wrap64 ((n:Int) - 1)=((n - 1:Nat):Int):=bk
 clear h hn hm hi GR;have d0:=HX.u.n_;go_enter func205,ntmps205;go_wp2;clear d0
 go_loopw [5] (fun kv wr=>∃k:Nat,kv=iI k/\i<=k/\k<=n/\Hid (Cf w0 wr q n m (bE+1*(k - (i))))) (fun kv _=>n - (intOf kv).toNat)
 case atStart=>exact ⟨i,rfl,lI _,oM HN.u,HX.u.more aa⟩
 case round=>
  obtain ⟨k,rfl,KY,jJ,cQ⟩:=hrel;clear HX;have HX:=cQ;clear cQ
  by_cases ba:k<n
  ·have bZ:Hid (i<=k/\k<n/\n<=4):=⟨KY,ba,HN.u.2.1⟩;have et:=wA k (oM HN.u);have iM:=wB k (oM HN.u);obtain ⟨d0,b,o,c,p,d1,x0,x1,x2,x3⟩:=HX.u.row (i:=i) (oM HN.u);go_upto_region 5 with fail;have cQ:=hY (HX.u.ext ((xZ wr).alloc (cO (jF p) 251)));have HP:Hid (au (wr.alloc (cO (jF p) 251)) wr.heap.size 251 (jF p)):=au.new _ _ _;clear HX d0 d1 x0 x1 x2 x3;have HX:=cQ;clear cQ;generalize wr.alloc (cO (jF p) 251)=wp at*
   generalize wr.heap.size=s at*
   obtain ⟨⟨p0,p1,p2,p3⟩,-⟩:=aB HP.u;go_wp2_with fail;refine (qb p k (oM HN.u) _).mono ?_;rintro e wx ⟨⟨bx,rfl⟩,ka⟩;have cQ:=hY (HX.u.ext ka);have Xs:=hY (HP.u.ext ka);clear ka HX HP p0 p1 p2 p3;have HX:=cQ;have HP:=Xs;clear cQ Xs
   cases bx
   ·obtain ⟨⟨p0,p1,p2,p3⟩,-⟩:=aB HP.u;go_wp2_with fail;refine (wO p k (oM HN.u) _).mono ?_
    exact tT
   ·obtain ⟨⟨p0,p1,p2,p3⟩,-⟩:=aB HP.u;go_wp2_with fail;refine (wO p k (oM HN.u) _).mono ?_;rintro e wx ⟨⟨bx,rfl⟩,ka⟩;have cQ:=hY (HX.u.ext ka);have Xs:=hY (HP.u.ext ka);clear ka HX HP p0 p1 p2 p3;have HX:=cQ;have HP:=Xs;clear cQ Xs
    cases bx
    ·obtain ⟨⟨p0,p1,p2,p3⟩,-⟩:=aB HP.u;go_wp2_with fail;refine (wO p k (oM HN.u) _).mono ?_
     exact tT
    ·go_wp2_with fail;refine (aP 5 k _ (xZ _)).mono ?_;rintro e wo ⟨rfl,uN⟩;have cQ:=hY (HX.u.ext uN);clear uN HX;have HX:=cQ;clear cQ;go_wp2_with fail;refine (HX.u.do_ (oM HN.u) ⟨5,k,0,0⟩).mono ?_;rintro e wd ⟨rfl,wU⟩;have cQ:=hY wU;clear wU HX;have HX:=cQ;clear cQ
     exact mH
  ·obtain rfl:n=k:=aa
   have cQ:=hY (HX.u.more (most':=bE+4) (oM HN.u));clear HX ba KY jJ;have HX:=cQ;clear cQ;go_wp2
   go_loopw [7] (fun kv wr=>∃k:Nat,kv=iI k/\i<=k/\k+1<=n/\Hid (Cf w0 wr q n m (bE+4))) (fun kv _=>n - (intOf kv).toNat)
   case atStart=>exact ⟨i,rfl,lI _,oM HN.u,HX⟩
   case round=>
    obtain ⟨k,rfl,KY,jJ,cQ⟩:=hrel;clear HX;have HX:=cQ;clear cQ;have bZ:Hid (i<=k/\k+1<=n/\n<=4):=⟨KY,jJ,HN.u.2.1⟩;have et:=wA k (oM HN.u);have iM:=wB k (oM HN.u)
    by_cases ba:k+1<n
    case' pos=>
     have wE:(k:Int)<((n - 1:Nat):Int):=aa
     obtain ⟨d0,b,o,c,p,d1,x0,x1,x2,x3⟩:=HX.u.row (i:=i) (oM HN.u);go_wp2_with fail;refine (qb p k (oM HN.u) _).mono ?_;rintro e wx ⟨⟨bx,rfl⟩,ka⟩;have cQ:=hY (HX.u.ext ka);clear ka HX d0 d1 x0 x1 x2 x3;have HX:=cQ;clear cQ
     cases bx
     case' false=>
      go_wp2;go_roundw
      case rel=>exact ⟨k+1,by first|rfl|rw [et]|rw [iM],oM bZ.u,oM bZ.u,HX.u.more (oM bZ.u)⟩
      case measure=>simp [intOf,iM];have:=bZ.u;omega
    case' neg=>
     have wE:¬(k:Int)<((n - 1:Nat):Int):=aa
    all_goals
     by_cases NP:k=i
     case' pos=>
      obtain rfl:i=k:=NP.symm;go_wp2
     case' neg=>
      have au0:¬(k:Int)=(i:Int):=aa
      go_wp2_with fail;refine (HX.u.do_ (oM HN.u) ⟨11,i,k,0⟩).mono ?_;rintro e wd ⟨rfl,wU⟩;have cQ:=hY wU;clear wU HX;have HX:=cQ;clear cQ;go_wp2
    all_goals
     have cQ:=hY (HX.u.more (most':=bE+5) aa);clear HX;have HX:=cQ;clear cQ;clear ba KY jJ bZ et iM
     (try clear NP)
     (try clear au0)
     (try clear wE)
     go_loopw [7] (fun kv wr=>∃k:Nat,kv=iI k/\i+1<=k/\k<=n/\Hid (Cf w0 wr q n m (bE+5+(k - (i+1))))) (fun kv _=>n - (intOf kv).toNat)
     case atStart=>
      exact AH
     case round=>
      obtain ⟨k,rfl,KY,jJ,cQ⟩:=hrel;clear HX;have HX:=cQ;clear cQ
      by_cases ba:k<n
      ·have bZ:Hid (i+1<=k/\k<n/\n<=4):=⟨KY,ba,HN.u.2.1⟩;have et:=wA k (oM HN.u);have iM:=wB k (oM HN.u);obtain ⟨d0,b,o,c,p,d1,x0,x1,x2,x3⟩:=HX.u.row (i:=i) (oM HN.u);go_wp2_with fail;refine (qb p k (oM HN.u) _).mono ?_;rintro e wx ⟨⟨bx,rfl⟩,ka⟩;have cQ:=hY (HX.u.ext ka);clear ka HX d0 d1 x0 x1 x2 x3;have HX:=cQ;clear cQ
       cases bx
       ·exact mH
       ·go_wp2_with fail;refine (dI i k _ (xZ _)).mono ?_;rintro e wo ⟨rfl,uN⟩;have cQ:=hY (HX.u.ext uN);clear uN HX;have HX:=cQ;clear cQ;go_wp2_with fail;refine (HX.u.do_ (oM HN.u) ⟨9,i,k,0⟩).mono ?_;rintro e wd ⟨rfl,wU⟩;have cQ:=hY wU;clear wU HX;have HX:=cQ;clear cQ
        exact mH
      ·have cQ:=hY (HX.u.more (most':=bE+8) (oM HN.u));clear HX;have HX:=cQ;clear cQ;go_wp2
       exact FU (v:=.tuple #[]) af rfl ⟨rfl,HX.u⟩
theorem Cf.apL {w0 W:World} {q n m bE i j:Nat} (h:Cf w0 W q n m bE) (hi:i<m) (hj:j<m):W.cell? (aA q 0)=some (iI n)/\∃(b o c:Nat) (p p':Pa),W.cell? (aA q 1)=some (.slice (some ⟨b,o,none⟩) m c)/\
  (W.cell? (aA b (o+i*4))=some (iI p.n)/\W.cell? (aA b (o+i*4+1))=some (iI p.x)/\W.cell? (aA b (o+i*4+2))=some (iI p.z)/\W.cell? (aA b (o+i*4+3))=some (iI p.p))/\
  (W.cell? (aA b (o+j*4))=some (iI p'.n)/\W.cell? (aA b (o+j*4+1))=some (iI p'.x)/\W.cell? (aA b (o+j*4+2))=some (iI p'.z)/\W.cell? (aA b (o+j*4+3))=some (iI p'.p)):=by
 obtain ⟨A,c,rs,L,len,cap,gs,h1,h2⟩:=h;obtain ⟨b,o,p,rfl,hb,hg,y0,y1,y2,y3⟩:=gD h1.r hi;obtain ⟨b',o',p',he,rJ,Bc,z0,z1,z2,z3⟩:=gD h1.r hj;simp only [iG,jR] at he;obtain ⟨rfl,rfl,-⟩:=he
 exact ⟨h1.b.cell 0,b,o,c,p,p',h1.b.cell 1,⟨y0,y1,y2,y3⟩,z0,z1,z2,z3⟩
theorem Jr {P:Prop} (h:P:=by
 go_wp2_with fail;refine (aP 1 i _ (xZ _)).mono ?_;rintro e wo ⟨rfl,uN⟩;have cQ:=hY (HX.u.ext uN);clear uN HX;have HX:=cQ;clear cQ;go_wp2_with fail;refine (HX.u.do_ (oM HN.u) ⟨1,i,0,0⟩).mono ?_;rintro e wd ⟨rfl,wU⟩;have cQ:=hY wU;clear wU HX;have HX:=cQ;clear cQ;have cQ:=hY (HX.u.more (most':=bE+16) (oM HN.u));clear HX;go_wp2
 exact FU (v:=.tuple #[]) af rfl ⟨rfl,cQ.u⟩):P:=h
theorem Js {P:Prop} (h:P:=by
 have cQ:=hY (HX.u.more (most':=bE+16) (oM HN.u));clear HX;go_wp2
 exact FU (v:=.tuple #[]) af rfl ⟨rfl,cQ.u⟩):P:=h
theorem Lw (w0 W:World) (q n m i bE:Nat) (h:Cf w0 W q n m bE) (hn:1<=n/\n<=4) (hm:m=2*n) (hi:i<n) (GR:bE<=900000):
  Calls prog 206 #[.pointer (some ⟨q,0,none⟩),iI i] W fun e W'=>e=.returned (.tuple #[])/\Cf w0 W' q n m (bE+16):=by
 have HN:Hid (1<=n/\n<=4/\m=2*n/\i<n/\bE<=900000):=⟨hn.1,hn.2,hm,hi,GR⟩;have HX:=hY h;have TW:(0:Int)<=(i:Int):=aa
 have him:(i:Int)<(m:Int):=aa
 have hs0:(0:Int)<=(n:Int)+(i:Int):=aa
 have hsm:(n:Int)+(i:Int)<(m:Int):=aa
 have UM:IntKind.i64.wrap ((n:Int)+(i:Int))=(n:Int)+(i:Int):=lH _ aa;have OM:wrap64 ((n:Int)+(i:Int))=(n:Int)+(i:Int):=bk
 have hs3:((n:Int)+(i:Int)).toNat=n+i:=aa
 clear h hn hm hi GR;have d0:=HX.u.n_;go_enter func206,ntmps206;go_wp2;clear d0
 go_loopw [5] (fun kv wr=>∃k:Nat,kv=iI k/\i+1<=k/\k<=n/\Hid (Cf w0 wr q n m (bE+0+2*(k - (i+1))))) (fun kv _=>n - (intOf kv).toNat)
 case atStart=>
      exact AH
 case round=>
  obtain ⟨k,rfl,KY,jJ,cQ⟩:=hrel;clear HX;have HX:=cQ;clear cQ
  by_cases ba:k<n
  ·have bZ:Hid (i+1<=k/\k<n/\n<=4):=⟨KY,ba,HN.u.2.1⟩;have et:=wA k (oM HN.u);have iM:=wB k (oM HN.u);obtain ⟨d0,b,o,c,p,d1,x0,x1,x2,x3⟩:=HX.u.row (i:=n+i) (oM HN.u);go_upto_region 5 with fail;have cQ:=hY (HX.u.ext ((xZ wr).alloc (cO (jF p) 251)));have HP:Hid (au (wr.alloc (cO (jF p) 251)) wr.heap.size 251 (jF p)):=au.new _ _ _;clear HX d0 d1 x0 x1 x2 x3;have HX:=cQ;clear cQ;generalize wr.alloc (cO (jF p) 251)=wp at*
   generalize wr.heap.size=s at*
   obtain ⟨⟨p0,p1,p2,p3⟩,-⟩:=aB HP.u;go_wp2_with fail;refine (qb p k (oM HN.u) _).mono ?_;rintro e wx ⟨⟨bx,rfl⟩,ka⟩;have cQ:=hY (HX.u.ext ka);have Xs:=hY (HP.u.ext ka);clear ka HX HP p0 p1 p2 p3;have HX:=cQ;have HP:=Xs;clear cQ Xs
   cases bx
   ·obtain ⟨⟨p0,p1,p2,p3⟩,-⟩:=aB HP.u;go_wp2_with fail;refine (qb p k (oM HN.u) _).mono ?_
    exact tT
   ·obtain ⟨⟨p0,p1,p2,p3⟩,-⟩:=aB HP.u;go_wp2_with fail;refine (wO p k (oM HN.u) _).mono ?_;rintro e wx ⟨⟨bx,rfl⟩,ka⟩;have cQ:=hY (HX.u.ext ka);have Xs:=hY (HP.u.ext ka);clear ka HX HP p0 p1 p2 p3;have HX:=cQ;have HP:=Xs;clear cQ Xs
    cases bx
    ·obtain ⟨⟨p0,p1,p2,p3⟩,-⟩:=aB HP.u;go_wp2_with fail;refine (qb p k (oM HN.u) _).mono ?_
     exact tT
    ·go_wp2_with fail;refine (aP 5 k _ (xZ _)).mono ?_;rintro e wo ⟨rfl,uN⟩;have cQ:=hY (HX.u.ext uN);clear uN HX;have HX:=cQ;clear cQ;go_wp2_with fail;refine (HX.u.do_ (oM HN.u) ⟨5,k,0,0⟩).mono ?_;rintro e wd ⟨rfl,wU⟩;have cQ:=hY wU;clear wU HX;have HX:=cQ;clear cQ;go_wp2_with fail;refine (aP 4 k _ (xZ _)).mono ?_;rintro e wo ⟨rfl,uN⟩;have cQ:=hY (HX.u.ext uN);clear uN HX;have HX:=cQ;clear cQ;go_wp2_with fail;refine (HX.u.do_ (oM HN.u) ⟨4,k,0,0⟩).mono ?_;rintro e wd ⟨rfl,wU⟩;have cQ:=hY wU;clear wU HX;have HX:=cQ;clear cQ
     exact mH
  ·obtain rfl:n=k:=aa
   have cQ:=hY (HX.u.more (most':=bE+6) (oM HN.u));clear HX;have HX:=cQ;clear cQ;clear ba KY jJ;go_wp2
   go_loopw [7] (fun kv wr=>∃k:Nat,kv=iI k/\i+1<=k/\k<=n/\Hid (Cf w0 wr q n m (bE+6+1*(k - (i+1))))) (fun kv _=>n - (intOf kv).toNat)
   case atStart=>
      exact AH
   case round=>
    obtain ⟨k,rfl,KY,jJ,cQ⟩:=hrel;clear HX;have HX:=cQ;clear cQ
    by_cases ba:k<n
    ·have bZ:Hid (i+1<=k/\k<n/\n<=4):=⟨KY,ba,HN.u.2.1⟩;have et:=wA k (oM HN.u);have iM:=wB k (oM HN.u);obtain ⟨d0,b,o,c,p,d1,x0,x1,x2,x3⟩:=HX.u.row (i:=n+i) (oM HN.u);go_wp2_with fail;refine (wO p k (oM HN.u) _).mono ?_;rintro e wx ⟨⟨bx,rfl⟩,ka⟩;have cQ:=hY (HX.u.ext ka);clear ka HX d0 d1 x0 x1 x2 x3;have HX:=cQ;clear cQ
     cases bx
     ·exact mH
     ·go_wp2_with fail;refine (dI k i _ (xZ _)).mono ?_;rintro e wo ⟨rfl,uN⟩;have cQ:=hY (HX.u.ext uN);clear uN HX;have HX:=cQ;clear cQ;go_wp2_with fail;refine (HX.u.do_ (oM HN.u) ⟨9,k,i,0⟩).mono ?_;rintro e wd ⟨rfl,wU⟩;have cQ:=hY wU;clear wU HX;have HX:=cQ;clear cQ
      exact mH
    ·obtain rfl:n=k:=aa
     have cQ:=hY (HX.u.more (most':=bE+9) (oM HN.u));clear HX;have HX:=cQ;clear cQ;clear ba KY jJ;obtain ⟨d0,b,o,c,p,d1,x0,x1,x2,x3⟩:=HX.u.row (i:=n+i) (oM HN.u);go_wp2_with fail;refine (qb p i (oM HN.u) _).mono ?_;rintro e wx ⟨⟨bx,rfl⟩,ka⟩;have cQ:=hY (HX.u.ext ka);clear ka HX d0 d1 x0 x1 x2 x3;have HX:=cQ;clear cQ
     cases bx
     case' true=>
      go_wp2_with fail;refine (aP 4 i _ (xZ _)).mono ?_;rintro e wo ⟨rfl,uN⟩;have cQ:=hY (HX.u.ext uN);clear uN HX;have HX:=cQ;clear cQ;go_wp2_with fail;refine (HX.u.do_ (oM HN.u) ⟨4,i,0,0⟩).mono ?_;rintro e wd ⟨rfl,wU⟩;have cQ:=hY wU;clear wU HX;have HX:=cQ;clear cQ;go_wp2_with fail;refine (aP 5 i _ (xZ _)).mono ?_;rintro e wo ⟨rfl,uN⟩;have cQ:=hY (HX.u.ext uN);clear uN HX;have HX:=cQ;clear cQ;go_wp2_with fail;refine (HX.u.do_ (oM HN.u) ⟨5,i,0,0⟩).mono ?_;rintro e wd ⟨rfl,wU⟩;have cQ:=hY wU;clear wU HX;have HX:=cQ;clear cQ;go_wp2_with fail;refine (aP 4 i _ (xZ _)).mono ?_;rintro e wo ⟨rfl,uN⟩;have cQ:=hY (HX.u.ext uN);clear uN HX;have HX:=cQ;clear cQ;go_wp2_with fail;refine (HX.u.do_ (oM HN.u) ⟨4,i,0,0⟩).mono ?_;rintro e wd ⟨rfl,wU⟩;have cQ:=hY wU;clear wU HX;have HX:=cQ;clear cQ
     all_goals
      have cQ:=hY (HX.u.more (most':=bE+12) (oM HN.u));clear HX;have HX:=cQ;clear cQ;obtain ⟨d0,b,o,c,p,p',d1,⟨x0,x1,x2,x3⟩,y0,y1,y2,y3⟩:=HX.u.apL (i:=i) (j:=n+i) (oM HN.u) (oM HN.u)
      by_cases Ls:p.p=2
      ·rw [Ls] at x3;clear y0 y1 y2 y3 Ls;go_wp2_with fail;refine (aP 3 i _ (xZ _)).mono ?_;rintro e wo ⟨rfl,uN⟩;have cQ:=hY (HX.u.ext uN);clear uN HX;have HX:=cQ;clear cQ;go_wp2_with fail;refine (HX.u.do_ (oM HN.u) ⟨3,i,0,0⟩).mono ?_;rintro e wd ⟨rfl,wU⟩;have cQ:=hY wU;clear wU HX;have HX:=cQ;clear cQ;have cQ:=hY (HX.u.more (most':=bE+13) (oM HN.u));clear HX;have HX:=cQ;clear cQ;clear d0 d1 x0 x1 x2 x3;obtain ⟨d0,b,o,c,p,p',d1,⟨x0,x1,x2,x3⟩,y0,y1,y2,y3⟩:=HX.u.apL (i:=i) (j:=n+i) (oM HN.u) (oM HN.u)
       by_cases hp3:p'.p=2
       ·rw [hp3] at y3;clear x0 x1 x2 x3 hp3
        exact Jr
       ·clear x0 x1 x2 x3
        exact Js
      ·by_cases hp3:p'.p=2
       ·rw [hp3] at y3;clear hp3
        exact Jr
       ·exact Js
theorem Eh (A:OA) (m c:Nat) (n:Int) (rs:List Pa) (w:World) (h:Rd w w.heap.size 4 A m (aX rs)) (hm:m<=1800000000000):
  Calls prog 204 #[.agg #[iI n,.slice A m c]] w fun e w'=>(∃A' c',e=.returned (.agg #[iI n,.slice A' m c'])/\w'.ownsRow w.heap.size 251 4 (.slice A' m c') m (aX rs))/\Ext w w':=by
 have jN:Hid (Rd ((w.alloc (cO #[iI n,.slice A m c] 207)).alloc (cO jC 207)) ((w.alloc (cO #[iI n,.slice A m c] 207)).alloc (cO jC 207)).heap.size 4 A m (aX rs)):=h.ext (((xZ w).alloc _).alloc _);have eK:Hid (Ext w ((w.alloc (cO #[iI n,.slice A m c] 207)).alloc (cO jC 207))):=((xZ w).alloc _).alloc _;have bW:Hid (au ((w.alloc (cO #[iI n,.slice A m c] 207)).alloc (cO jC 207)) w.heap.size 207 #[iI n,.slice A m c]):=(au.new w _ _).alloc _;have jI:Hid (au ((w.alloc (cO #[iI n,.slice A m c] 207)).alloc (cO jC 207)) (w.heap.size+1) 207 jC):=au.newAt ag;have OM:w.heap.size+1<((w.alloc (cO #[iI n,.slice A m c] 207)).alloc (cO jC 207)).heap.size:=ag
 clear h;go_enter func204,ntmps204;go_upto_region 1 with fail;generalize ((w.alloc (cO #[iI n,.slice A m c] 207)).alloc (cO jC 207))=W2 at*
 obtain ⟨⟨a0,a1⟩,-⟩:=bu bW.u;obtain ⟨⟨b0,b1⟩,z0,z1⟩:=bu jI.u;have a1':(W2.alloc (cO #[] 251)).cell? (aA w.z 1)=some (.slice A m c):=(bW.u.alloc _).cell 1;have a0':(W2.alloc (cO #[] 251)).cell? (aA w.z 0)=some (iI n):=(bW.u.alloc _).cell 0;go_wp2
 go_region_law (first
  |(refine GK (w0:=W2) ah _ _ ah _ 0 [] ah (aj (aN W2 _ 251 4 (xZ W2)) (xZ _).drew) ((xZ W2).alloc _).drew A m c rs ah (jN.u.ext ((xZ W2).alloc _).drew) aa ?_;intro v5 w5 kg cI zK NZ;obtain ⟨A5,c5,rfl,DX⟩:=ak kg;have jL:=hY kg;have jP:=hY cI;clear kg zK NZ DX;have i0:w5.cell? (aA w.z 0)=some (iI n):=(bW.u.ext jP.u).cell 0;have k0:w5.cell? (aA (w.z+1) 0)=some (iI 0):=(jI.u.ext jP.u).cell 0;have k1:w5.cell? (aA (w.z+1) 1)=some (nS):=(jI.u.ext jP.u).cell 1;have j0:w5.frozen? (aA (w.z+1) 0)=false:=(jI.u.ext jP.u).frozen 0;have j1:w5.frozen? (aA (w.z+1) 1)=false:=(jI.u.ext jP.u).frozen 1))
 all_goals
  clear i0 k0 k1 j0 j1;have mn:Hid ((eh w5 (w.heap.size+1) (iI n) (.slice A5 m c5)).ownsRow w.heap.size 251 4 (.slice A5 m c5) m (aX rs)):=by
   have h1:=bo (bo jL.u (p:=(aA (w.heap.size+1) 0)) OM (iI n)) (p:=(aA (w.heap.size+1) 1)) OM (.slice A5 m c5);rw [lM,lN] at h1
   exact aC h1 aa
  have dL:Hid (Ext w (eh w5 (w.heap.size+1) (iI n) (.slice A5 m c5))):=dK (eK.u.trans jP.u) aa _ _;have dP:Hid (au (eh w5 (w.heap.size+1) (iI n) (.slice A5 m c5)) (w.heap.size+1) 207 #[iI n,.slice A5 m c5]):=(jI.u.ext jP.u).eh _ _;go_wp2;refine bJ (v:=.agg #[iI n,.slice A5 m c5]) ?_ rfl ?_
  rotate_left
  ·exact ⟨⟨A5,c5,rfl,mn.u⟩,dL.u⟩
  ·exact apj rfl dP.u _ af rfl
theorem ahH {n:Int} {rs:List Pa} (h:oO n rs=true):1<=n/\n<=4/\(rs.length:Int)=2*n:=by
 refine ⟨?_,?_,?_⟩
 ·by_cases h1:n<1
  ·rw [Ux (Or.inl h1)] at h;cases h
  ·omega
 ·by_cases h1:4<n
  ·rw [Ux (Or.inr h1)] at h;cases h
  ·omega
 ·by_cases h1:((rs.length:Int)==2*n)=false
  ·rw [acp h1] at h;cases h
  ·simpa using h1
def GsB (w0:World) (bE:Nat) (e:Ending) (w:World):Prop:=∃L len cap gs b,e=.returned (.tuple #[.slice L len cap,.bool b])/\w.ownsRow w0.heap.size 39 4 (.slice L len cap) len (aq gs)/\len<=bE
theorem Cg (A:OA) (c:Nat) (n:Int) (rs:List Pa) (w:World) (h:Rd w w.heap.size 4 A rs.length (aX rs)) (hl:rs.length<=1800000000000) (BP:rs.length<=c):
  Calls prog 190 #[.agg #[iI n,.slice A rs.length c]] w fun e w'=>GsB w 100 e w'/\Ext w w':=by
 go_enter func190,ntmps190;go_wp2_with fail;refine (dp A c n rs _ (h.ext aw) aa BP).mono ?_;rintro e w1 ⟨rfl,aK⟩;have jI:Hid (au w1 w.heap.size 207 #[iI n,.slice A rs.length c]):=(au.new w _ _).ext aK;have cH:Hid (Ext w w1):=Ext.trans aw aK;clear aK
 cases hv:oO n rs
 ·have ho:=aN w1 w1 39 4 (xZ _);have HE:Hid ((w1.alloc (cO #[] 39)).ownsRow w.heap.size 39 4 (.slice (some ⟨w1.heap.size,0,none⟩) 0 0) 0 (aq [])):=aC ho cH.u.size;clear ho;go_wp2;go_ret2
  exact ⟨⟨_,_,_,_,_,rfl,HE.u,aa⟩,cH.u.alloc _⟩
 obtain ⟨Dk,hv4,hvl⟩:=ahH hv;clear hv;obtain ⟨k,rfl⟩:=lD (aa:0<=n);obtain ⟨m,hm⟩:=ey (rs.length);have mC:=hY (h.ext cH.u);clear h;rw [<-hm] at hvl hl BP jI mC |-;have HN:Hid (1<=k/\k<=4/\m=2*k):=⟨aa,aa,aa⟩;have HM:=hY hm;clear hm hvl BP Dk hv4 hl;obtain ⟨⟨b0,b1⟩,-⟩:=bu jI.u;go_wp2_with fail;refine (Eh A m c k rs _ mC.u (oM HN.u)).mono ?_;rintro e w2 ⟨⟨A2,c2,rfl,fg⟩,bz⟩;clear b0 b1;have HWX:Hid (Cf w2 (w2.alloc (cO #[iI k,.slice A2 m c2,nS] 259)) w2.heap.size k m (24*0)):=by
  refine ⟨A2,c2,rs,none,0,0,[],⟨au.new _ _ _,(Rd.own fg).ext ((xZ _).alloc _),⟨ag,.inl ⟨rfl,rfl⟩⟩,(PB.own fg).ext ((xZ _).alloc _),⟨HM.u.symm,WH fg,oM HN.u⟩,(xZ _).alloc _,lI _⟩,lJ _⟩
 have dv:Hid (au w2 w.heap.size 207 #[iI k,.slice A m c]):=jI.u.ext bz;have eK:Hid (Ext w w2):=cH.u.trans bz;clear fg bz jI cH;have b0:=dv.u.ck 0;have b1:=dv.u.ck 1;go_upto_region 4 with fail;clear b0 b1;generalize w2.alloc (cO #[iI k,.slice A2 m c2,nS] 259)=w3 at*
 generalize w2.heap.size=q at*
 go_wp2
 go_loopw [5] (fun iv wr=>∃i:Nat,iv=iI i/\i<=k/\Hid (Cf w2 wr q k m (24*i))) (fun iv _=>k - (intOf iv).toNat)
 case atStart=>exact ⟨0,rfl,lJ _,HWX⟩
 case round=>
  obtain ⟨i,rfl,KY,HW⟩:=hrel;clear HWX;have b0:=(dv.u.ext HW.u.x).ck 0
  by_cases ba:i<k
  ·have bZ:=hY ba;have et:=wA i (oM HN.u);have iM:=wB i (oM HN.u);go_wp2_with fail;refine (Pd w2 _ q k m i _ HW.u ⟨HN.u.1,HN.u.2.1⟩ HN.u.2.2 ba (oM HN.u)).mono ?_;rintro e w5 ⟨rfl,hw5⟩;clear b0;go_wp2_with fail;refine (Lw w2 _ q k m i _ hw5 ⟨HN.u.1,HN.u.2.1⟩ HN.u.2.2 ba (oM HN.u)).mono ?_;rintro e w6 ⟨rfl,hw6⟩;have HW6:Hid (Cf w2 w6 q k m (24*(i+1))):=hw6.more aa;clear hw5 hw6;go_wp2;go_roundw
   case rel=>exact ⟨i+1,by first|rfl|rw [et]|rw [iM],oM bZ.u,HW6⟩
   case measure=>simp [intOf,iM];have:=bZ.u;omega
  ·obtain ⟨A5,c5,rs5,L,len,cap,gs,hW,hlen⟩:=HW.u;have Qj:=hY hW;clear hW;have p2':(wr.alloc (cO #[] 39)).cell? (aA q 2)=some (.slice L len cap):=(Qj.u.b.alloc _).cell 2;have HO:Hid (Rd wr wr.heap.size 4 L len (aq gs)):=Rd.own Qj.u.o;have Ei:len<=100:=oM HN.u
   go_wp2_with (at_builtin;refine dm (w0:=w2) rfl _ _ rfl _ 0 [] rfl (aN w2 wr 39 4 Qj.u.x) (Qj.u.x.alloc _) L len cap gs rfl (HO.u.ext ((xZ _).alloc _)) aa ?_;intro v9 w9 g1 g2 g3 g4)
   obtain ⟨A9,c9,rfl,Cb⟩:=ak g1;rw [lM,lN] at g1;rw [lM];have HR9:=hY (aC g1 eK.u.size);have fP:=hY (eK.u.trans g2);clear g1 g2 g3 g4 Cb;go_wp2;go_ret2
   exact ⟨⟨_,_,_,_,_,rfl,HR9.u,aa⟩,fP.u⟩
theorem vr (A:OA) (c:Nat) (n:Int) (rs:List Pa) (w:World) (h:Rd w w.heap.size 4 A rs.length (aX rs)) (hl:rs.length<=1800000000000) (BP:rs.length<=c):
  Calls prog 173 #[.agg #[iI n,.slice A rs.length c]] w fun e w'=>GsB w 100 e w'/\Ext w w':=by
 go_enter func173,ntmps173;go_wp2_with fail;refine (Cg A c n rs _ (h.ext aw) hl BP).mono ?_;rintro e w1 ⟨⟨L,len,cap,gs,b,rfl,eu,pR⟩,aK⟩;have cH:Hid (Ext w w1):=Ext.trans aw aK;clear aK h;go_wp2_with fail;refine (wj L len cap gs _ (Rd.own eu) aa).mono ?_;rintro e w2 ⟨v,rfl,ho,bz⟩;obtain ⟨L2,c2,rfl,jk⟩:=ak ho;have vk:Hid (w2.ownsRow w.heap.size 39 4 (.slice L2 len c2) len (aq (iF gs))):=aC ho cH.u.size;clear ho jk eu;go_wp2;go_ret2
 exact ⟨⟨_,_,_,_,_,rfl,vk.u,pR⟩,cH.u.trans bz⟩

def alx (w:World) (t:Option (List Gt)) (e:Ending) (w':World):Prop:=match t with
 |none=>∃v,e=.returned (.tuple #[v,.bool false])
 |some out=>∃v,e=.returned (.tuple #[v,.bool true])/\w'.ownsRow w.heap.size 39 4 v out.length (aq out)
theorem tU {g h:Gt} (h1:(decide (0<ar g.k) && (FY h (xR g)||alike g h))=false) (h2:bH g.k=0\/bH h.k=0\/(g.a==h.a)=false):gh g h=none:=by
 unfold gh;rw [aM (by rw [h1];simp),aM];rcases h2 with e|e|e<;>rw [e]<;>simp
theorem MJ {g h:Gt} (h1:(decide (0<ar g.k) && (FY h (xR g)||alike g h))=false) (h2:0<bH g.k) (h3:0<bH h.k) (h4:(g.a==h.a)=true):gh g h=if (cG ((bH g.k+bH h.k) % 8) g.a).length<2 then some (cG ((bH g.k+bH h.k) % 8) g.a) else none:=by
 unfold gh;rw [aM (by rw [h1];simp),aY];rw [h4];simp [h2,h3]
theorem aly {k:Int} (h:ar k<=0):bH k=0:=by
 unfold bH;unfold ar at h;split at h
 ·omega
 ·rw [aM aa,aM aa,aM aa,aM aa,aM aa]
theorem tV {P:Prop} (h:P:=by
 go_wp2;go_ret2;rw [HV.u]
 exact ⟨⟨_,rfl⟩,(HX.u.trans UT.u).alloc _⟩):P:=h
theorem oF (g h:Gt) (w:World):Calls prog 194 #[g.val,h.val] w fun e w'=>alx w (gh g h) e w'/\Ext w w':=by
 have HX:Hid (Ext w ((w.alloc (cO (gA g) 39)).alloc (cO (gA h) 39))):=fT
 have dv:Hid (au ((w.alloc (cO (gA g) 39)).alloc (cO (gA h) 39)) w.heap.size 39 (gA g)/\au ((w.alloc (cO (gA g) 39)).alloc (cO (gA h) 39)) (w.heap.size+1) 39 (gA h)):=⟨(au.new w _ _).alloc _,au.newAt ag⟩;go_enter func194,ntmps194;go_upto_region 1 with fail;generalize ((w.alloc (cO (gA g) 39)).alloc (cO (gA h) 39))=W at*
 have HK:Hid (∀w',Ext W w'->(w'.cell? (aA w.z 0)=some (iI g.k)/\w'.cell? (aA w.z 1)=some (iI g.a)/\w'.cell? (aA w.z 2)=some (iI g.b)/\w'.cell? (aA w.z 3)=some (iI g.c))/\(w'.cell? (aA (w.z+1) 0)=some (iI h.k)/\w'.cell? (aA (w.z+1) 1)=some (iI h.a)/\w'.cell? (aA (w.z+1) 2)=some (iI h.b)/\w'.cell? (aA (w.z+1) 3)=some (iI h.c))):=fun w' hx=>⟨(aB (dv.u.1.ext hx)).1,(aB (dv.u.2.ext hx)).1⟩
 obtain ⟨⟨g0,g1,g2,g3⟩,⟨h0,h1,h2,h3⟩⟩:=HK.u W (xZ W);obtain ⟨a,ha⟩:=ex (ar g.k);have HA:=hY ha;obtain ⟨r,hr⟩:=ex (bH g.k);obtain ⟨s,hs⟩:=ex (bH h.k);have hrb:0<=r/\r<=7:=by rw [<-hr];exact BM _
 have ZN:0<=s/\s<=7:=by rw [<-hs];exact BM _
 by_cases Oo:0<a
 ·have hd:decide (a>0)=true:=sU Oo
  have KR:decide (0<a)=true:=sU Oo
  cases e1:FY h (xR g)
  ·have HQ:=(show ∀w,(Op.equalIn 10000 39 h.val (xR g).val).run prog w=.ok false w from fun w=>by rw [LY,e1]);have HE:=VW
   cases e2:alike g h
   ·skip;refine dt (S:=fun w'=>(w'.cell? (aA w.z 0)=some (iI g.k)/\w'.cell? (aA w.z 1)=some (iI g.a)/\w'.cell? (aA w.z 2)=some (iI g.b)/\w'.cell? (aA w.z 3)=some (iI g.c))/\(w'.cell? (aA (w.z+1) 0)=some (iI h.k)/\w'.cell? (aA (w.z+1) 1)=some (iI h.a)/\w'.cell? (aA (w.z+1) 2)=some (iI h.b)/\w'.cell? (aA (w.z+1) 3)=some (iI h.c))) af (HK.u _ (xZ W).drew) (fun aEQ=>?_);clear g0 g1 g2 g3 h0 h1 h2 h3;refine tq 0 ?_;refine tq 1 ?_
    (refine jy (rs:=[2]) af ag ?_;refine iU rfl (fun K hK=>?_) jx;go_simp)
    refine (bc g.k _).mono ?_;rintro e wA ⟨rfl,rfl⟩;refine ov hK (HK.u _ (xZ W).drew) fun aEQ=>?_
    rw [HA.u];refine tq 3 ?_;refine tq 4 ?_;refine tq 5 ?_;refine tq 6 ?_
    (refine jy (rs:=[7]) af ag ?_;refine iU rfl (fun K hK=>?_) jx;go_simp)
    refine (fK g _).mono ?_;rintro e w3 ⟨rfl,bO⟩;have fD:=hY (Ext.trans (xZ W).drew bO);clear bO;refine ov hK (HK.u _ fD.u) fun aEQ=>?_
    refine tq 8 ?_;refine tq 9 ?_;refine tq 10 ?_;refine tq 11 ?_
    (refine jy (rs:=[12]) af ag ?_;refine iU rfl (fun K hK=>?_) jx;go_simp)
    refine (Cd g h _).mono ?_;rintro e w4 ⟨rfl,fy⟩;have qC:=hY (fD.u.trans fy);clear fy;refine ov hK (HK.u _ qC.u) fun aEQ=>?_
    rw [e2];refine tq 13 ?_;refine tq 14 ?_;refine dn ?_;have UT:=hY qC.u;have H1:Hid ((decide (0<ar g.k) && (FY h (xR g)||alike g h))=false):=by unfold Hid;rw [e1,e2];simp
    clear e1 e2;obtain ⟨⟨g0,g1,g2,g3⟩,⟨h0,h1,h2,h3⟩⟩:=HK.u w4 UT.u;go_wp2_with fail;refine (bI g.k _).mono ?_;rintro e wq ⟨rfl,rfl⟩;rw [hr]
    by_cases r0:r=0
    ·subst r0;have HV:=hY (tU H1.u (Or.inl hr))
     exact tV
    have hrp:0<r:=aa
    have hrg:decide (r>0)=true:=sU hrp
    have aBE:decide (0<r)=true:=sU hrp
    clear r0;go_wp2_with fail;refine (bI h.k _).mono ?_;rintro e wq ⟨rfl,rfl⟩;rw [hs]
    by_cases s0:s=0
    ·subst s0;have HV:=hY (tU H1.u (Or.inr (Or.inl hs)))
     exact tV
    have Yu:0<s:=aa
    have hsg:decide (s>0)=true:=sU Yu
    have aBF:decide (0<s)=true:=sU Yu
    clear s0
    cases hab:(g.a==h.a)
    ·skip;have HV:=hY (tU H1.u (Or.inr (Or.inr hab)))
     exact tV
    go_upto_region 4 with fail;have hw:IntKind.i64.wrap (r+s)=r+s:=lH _ aa;refine dt (S:=fun w'=>(w'.cell? (aA w.z 0)=some (iI g.k)/\w'.cell? (aA w.z 1)=some (iI g.a)/\w'.cell? (aA w.z 2)=some (iI g.b)/\w'.cell? (aA w.z 3)=some (iI g.c))/\(w'.cell? (aA (w.z+1) 0)=some (iI h.k)/\w'.cell? (aA (w.z+1) 1)=some (iI h.a)/\w'.cell? (aA (w.z+1) 2)=some (iI h.b)/\w'.cell? (aA (w.z+1) 3)=some (iI h.c))) af (HK.u _ (UT.u.trans (xZ w4).drew)) (fun aEQ=>?_);clear g0 g1 g2 g3 h0 h1 h2 h3;refine tq 0 ?_;refine tq 1 ?_;refine tq 3 ?_;refine tq 4 ?_;refine tq 8 ?_;refine tq 9 ?_
    (refine jy (rs:=[2]) af ag ?_;refine iU rfl (fun K hK=>?_) jx;go_simp)
    refine (bI g.k _).mono ?_;rintro e wq ⟨rfl,rfl⟩;refine ov hK (HK.u _ (UT.u.trans (xZ _).drew)) fun aEQ=>?_
    (refine jy (rs:=[5]) af ag ?_;refine iU rfl (fun K hK=>?_) jx;go_simp)
    refine (bI h.k _).mono ?_;rintro e wq ⟨rfl,rfl⟩;refine ov hK (HK.u _ (UT.u.trans (xZ _).drew)) fun aEQ=>?_
    (try rw [hr])
    (try rw [hs])
    refine tq 6 ?_
    (try rw [hw])
    (refine jy (rs:=[7]) af ag ?_;refine iU rfl (fun K hK=>?_) jx;go_simp)
    refine (eZ (r+s) _ aa).mono ?_;rintro e wq ⟨rfl,rfl⟩;refine ov hK (HK.u _ (UT.u.trans (xZ _).drew)) fun aEQ=>?_
    (refine jy (rs:=[10]) af ag ?_;refine iU rfl (fun K hK=>?_) jx;go_simp)
    refine (gY ((r+s) % 8) g.a _).mono ?_;rintro e w9 ⟨v9,rfl,kM,nj⟩;have fP:Hid (Ext W w9):=UT.u.trans (Ext.trans (xZ _).drew nj);have iD:=hY (aC kM (HX.u.trans UT.u).size);clear nj kM;refine ov hK (HK.u _ fP.u) fun aEQ=>?_
    refine tq 11 ?_;refine dn ?_;obtain ⟨A9,c9,rfl,-⟩:=ak iD.u;have Ei:=BN ((r+s) % 8) g.a;obtain ⟨out,alz⟩:=ex (cG ((r+s) % 8) g.a);rw [alz] at iD Ei |-;have apM:=hY alz;clear alz
    by_cases hl:out.length<2
    ·have HV:Hid (gh g h=some out):=by
      unfold Hid;rw [MJ H1.u (by rw [hr];exact hrp) (by rw [hs];exact Yu) hab,hr,hs,apM.u,aY hl]
     go_wp2;go_ret2;rw [HV.u]
     exact ⟨⟨_,rfl,iD.u⟩,HX.u.trans fP.u⟩
    ·have HV:Hid (gh g h=none):=by
      unfold Hid;rw [MJ H1.u (by rw [hr];exact hrp) (by rw [hs];exact Yu) hab,hr,hs,apM.u,aM hl]
     have qw:¬((out.length:Int)<2):=aa
     go_wp2;go_ret2;rw [HV.u]
     exact ⟨⟨_,rfl⟩,(HX.u.trans fP.u).alloc _⟩
   ·skip;refine dt (S:=fun w'=>(w'.cell? (aA w.z 0)=some (iI g.k)/\w'.cell? (aA w.z 1)=some (iI g.a)/\w'.cell? (aA w.z 2)=some (iI g.b)/\w'.cell? (aA w.z 3)=some (iI g.c))/\(w'.cell? (aA (w.z+1) 0)=some (iI h.k)/\w'.cell? (aA (w.z+1) 1)=some (iI h.a)/\w'.cell? (aA (w.z+1) 2)=some (iI h.b)/\w'.cell? (aA (w.z+1) 3)=some (iI h.c))) af (HK.u _ (xZ W).drew) (fun aEQ=>?_);clear g0 g1 g2 g3 h0 h1 h2 h3;refine tq 0 ?_;refine tq 1 ?_
    (refine jy (rs:=[2]) af ag ?_;refine iU rfl (fun K hK=>?_) jx;go_simp)
    refine (bc g.k _).mono ?_;rintro e wA ⟨rfl,rfl⟩;refine ov hK (HK.u _ (xZ W).drew) fun aEQ=>?_
    rw [HA.u];refine tq 3 ?_;refine tq 4 ?_;refine tq 5 ?_;refine tq 6 ?_
    (refine jy (rs:=[7]) af ag ?_;refine iU rfl (fun K hK=>?_) jx;go_simp)
    refine (fK g _).mono ?_;rintro e w3 ⟨rfl,bO⟩;have fD:=hY (Ext.trans (xZ W).drew bO);clear bO;refine ov hK (HK.u _ fD.u) fun aEQ=>?_
    refine tq 8 ?_;refine tq 9 ?_;refine tq 10 ?_;refine tq 11 ?_
    (refine jy (rs:=[12]) af ag ?_;refine iU rfl (fun K hK=>?_) jx;go_simp)
    refine (Cd g h _).mono ?_;rintro e w4 ⟨rfl,fy⟩;have qC:=hY (fD.u.trans fy);clear fy;refine ov hK (HK.u _ qC.u) fun aEQ=>?_
    rw [e2];refine tq 13 ?_;refine tq 14 ?_;refine dn ?_;have HV:Hid (gh g h=some []):=by unfold Hid gh;rw [aY (by rw [ha,KR,e1,e2];rfl)]
    have HO:Hid ((w4.alloc (cO #[] 39)).ownsRow w.heap.size 39 4 (.slice (some ⟨w4.heap.size,0,none⟩) 0 0) 0 (aq [])):=aN w w4 _ 4 (HX.u.trans qC.u);go_wp2;go_ret2;rw [HV.u]
    exact ⟨⟨_,rfl,HO.u⟩,(HX.u.trans qC.u).alloc _⟩
  ·have HQ:=(show ∀w,(Op.equalIn 10000 39 h.val (xR g).val).run prog w=.ok true w from fun w=>by rw [LY,e1]);have HE:=VW;refine dt (S:=fun w'=>(w'.cell? (aA w.z 0)=some (iI g.k)/\w'.cell? (aA w.z 1)=some (iI g.a)/\w'.cell? (aA w.z 2)=some (iI g.b)/\w'.cell? (aA w.z 3)=some (iI g.c))/\(w'.cell? (aA (w.z+1) 0)=some (iI h.k)/\w'.cell? (aA (w.z+1) 1)=some (iI h.a)/\w'.cell? (aA (w.z+1) 2)=some (iI h.b)/\w'.cell? (aA (w.z+1) 3)=some (iI h.c))) af (HK.u _ (xZ W).drew) (fun aEQ=>?_);clear g0 g1 g2 g3 h0 h1 h2 h3;refine tq 0 ?_;refine tq 1 ?_
   (refine jy (rs:=[2]) af ag ?_;refine iU rfl (fun K hK=>?_) jx;go_simp)
   refine (bc g.k _).mono ?_;rintro e wA ⟨rfl,rfl⟩;refine ov hK (HK.u _ (xZ W).drew) fun aEQ=>?_
   rw [HA.u];refine tq 3 ?_;refine tq 4 ?_;refine tq 5 ?_;refine tq 6 ?_
   (refine jy (rs:=[7]) af ag ?_;refine iU rfl (fun K hK=>?_) jx;go_simp)
   refine (fK g _).mono ?_;rintro e w3 ⟨rfl,bO⟩;have fD:=hY (Ext.trans (xZ W).drew bO);clear bO;refine ov hK (HK.u _ fD.u) fun aEQ=>?_
   refine tq 8 ?_;refine tq 9 ?_;refine sk 10 ?_;refine sk 11 ?_;refine sk 12 ?_;refine tq 13 ?_;refine tq 14 ?_;refine dn ?_;have HV:Hid (gh g h=some []):=by unfold Hid gh;rw [aY (by rw [ha,KR,e1];rfl)]
   have HO:Hid ((w3.alloc (cO #[] 39)).ownsRow w.heap.size 39 4 (.slice (some ⟨w3.heap.size,0,none⟩) 0 0) 0 (aq [])):=aN w w3 _ 4 (HX.u.trans fD.u);go_wp2;go_ret2;rw [HV.u]
   exact ⟨⟨_,rfl,HO.u⟩,(HX.u.trans fD.u).alloc _⟩
 ·have hd:decide (a>0)=false:=sU Oo
  have KR:decide (0<a)=false:=sU Oo
  refine dt (S:=fun w'=>(w'.cell? (aA w.z 0)=some (iI g.k)/\w'.cell? (aA w.z 1)=some (iI g.a)/\w'.cell? (aA w.z 2)=some (iI g.b)/\w'.cell? (aA w.z 3)=some (iI g.c))/\(w'.cell? (aA (w.z+1) 0)=some (iI h.k)/\w'.cell? (aA (w.z+1) 1)=some (iI h.a)/\w'.cell? (aA (w.z+1) 2)=some (iI h.b)/\w'.cell? (aA (w.z+1) 3)=some (iI h.c))) af (HK.u _ (xZ W).drew) (fun aEQ=>?_);clear g0 g1 g2 g3 h0 h1 h2 h3;refine tq 0 ?_;refine tq 1 ?_
  (refine jy (rs:=[2]) af ag ?_;refine iU rfl (fun K hK=>?_) jx;go_simp)
  refine (bc g.k _).mono ?_;rintro e wA ⟨rfl,rfl⟩;refine ov hK (HK.u _ (xZ W).drew) fun aEQ=>?_
  rw [HA.u];refine tq 3 ?_;refine tq 4 ?_;refine sk 5 ?_;refine sk 6 ?_;refine sk 7 ?_;refine sk 8 ?_;refine sk 9 ?_;refine sk 10 ?_;refine sk 11 ?_;refine sk 12 ?_;refine sk 13 ?_;refine tq 14 ?_;refine dn ?_;have UT:=hY ((xZ W).drew);have H1:Hid ((decide (0<ar g.k) && (FY h (xR g)||alike g h))=false):=by unfold Hid;rw [ha,KR];rfl
  have MC:r=0:=by rw [<-hr];exact aly aa
  subst MC;obtain ⟨⟨g0,g1,g2,g3⟩,⟨h0,h1,h2,h3⟩⟩:=HK.u W.drew UT.u;go_wp2_with fail;refine (bI g.k _).mono ?_;rintro e wq ⟨rfl,rfl⟩;rw [hr];have HV:=hY (tU H1.u (Or.inl hr))
  exact tV
end Go.Proofs.YtodhjgngkkcjgaaGreatDoor
