import Derived.Test.YtiajdbllccmokaaGreatDoorXb
import Derived.Test.YtiajdbllccmokaaGreatDoorXc
import Derived.Test.YtiajdbllccmokaaGreatDoorXd
import Derived.Test.YtiajdbllccmokaaGreatDoorXe
import Derived.DeepKeys4
namespace Go.Proofs.YtiajdbllccmokaaGreatDoor
open Go.ChangeShapes Go.WideShapes Go.ChangeAt Go.RowKit Go.Deep Go.Proofs.Tryz
set_option linter.unusedVariables false
set_option linter.unusedSimpArgs false
set_option maxRecDepth 100000
set_option maxHeartbeats 16000000
def dt (g:Gt):Nat:=if (g.k==7)=true then 1000 else if (g.k==8)=true then 1000 else if 1<ar g.k then 10 else 1
def aR (gs:List Gt):Nat:=(gs.map dt).sum
theorem NS {gs:List Gt} {k:Nat} {g:Gt} (h:gs[k]?=some g):aR (gs.take (k+1))=aR (gs.take k)+dt g:=by
 unfold aR;rw [aL h];simp
theorem KY (g:Gt):dt g<=1000:=vr
theorem KZ (gs:List Gt):aR gs<=1000*gs.length:=by
 unfold aR
 induction gs with
 |nil=>simp
 |cons g gs ih=>have:=KY g;simp;omega
theorem NT (gs:List Gt) (k:Nat):aR (gs.take k)<=1000*k:=by
 have h1:=KZ (gs.take k);have h2:(gs.take k).length<=k:=qU _ _;omega
theorem aah {g:Gt} (h:(g.k==7)=true):dt g=1000:=aX h
theorem aai {g:Gt} (h:(g.k==7)=false) (h2:(g.k==8)=true):dt g=1000:=by unfold dt;rw [aK aW,aX h2]
theorem Qc {g:Gt} (h:(g.k==7)=false) (h2:(g.k==8)=false) (h3:1<ar g.k):dt g=10:=by unfold dt;rw [aK aW,aK fp,aX h3]
theorem aaj {g:Gt} (h:(g.k==7)=false) (h2:(g.k==8)=false) (h3:¬1<ar g.k):dt g=1:=by unfold dt;rw [aK aW,aK fp,aK h3]
theorem qi {P:Prop} (h:P:=by
 go_wp2;go_round
 case rel=>exact ⟨k+1,aa,az,by rw [HS.u,HC.u];go_num⟩
 case measure=>simp [intOf];omega):P:=h
theorem gI (A:OA) (n c:Nat) (gs:List Gt) (w:World) (h:Rd w w.heap.size 4 A n (ak gs)) (hn:n<=2000000000000):
  Calls prog 79 #[.slice A n c] w fun e w'=>e=.returned (iI (aR gs:Nat))/\w=w':=by
 have hlen:=hY (h.len Gt.aE aa);go_enter func79,ntmps79;go_wp2
 go_loop [3,4] (fun v i=>∃k:Nat,k<=n/\i=iI k/\v=iI (aR (gs.take k):Nat)) (fun _ i=>n - (intOf i).toNat)
 case atStart=>exact ⟨0,lJ _,rfl,rfl⟩
 case round=>
  obtain ⟨k,hk,rfl,rfl⟩:=hrel;have hle:=NT gs k
  by_cases bh:k<n
  ·obtain ⟨b,o,g,rfl,hb,hg,h0,h1,h2,h3⟩:=bE h bh;have HS:=hY (NS hg);clear hg
   cases h7:(g.k==7)
   ·cases h8:(g.k==8)
    ·by_cases ha:1<ar g.k
     ·have HC:=hY (Qc h7 h8 ha);go_wp2_with fail;refine (aY _ _).mono ?_;rintro e w' ⟨rfl,rfl⟩
      exact qi
     ·have HC:=hY (aaj h7 h8 ha);go_wp2_with fail;refine (aY _ _).mono ?_;rintro e w' ⟨rfl,rfl⟩
      exact qi
    ·have HC:=hY (aai h7 h8)
     exact qi
   ·have HC:=hY (aah h7)
    exact qi
  ·rw [lE bN];go_wp2;go_ret
   exact ⟨rfl,rfl⟩
open Go.Maps
theorem Qd:(95:TypeId)<prog.types.size:=xD af
theorem Ve:(match prog.underlying 95 with|some (.array _ _)|some (.struct _)=>true|_=>false)=true:=af
theorem RH:Keyed prog 95:=Keyed.of_law (deep_law_laid laidOut (m:=2) aa Qd af Ve)
theorem La:prog.keyType 95=true:=af
theorem GI:prog.cellsOf 95=2:=af
def Vf (e:Ed):Lit:=.string (keyBytes [.int .i64 e.a,.int .i64 e.b])
theorem Cy (e:Ed) (h:e.ok):keyOf prog 95 e.val=some (Vf e):=by
 obtain ⟨h1,h2⟩:=h;have w1:=Gz h1;have w2:=Gz h2;have hf:e.val.formed prog 95=true:=by
  simp [Value.formed,underlying95,GI]
 have hD:∃D,prog.types.size+1=D+1+1:=⟨prog.types.size - 1,by have:0<prog.types.size:=Nat.lt_of_le_of_lt (lJ _) Qd;omega⟩;obtain ⟨D,hD⟩:=hD;simp only [keyOf,underlying95,La,hf,Bool.and_self,if_true,hD];simp [Program.keyLits,underlying95,Nk,GI,KF,w1,w2,Value.cells,Vf]
theorem aiJ {e f:Ed} (h:e.ok) (h':f.ok) (hk:Vf e=Vf f):e=f:=by
 have:=RH.inj (Cy e h) (by rw [hk];exact Cy f h');obtain ⟨a,b⟩:=e;obtain ⟨c,d⟩:=f;simp [Ed.val] at this;simp [this]
def Qe (w:World) (b n:Nat) (p:Ed->Bool):Prop:=
 ∃D:DataW Unit,w.ownsMap prog 95 (plainElem prog 4) b n D/\IsMap D/\∀x:Ed,x.ok->D.atKey (Vf x) (.lit (.bool false))=.lit (.bool (p x))
theorem Qe.made (w:World):Qe (w.alloc (.map #[] 0)) w.heap.size 0 (fun _=>false):=
 ⟨.map [],World.ownsMap_made _ _ _ _,isMap_empty,fun _ _=>rfl⟩
theorem Qe.lt {w:World} {b n:Nat} {p:Ed->Bool} (h:Qe w b n p):b<w.heap.size:=let ⟨_,h,_,_⟩:=h;h.lt
theorem RI:prog.stoodInHeld 95=false:=af
theorem aak:prog.eqGuardType prog.depth 95=false:=af
theorem GJ (x y:Ed) (w:World):(Op.equalIn 10000 95 x.val y.val).run prog w=.ok (Kn x y) w:=by
 have h1:=RI;unfold Kn
 by_cases e1:x.a=y.a<;>by_cases e2:x.b=y.b<;>(go_simp<;>simp [*])
def cM (xs:List Oq) (c:Int) (k:Nat):Nat:=k+((xs.drop k).takeWhile (fun o=>o.k==1 && o.cond==c)).length
theorem NU (xs:List Oq) (c:Int) (k:Nat) (h:xs.length<=k):cM xs c k=k:=by
 unfold cM;rw [List.drop_eq_nil_of_le h];rfl
theorem Lb {xs:List Oq} {c:Int} {k:Nat} {o:Oq} (h:xs[k]?=some o) (h1:(o.k==1)=true) (h2:(o.cond==c)=true):cM xs c k=cM xs c (k+1):=by
 obtain ⟨hk,rfl⟩:=gU.1 h;unfold cM;rw [xv hk,List.takeWhile_cons,h1,h2];simp;omega
theorem zZ {xs:List Oq} {c:Int} {k:Nat} {o:Oq} (h:xs[k]?=some o) (h1:(o.k==1 && o.cond==c)=false):cM xs c k=k:=by
 obtain ⟨hk,rfl⟩:=gU.1 h;unfold cM;rw [xv hk,List.takeWhile_cons,h1];simp
theorem zi (xs:List Oq) (c:Int) (k:Nat) (h:k<=xs.length):cM xs c k<=xs.length:=by
 unfold cM;have:=(List.takeWhile_sublist (l:=xs.drop k) (fun o=>o.k==1 && o.cond==c)).length_le;rw [lU] at this;omega
def Cz (xs:List Oq) (i:Int):Int:=
 if 0<=i/\i<xs.length then match xs[i.toNat]? with
  |some o=>if (o.k==1)=true then (cM xs o.cond (i.toNat+1):Nat) else i
  |none=>i
 else i
theorem NV {xs:List Oq} {i:Int} (h:¬(0<=i/\i<xs.length)):Cz xs i=i:=aK h
theorem CA {P:Prop} (h:P:=by
 have hi:=(gU.1 h).1;unfold Cz;rw [aX aa,uG,h]
 simp [hk]):P:=h
theorem RJ {xs:List Oq} {i:Nat} {o:Oq} (h:xs[i]?=some o) (hk:(o.k==1)=false):Cz xs i=i:=by
 exact CA
theorem CB {xs:List Oq} {i:Nat} {o:Oq} (h:xs[i]?=some o) (hk:(o.k==1)=true):Cz xs i=cM xs o.cond (i+1):=by
 exact CA
theorem vP {P:Prop} (h:P:=by
 go_wp2;go_quiet (fail);go_wp2;go_ret
 exact ⟨dZ (by rw [HE.u,HR.u,HS.u]),xx⟩):P:=h
theorem CC {P:Prop} (h:P:=by
 rintro e w' ⟨rfl,rfl⟩;go_wp2;go_ret
 exact ⟨dZ HE.u.symm,xZ _⟩):P:=h
theorem xQ (A:OA) (n c:Nat) (xs:List Oq) (i:Int) (w:World) (h:Rd w w.heap.size 8 A n (aI xs)) (hn:n<=200000000000) (hi:ob i):
  Calls prog 65 #[.slice A n c,iI i] w fun e w'=>e=.returned (iI (Cz xs i))/\Ext w w':=by
 obtain ⟨hi1,Zr⟩:=hi;have hlen:=hY (h.len Oq.aE aa)
 by_cases zh:0<=i/\i<n
 ·obtain ⟨NB,zh⟩:=zh;obtain ⟨j,rfl⟩:=lD NB;have hj:j<n:=aa
  obtain ⟨b,o,x,rfl,hb,hg,h0,h1,h2,h3,h4,h5,h6,h7⟩:=re h hj;have HG:=hY hg;clear hg h1 h2 h3 h4 h5 h6
  cases hk:(x.k==1)
  ·have hk':(x.k !=1)=true:=by simp [bne,hk]
   have HE:=hY (RJ HG.u hk);go_enter func65,ntmps65;go_wp2_with fail;refine (aF _ _ _ _ aa aa).mono ?_
   exact CC
  ·have hk':(x.k !=1)=false:=by simp [bne,hk]
   have HE:=hY (CB HG.u hk);go_enter func65,ntmps65;go_wp2_with fail;refine (aF _ _ _ _ aa aa).mono ?_;rintro e w' ⟨rfl,rfl⟩;go_wp2
   go_loopw [5] (fun t wr=>∃k:Nat,k<=n/\t=iI k/\Hid (cM xs x.cond (j+1)=cM xs x.cond k)/\∃q,wr=w.drewN q) (fun t _=>n - (intOf t).toNat)
   case atStart=>exact ⟨j+1,aa,az,hY rfl,0,rfl⟩
   case round=>
    obtain ⟨k,jT,rfl,HR,q,rfl⟩:=hrel
    by_cases bh:k<n
    ·obtain ⟨b',o',y,e',rb,Fu,r0,r1,r2,r3,r4,r5,r6,r7⟩:=re h bh;injection e' with e';injection e' with e1 e2;subst e1 e2;have Zs:=hY Fu;clear Fu r1 r2 r3 r4 r5 r6
     cases hy:(y.k==1)
     ·have HS:=hY (zZ (c:=x.cond) Zs.u (by rw [hy];rfl))
      exact vP
     ·cases hz:(y.cond==x.cond)
      ·have HS:=hY (zZ (c:=x.cond) Zs.u (by rw [hy,hz];rfl))
       exact vP
      ·have HS:=hY (Lb Zs.u hy hz);go_wp2;go_quiet (fail);go_wp2;go_roundw
       case rel=>exact ⟨k+1,aa,az,hY (HR.u.trans HS.u),_,rfl⟩
       case measure=>simp [intOf];omega
    ·have hd:decide ((k:Int)<n)=false:=aj
     have HS:=hY (NU xs x.cond k bN)
     exact vP
 ·have HE:=hY (NV (xs:=xs) (i:=i) (by rw [hlen.u];exact zh));go_enter func65,ntmps65;go_wp2_with fail;refine (bI _ _ _ _ aa).mono ?_
  exact CC
theorem ag7 {xs:List Oq} {c:Int} {j m:Nat} (h1:j<=m) (h2:m<cM xs c j):∃o,xs[m]?=some o/\(o.k==1)=true/\(o.cond==c)=true:=by
 unfold cM at h2;have h3:m - j<((xs.drop j).takeWhile (fun o=>o.k==1 && o.cond==c)).length:=aa
 have h4:=BU h3;have h5:=kc.1 List.all_takeWhile _ h4;have h6:((xs.drop j).takeWhile (fun o=>o.k==1 && o.cond==c))[m - j]?=xs[m]?:=by
  have e:=Um (p:=fun o:Oq=>o.k==1 && o.cond==c) (l:=xs.drop j);have e2:(xs.drop j)[m - j]?=xs[m]?:=by rw [xw];congr 1;omega
  rw [<-e2]
  conv=>rhs;rw [<-e]
  rw [sB h3]
 rw [lB h3] at h6;refine ⟨_,h6.symm,?_⟩;simpa using h5
theorem aeg {xs:List Oq} {c:Int} {j:Nat} (hj:j<=xs.length) (h:cM xs c j≠xs.length):∃o,xs[cM xs c j]?=some o/\(o.k==1 && o.cond==c)=false:=by
 have hle:=zi xs c j hj;have bh:cM xs c j<xs.length:=aa
 refine ⟨xs[cM xs c j],lB bh,?_⟩;have e:=Um (p:=fun o:Oq=>o.k==1 && o.cond==c) (l:=xs.drop j);have hl:((xs.drop j).takeWhile (fun o=>o.k==1 && o.cond==c)).length=cM xs c j - j:=by unfold cM;omega
 have tS:j<=cM xs c j:=by unfold cM;omega
 have hd:(xs.drop j).dropWhile (fun o=>o.k==1 && o.cond==c)≠[]:=by
  intro h0;rw [h0,qZ] at e;rw [e,lU] at hl;omega
 have hh:=List.head_dropWhile_not (fun o:Oq=>o.k==1 && o.cond==c) hd;have e3:some ((xs.drop j).dropWhile (fun o=>o.k==1 && o.cond==c)|>.head hd)=some xs[cM xs c j]:=by
  rw [<-List.head?_eq_some_head,<-lB bh];have e2:(xs.drop j)[cM xs c j - j]?=xs[cM xs c j]?:=by rw [xw];congr 1;omega
  rw [<-e2]
  conv=>rhs;rw [<-e]
  rw [yL (by rw [hl];omega),hl,yV,List.head?_eq_getElem?]
 injection e3 with e3;rw [e3] at hh;simpa using hh
theorem GK (xs:List Oq) (c:Int) (j:Nat):j<=cM xs c j:=by unfold cM;omega
structure Rt where
 n:Int
 kb:Int
 bits:Int
 ops:List Oq
def zj (w:World) (B:Nat) (v:Value) (x:Rt):Prop:=
 ∃(A1:OA) (c1:Nat),v=.agg #[iI x.n,iI x.kb,iI x.bits,.slice A1 x.ops.length c1]/\Rd w B 8 A1 x.ops.length (aI x.ops)
def Lc (w:World) (b0 b1:Nat) (v:Value) (x:Rt):Prop:=
 ∃(A1:OA) (c1:Nat),v=.agg #[iI x.n,iI x.kb,iI x.bits,.slice A1 x.ops.length c1]/\w.ownsRow b0 56 8 (.slice A1 x.ops.length c1) x.ops.length (aI x.ops)/\(∀g,(Value.slice A1 x.ops.length c1).ownBlock=some g->g<b1)
theorem zj.up {w w':World} {B:Nat} {v:Value} {x:Rt} (h:zj w B v x) (hx:Ext w w') (hB:B<=w.heap.size):zj w' B v x:=by
 obtain ⟨A1,c1,hv,h1⟩:=h
 exact ⟨A1,c1,hv,h1.up hx hB⟩
theorem zj.more {w:World} {B B':Nat} {v:Value} {x:Rt} (h:zj w B v x) (hB:B<=B'):zj w B' v x:=by
 obtain ⟨A1,c1,hv,h1⟩:=h
 exact ⟨A1,c1,hv,h1.more hB⟩
theorem zj.grown {w w':World} {B:Nat} {v:Value} {x:Rt} {row:Option Nat} (h:zj w B v x) (hg:w.grownBy w' row) (hB:B<=w.heap.size) (hr:∀g,row=some g->B<=g):zj w' B v x:=by
 obtain ⟨A1,c1,hv,h1⟩:=h
 exact ⟨A1,c1,hv,h1.grown hg hB hr⟩
theorem Lc.at_ {w:World} {b0 b1:Nat} {v:Value} {x:Rt} (h:Lc w b0 b1 v x):zj w w.heap.size v x:=by
 obtain ⟨A1,c1,hv,h1,l1⟩:=h
 exact ⟨A1,c1,hv,Rd.own h1⟩
theorem Lc.ext {w w':World} {b0 b1:Nat} {v:Value} {x:Rt} (h:Lc w b0 b1 v x) (hx:Ext w w'):Lc w' b0 b1 v x:=by
 obtain ⟨A1,c1,hv,h1,l1⟩:=h
 exact ⟨A1,c1,hv,aq h1 hx,l1⟩
def Rt.small (x:Rt):Prop:=x.ops.length<=1048576
def aiK (x y:Rt):Bool:=(x.n==y.n) && (x.kb==y.kb) && (x.bits==y.bits) && (zS Gm x.ops y.ops)
theorem ag8 (x:Rt):aiK x x=true:=by
 unfold aiK;simp [pC Gm KK]
def Rt.ok (x:Rt):Prop:=ob x.n/\ob x.kb/\ob x.bits/\x.ops.length<=maxLen/\(∀g∈x.ops,g.ok)
def ei (f:Gt->Bool) (gs:List Gt):Nat:=(gs.filter f).length
theorem tU (f:Gt->Bool) {gs:List Gt} {k:Nat} {g:Gt} (h:gs[k]?=some g):ei f (gs.take (k+1))=ei f (gs.take k)+(if f g=true then 1 else 0):=by
 unfold ei;rw [aL h,zR,lA]
 by_cases e:f g=true<;>simp [e]
theorem Bq (f:Gt->Bool) (gs:List Gt) (k:Nat):ei f (gs.take k)<=k:=by
 unfold ei
 exact lK (List.length_filter_le _ _) (qU _ _)
theorem dx (f:Gt->Bool) (gs:List Gt):ei f gs<=gs.length:=List.length_filter_le _ _
def ri (q:Int) (g:Gt):Bool:=g.k==q
def cS (g:Gt):Bool:=decide (2<=ar g.k)
def gH (gs:List Gt):Nat:=ei (ri 7) gs+ei (ri 8) gs
theorem qj {P:Prop} (h:P:=by
 go_wp2;go_roundw
 case rel=>exact ⟨k+1,aa,az,by rw [hs.u,hi.u];go_num,hx.alloc _⟩
 case measure=>simp [intOf];omega):P:=h
theorem CD {P:Prop} (h:P:=by
 rw [lE uJ];go_wp2;go_ret
 exact ⟨rfl,hx⟩):P:=h
theorem kX (N q:Int) (A:OA) (n c:Nat) (gs:List Gt) (w:World) (h:Rd w w.heap.size 4 A n (ak gs)) (hn:n<=2000000000000):
  Calls prog 55 #[.agg #[iI N,.slice A n c],iI q] w fun e w'=>e=.returned (iI (ei (ri q) gs))/\Ext w w':=by
 go_enter func55,ntmps55;go_wp2
 go_loopw [5,11] (fun v i wr=>∃k:Nat,k<=n/\i=iI k/\v=iI (ei (ri q) (gs.take k))/\Ext w wr) (fun _ i _=>n - (intOf i).toNat)
 case atStart=>exact ⟨0,lJ _,rfl,rfl,xx⟩
 case round=>
  obtain ⟨k,hk,rfl,rfl,hx⟩:=hrel;have hle:=Bq (ri q) gs k
  by_cases bh:k<n
  ·obtain ⟨b,o,g,rfl,hb,hg,h0,h1,h2,h3⟩:=bE (h.ext hx) bh;have hs:=hY (tU (ri q) hg);clear hg
   cases hq:(g.k==q)
   ·have hi:Hid (ri q g=false):=hq
    exact qj
   ·have hi:Hid (ri q g=true):=hq
    exact qj
  ·exact CD
theorem qk {P:Prop} (h:P:=by
 go_wp2;go_round
 case rel=>exact ⟨k+1,aa,az,by rw [hs.u,hi.u];go_num⟩
 case measure=>simp [intOf];omega):P:=h
theorem CE {P:Prop} (h:P:=by
 rw [lE uJ];go_wp2;go_ret
 exact ⟨rfl,xx⟩):P:=h
theorem kY (N q:Int) (A:OA) (n c:Nat) (gs:List Gt) (w:World) (h:Rd w w.heap.size 4 A n (ak gs)) (hn:n<=2000000000000):
  Calls prog 36 #[.agg #[iI N,.slice A n c],iI q] w fun e w'=>e=.returned (iI (ei (ri q) gs))/\Ext w w':=by
 go_enter func36,ntmps36;go_wp2
 go_loop [5,6] (fun v i=>∃k:Nat,k<=n/\i=iI k/\v=iI (ei (ri q) (gs.take k))) (fun _ i=>n - (intOf i).toNat)
 case atStart=>exact ⟨0,lJ _,rfl,rfl⟩
 case round=>
  obtain ⟨k,hk,rfl,rfl⟩:=hrel;have hle:=Bq (ri q) gs k
  by_cases bh:k<n
  ·obtain ⟨b,o,g,rfl,hb,hg,h0,h1,h2,h3⟩:=bE h bh;have hs:=hY (tU (ri q) hg);clear hg
   cases hq:(g.k==q)
   ·have hi:Hid (ri q g=false):=hq
    exact qk
   ·have hi:Hid (ri q g=true):=hq
    exact qk
  ·exact CE
theorem CF {P:Prop} (h:P:=by
 clear Ld;go_wp2;go_ret
 exact ⟨by first|rfl|(rw [aal.u];go_num),dC.trans ig⟩):P:=h
theorem AX (N:Int) (A:OA) (n c:Nat) (gs:List Gt) (w:World) (h:Rd w w.heap.size 4 A n (ak gs)) (hn:n<=2000000000000):
  Calls prog 31 #[.agg #[iI N,.slice A n c]] w fun e w'=>e=.returned (iI (gH gs))/\Ext w w':=by
 have hl:=h.len Gt.aE aa;have h7:=dx (ri 7) gs;have h8:=dx (ri 8) gs;have HT:Hid ((gH gs:Nat)=ei (ri 7) gs+ei (ri 8) gs):=rfl;have eG:Hid (ay (w.alloc (cO #[iI N,.slice A n c] 50)) w.heap.size 50 #[iI N,.slice A n c]):=ay.new _ _ _;have ke:Hid (Ext w (w.alloc (cO #[iI N,.slice A n c] 50))):=(xZ w).alloc _;have H:=hY h;rw [hl] at h7 h8;clear hl h;have HC7:Hid (∀w',Ext w w'->Calls prog 55 #[.agg #[iI N,.slice A n c],iI 7] w' fun e w''=>e=.returned (iI (ei (ri 7) gs))/\Ext w' w''):=fun w' hx=>kX N 7 A n c gs w' (H.u.ext hx) hn
 have HC8:Hid (∀w',Ext w w'->Calls prog 55 #[.agg #[iI N,.slice A n c],iI 8] w' fun e w''=>e=.returned (iI (ei (ri 8) gs))/\Ext w' w''):=fun w' hx=>kX N 8 A n c gs w' (H.u.ext hx) hn
 rw [HT.u];clear HT;generalize ei (ri 7) gs=c7 at*
 generalize ei (ri 8) gs=c8 at*
 have Ld:IntKind.i64.wrap ((c7:Int)+(c8:Int))=(c7:Int)+(c8:Int):=lH _ aa;have aal:=hY Ld;clear Ld;go_enter func31,ntmps31;go_upto_region 1 with fail;have eY:=eG.u;have dC:=ke.u;clear eG ke;generalize (w.alloc (cO #[iI N,.slice A n c] 50))=Wb at*
 have q0:=eY.ck 0;have q1:=eY.ck 1;have HK:Hid (∀w',Ext Wb w'->w'.cell? (aA w.z 0)=some (iI N)/\w'.cell? (aA w.z 1)=some (.slice A n c)):=fun w' q=>⟨(eY.ext q).cell 0,(eY.ext q).cell 1⟩
 have Ld:=aal.u;go_wp2
 go_region_held3 (fun w'=>w'.cell? (aA w.z 0)=some (iI N)/\w'.cell? (aA w.z 1)=some (.slice A n c))
  (first|go_keep|exact HK.u _ aQ)
  (first
   |(go_at_call 55;(with_reducible refine (HC7.u _ (dC.trans (xZ Wb).drew)).mono ?_);rintro e w5 ⟨rfl,bK⟩;replace bK:Ext Wb w5:=Ext.trans (xZ Wb).drew bK)
   |(go_at_call 55;(with_reducible refine (HC8.u _ (dC.trans bK)).mono ?_);rintro e w6 ⟨rfl,ig⟩;replace ig:Ext Wb w6:=bK.trans ig))
 exact CF
theorem rj (N:Int) (A:OA) (n c:Nat) (gs:List Gt) (w:World) (h:Rd w w.heap.size 4 A n (ak gs)) (hn:n<=2000000000000):
  Calls prog 19 #[.agg #[iI N,.slice A n c]] w fun e w'=>e=.returned (iI (gH gs))/\Ext w w':=by
 have hl:=h.len Gt.aE aa;have h7:=dx (ri 7) gs;have h8:=dx (ri 8) gs;have HT:Hid ((gH gs:Nat)=ei (ri 7) gs+ei (ri 8) gs):=rfl;have eG:Hid (ay (w.alloc (cO #[iI N,.slice A n c] 50)) w.heap.size 50 #[iI N,.slice A n c]):=ay.new _ _ _;have ke:Hid (Ext w (w.alloc (cO #[iI N,.slice A n c] 50))):=(xZ w).alloc _;have H:=hY h;rw [hl] at h7 h8;clear hl h;have HC7:Hid (∀w',Ext w w'->Calls prog 36 #[.agg #[iI N,.slice A n c],iI 7] w' fun e w''=>e=.returned (iI (ei (ri 7) gs))/\Ext w' w''):=fun w' hx=>kY N 7 A n c gs w' (H.u.ext hx) hn
 have HC8:Hid (∀w',Ext w w'->Calls prog 36 #[.agg #[iI N,.slice A n c],iI 8] w' fun e w''=>e=.returned (iI (ei (ri 8) gs))/\Ext w' w''):=fun w' hx=>kY N 8 A n c gs w' (H.u.ext hx) hn
 rw [HT.u];clear HT;generalize ei (ri 7) gs=c7 at*
 generalize ei (ri 8) gs=c8 at*
 have Ld:IntKind.i64.wrap ((c7:Int)+(c8:Int))=(c7:Int)+(c8:Int):=lH _ aa;have aal:=hY Ld;clear Ld;go_enter func19,ntmps19;go_upto_region 1 with fail;have eY:=eG.u;have dC:=ke.u;clear eG ke;generalize (w.alloc (cO #[iI N,.slice A n c] 50))=Wb at*
 have q0:=eY.ck 0;have q1:=eY.ck 1;have HK:Hid (∀w',Ext Wb w'->w'.cell? (aA w.z 0)=some (iI N)/\w'.cell? (aA w.z 1)=some (.slice A n c)):=fun w' q=>⟨(eY.ext q).cell 0,(eY.ext q).cell 1⟩
 have Ld:=aal.u;go_wp2
 go_region_held3 (fun w'=>w'.cell? (aA w.z 0)=some (iI N)/\w'.cell? (aA w.z 1)=some (.slice A n c))
  (first|go_keep|exact HK.u _ aQ)
  (first
   |(go_at_call 36;(with_reducible refine (HC7.u _ (dC.trans (xZ Wb).drew)).mono ?_);rintro e w5 ⟨rfl,bK⟩;replace bK:Ext Wb w5:=Ext.trans (xZ Wb).drew bK)
   |(go_at_call 36;(with_reducible refine (HC8.u _ (dC.trans bK)).mono ?_);rintro e w6 ⟨rfl,ig⟩;replace ig:Ext Wb w6:=bK.trans ig))
 exact CF
theorem ql (N:Int) (A:OA) (n c:Nat) (gs:List Gt) (w:World) (h:Rd w w.heap.size 4 A n (ak gs)) (hn:n<=2000000000000):
  Calls prog 32 #[.agg #[iI N,.slice A n c]] w fun e w'=>e=.returned (iI (ei cS gs))/\Ext w w':=by
 go_enter func32,ntmps32;go_wp2
 go_loopw [3,9] (fun v i wr=>∃k:Nat,k<=n/\i=iI k/\v=iI (ei cS (gs.take k))/\Ext w wr) (fun _ i _=>n - (intOf i).toNat)
 case atStart=>exact ⟨0,lJ _,rfl,rfl,xx⟩
 case round=>
  obtain ⟨k,hk,rfl,rfl,hx⟩:=hrel;have hle:=Bq cS gs k
  by_cases bh:k<n
  ·obtain ⟨b,o,g,rfl,hb,hg,h0,h1,h2,h3⟩:=bE (h.ext hx) bh;have hs:=hY (tU cS hg);have Zt:=fY g.k;clear hg;go_wp2_with fail;refine (Cl _ _).mono ?_;rintro e w2 ⟨rfl,rfl⟩
   by_cases hq:2<=ar g.k
   ·have hi:Hid (cS g=true):=kI
    exact qj
   ·have hi:Hid (cS g=false):=kI
    exact qj
  ·exact CD
theorem jU (N:Int) (A:OA) (n c:Nat) (gs:List Gt) (w:World) (h:Rd w w.heap.size 4 A n (ak gs)) (hn:n<=2000000000000):
  Calls prog 20 #[.agg #[iI N,.slice A n c]] w fun e w'=>e=.returned (iI (ei cS gs))/\Ext w w':=by
 go_enter adP,adN;go_wp2
 go_loop [3,4] (fun v i=>∃k:Nat,k<=n/\i=iI k/\v=iI (ei cS (gs.take k))) (fun _ i=>n - (intOf i).toNat)
 case atStart=>exact ⟨0,lJ _,rfl,rfl⟩
 case round=>
  obtain ⟨k,hk,rfl,rfl⟩:=hrel;have hle:=Bq cS gs k
  by_cases bh:k<n
  ·obtain ⟨b,o,g,rfl,hb,hg,h0,h1,h2,h3⟩:=bE h bh;have hs:=hY (tU cS hg);have Zt:=fY g.k;clear hg;go_wp2_with fail;refine (aY _ _).mono ?_;rintro e w2 ⟨rfl,rfl⟩
   by_cases hq:2<=ar g.k
   ·have hi:Hid (cS g=true):=kI
    have Km:1<ar g.k:=aa
    exact qk
   ·have hi:Hid (cS g=false):=kI
    have Km:¬1<ar g.k:=aa
    exact qk
  ·exact CE
theorem pG (A:OA) (n c:Nat) (gs:List Gt) (w:World) (h:Rd w w.heap.size 4 A n (ak gs)) (hn:n<=2000000000000):
  Calls prog 13 #[.slice A n c] w fun e w'=>e=.returned (.agg #[iI n,iI (gH gs),iI (ei cS gs)])/\Ext w w':=by
 have HC7:Hid (∀w',Ext w w'->Calls prog 31 #[.agg #[iI 0,.slice A n c]] w' fun e w''=>e=.returned (iI (gH gs))/\Ext w' w''):=fun w' hx=>AX 0 A n c gs w' (h.ext hx) hn
 have HC8:Hid (∀w',Ext w w'->Calls prog 32 #[.agg #[iI 0,.slice A n c]] w' fun e w''=>e=.returned (iI (ei cS gs))/\Ext w' w''):=fun w' hx=>ql 0 A n c gs w' (h.ext hx) hn
 clear h;generalize gH gs=c7 at*
 generalize ei cS gs=c8 at*
 go_enter func13,ntmps13;go_upto_region 2 with fail;have rh:ay (w.alloc (cO #[iI 0,iI 0,iI 0] 45)) w.heap.size 45 #[iI 0,iI 0,iI 0]:=ay.new _ _ _;have hs:(w.alloc (cO #[iI 0,iI 0,iI 0] 45)).heap.size=w.heap.size+1:=Array.size_push _;have Qb:Ext w (w.alloc (cO #[iI 0,iI 0,iI 0] 45)):=(xZ w).alloc _;generalize (w.alloc (cO #[iI 0,iI 0,iI 0] 45))=W1 at*
 have xR:ay (W1.alloc (cO #[iI 0,.slice A n c] 50)) W1.heap.size 50 #[iI 0,.slice A n c]:=ay.new _ _ _;rw [hs] at xR;replace rh:=rh.ext ((xZ W1).alloc (cO #[iI 0,.slice A n c] 50));replace Qb:=Qb.alloc (cO #[iI 0,.slice A n c] 50);clear hs;generalize (W1.alloc (cO #[iI 0,.slice A n c] 50))=Wb at*
 have q0:=xR.ck 0;have q1:=xR.ck 1;have HK:Hid (∀w',Ext Wb w'->w'.cell? (aA (w.z+1) 0)=some (iI 0)/\w'.cell? (aA (w.z+1) 1)=some (.slice A n c)):=fun w' q=>⟨(xR.ext q).cell 0,(xR.ext q).cell 1⟩
 have fV:=hY rh;clear rh xR;go_wp2
 go_region_held3 (fun w'=>w'.cell? (aA (w.z+1) 0)=some (iI 0)/\w'.cell? (aA (w.z+1) 1)=some (.slice A n c))
  (first|go_keep|exact HK.u _ aQ)
  (first
   |(go_at_call 31;(with_reducible refine (HC7.u _ (Qb.trans (xZ Wb).drew)).mono ?_);rintro e w5 ⟨rfl,bK⟩;replace bK:Ext Wb w5:=Ext.trans (xZ Wb).drew bK)
   |(go_at_call 32;(with_reducible refine (HC8.u _ (Qb.trans bK)).mono ?_);rintro e w6 ⟨rfl,ig⟩;replace ig:Ext Wb w6:=bK.trans ig;have zk:=fV.u.ext ig;have z0:w6.cell? (aA w.z 0)=some (iI 0):=zk.cell 0;have z1:w6.cell? (aA w.z 1)=some (iI 0):=zk.cell 1;have z2:w6.cell? (aA w.z 2)=some (iI 0):=zk.cell 2;have y0:=zk.frozen 0;have y1:=zk.frozen 1;have y2:=zk.frozen 2))
 go_wp2;have hF:ay (((w6.setCell (aA w.heap.size 0) (iI n)).setCell (aA w.heap.size 1) (iI c7)).setCell (aA w.heap.size 2) (iI c8)) w.heap.size 45 #[iI n,iI c7,iI c8]:=((zk.ba 0 (iI n)).ba 1 (iI c7)).ba 2 (iI c8);have hEF:Ext w (((w6.setCell (aA w.heap.size 0) (iI n)).setCell (aA w.heap.size 1) (iI c7)).setCell (aA w.heap.size 2) (iI c8)):=(((Qb.trans ig).setCell (lI _) _).setCell (lI _) _).setCell (lI _) _;clear z0 z1 z2 y0 y1 y2 zk q0 q1 HK fV;generalize (((w6.setCell (aA w.heap.size 0) (iI n)).setCell (aA w.heap.size 1) (iI c7)).setCell (aA w.heap.size 2) (iI c8))=WF at*
 have p0:=hF.ck 0;have p1:=hF.ck 1;have p2:=hF.ck 2
 exact bR (v:=.agg #[iI n,iI c7,iI c8]) (by simp [results,results13,go_sem,p0,p1,p2]) rfl ⟨rfl,hEF⟩
end Go.Proofs.YtiajdbllccmokaaGreatDoor
