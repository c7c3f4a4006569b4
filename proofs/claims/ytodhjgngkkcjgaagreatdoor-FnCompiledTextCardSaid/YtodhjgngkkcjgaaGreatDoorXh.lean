import Derived.Test.YtodhjgngkkcjgaaGreatDoorXc
import Derived.Test.YtodhjgngkkcjgaaGreatDoorXb
import Derived.DeepKeys4
import Derived.Test.YtodhjgngkkcjgaaGreatDoorXe
namespace Go.Proofs.YtodhjgngkkcjgaaGreatDoor
open Go.ChangeShapes Go.WideShapes Go.ChangeAt Go.RowKit Go.Deep Go.Proofs.Tryz
set_option linter.unusedVariables false
set_option linter.unusedSimpArgs false
set_option maxRecDepth 100000
set_option maxHeartbeats 16000000
open Go.Maps
theorem Wc:(130:TypeId)<prog.types.size:=DH af
theorem ab3:(match prog.underlying 130 with|some (.array _ _)|some (.struct _)=>true|_=>false)=true:=af
theorem YL:Keyed prog 130:=Keyed.of_law (deep_law_laid laidOut (m:=2) aa Wc af ab3)
theorem QY:prog.keyType 130=true:=af
theorem Md:prog.cellsOf 130=2:=af
def ab4 (e:Ed):Lit:=.string (keyBytes [.int .i64 e.a,.int .i64 e.b])
theorem Hb (e:Ed) (h:e.ok):keyOf prog 130 e.val=some (ab4 e):=by
 obtain ⟨h1,h2⟩:=h;have w1:=xw h1;have w2:=xw h2;have hf:e.val.formed prog 130=true:=by
  simp [Value.formed,underlying130,Md]
 have hD:∃D,prog.types.size+1=D+1+1:=⟨prog.types.size - 1,by have:0<prog.types.size:=Nat.lt_of_le_of_lt (lJ _) Wc;omega⟩;obtain ⟨D,hD⟩:=hD;simp only [keyOf,underlying130,QY,hf,Bool.and_self,if_true,hD];simp [Program.keyLits,underlying130,FW,Md,Qv,w1,w2,Value.cells,ab4]
theorem aoJ {e f:Ed} (h:e.ok) (h':f.ok) (hk:ab4 e=ab4 f):e=f:=by
 have:=YL.inj (Hb e h) (by rw [hk];exact Hb f h');obtain ⟨a,b⟩:=e;obtain ⟨c,d⟩:=f;simp [Ed.val] at this;simp [this]
def Wf (w:World) (b n:Nat) (p:Ed->Bool):Prop:=
 ∃D:DataW Unit,w.ownsMap prog 130 (plainElem prog 4) b n D/\IsMap D/\∀x:Ed,x.ok->D.atKey (ab4 x) (.lit (.bool false))=.lit (.bool (p x))
theorem Wf.made (w:World):Wf (w.alloc (.map #[] 0)) w.heap.size 0 (fun _=>false):=
 ⟨.map [],World.ownsMap_made _ _ _ _,isMap_empty,fun _ _=>rfl⟩
theorem Wf.lt {w:World} {b n:Nat} {p:Ed->Bool} (h:Wf w b n p):b<w.heap.size:=let ⟨_,h,_,_⟩:=h;h.lt
def cW (xs:List Oq) (c:Int) (k:Nat):Nat:=k+((xs.drop k).takeWhile (fun o=>o.k==1 && o.cond==c)).length
theorem Uo (xs:List Oq) (c:Int) (k:Nat) (h:xs.length<=k):cW xs c k=k:=by
 unfold cW;rw [List.drop_eq_nil_of_le h];rfl
theorem Ra {xs:List Oq} {c:Int} {k:Nat} {o:Oq} (h:xs[k]?=some o) (h1:(o.k==1)=true) (h2:(o.cond==c)=true):cW xs c k=cW xs c (k+1):=by
 obtain ⟨hk,rfl⟩:=gu.1 h;unfold cW;rw [Bn hk,List.takeWhile_cons,h1,h2];simp;omega
theorem DZ {xs:List Oq} {c:Int} {k:Nat} {o:Oq} (h:xs[k]?=some o) (h1:(o.k==1 && o.cond==c)=false):cW xs c k=k:=by
 obtain ⟨hk,rfl⟩:=gu.1 h;unfold cW;rw [Bn hk,List.takeWhile_cons,h1];simp
theorem CS (xs:List Oq) (c:Int) (k:Nat) (h:k<=xs.length):cW xs c k<=xs.length:=by
 unfold cW;have:=(List.takeWhile_sublist (l:=xs.drop k) (fun o=>o.k==1 && o.cond==c)).length_le;rw [lU] at this;omega
def Hc (xs:List Oq) (i:Int):Int:=
 if 0<=i/\i<xs.length then match xs[i.toNat]? with
  |some o=>if (o.k==1)=true then (cW xs o.cond (i.toNat+1):Nat) else i
  |none=>i
 else i
theorem Up {xs:List Oq} {i:Int} (h:¬(0<=i/\i<xs.length)):Hc xs i=i:=aM h
theorem Hd {P:Prop} (h:P:=by
 have hi:=(gu.1 h).1;unfold Hc;rw [aY aa,yp,h]
 simp [hk]):P:=h
theorem YM {xs:List Oq} {i:Nat} {o:Oq} (h:xs[i]?=some o) (hk:(o.k==1)=false):Hc xs i=i:=by
 exact Hd
theorem He {xs:List Oq} {i:Nat} {o:Oq} (h:xs[i]?=some o) (hk:(o.k==1)=true):Hc xs i=cW xs o.cond (i+1):=by
 exact Hd
theorem zM {P:Prop} (h:P:=by
 go_wp2;go_quiet (fail);go_wp2;go_ret
 exact ⟨eB (by rw [HE.u,HR.u,HS.u]),xx⟩):P:=h
theorem Hf {P:Prop} (h:P:=by
 rintro e w' ⟨rfl,rfl⟩;go_wp2;go_ret
 exact ⟨eB HE.u.symm,xZ _⟩):P:=h
theorem BK (A:OA) (n c:Nat) (xs:List Oq) (i:Int) (w:World) (h:Rd w w.heap.size 8 A n (aJ xs)) (hn:n<=200000000000) (hi:po i):
  Calls prog 105 #[.slice A n c,iI i] w fun e w'=>e=.returned (iI (Hc xs i))/\Ext w w':=by
 obtain ⟨hi1,hi2⟩:=hi;have hlen:=hY (h.len Oq.aG aa)
 by_cases zG:0<=i/\i<n
 ·obtain ⟨TW,zG⟩:=zG;obtain ⟨j,rfl⟩:=lD TW;have hj:j<n:=aa
  obtain ⟨b,o,x,rfl,hb,hg,h0,h1,h2,h3,h4,h5,h6,h7⟩:=nB h hj;have HG:=hY hg;clear hg h1 h2 h3 h4 h5 h6
  cases hk:(x.k==1)
  ·have KQ:(x.k !=1)=true:=by simp [bne,hk]
   have HE:=hY (YM HG.u hk);go_enter func105,ntmps105;go_wp2_with fail;refine (aF _ _ _ _ aa aa).mono ?_
   exact Hf
  ·have KQ:(x.k !=1)=false:=by simp [bne,hk]
   have HE:=hY (He HG.u hk);go_enter func105,ntmps105;go_wp2_with fail;refine (aF _ _ _ _ aa aa).mono ?_;rintro e w' ⟨rfl,rfl⟩;go_wp2
   go_loopw [5] (fun t wr=>∃k:Nat,k<=n/\t=iI k/\Hid (cW xs x.cond (j+1)=cW xs x.cond k)/\∃q,wr=w.drewN q) (fun t _=>n - (intOf t).toNat)
   case atStart=>exact ⟨j+1,aa,az,hY rfl,0,rfl⟩
   case round=>
    obtain ⟨k,jJ,rfl,HR,q,rfl⟩:=hrel
    by_cases ba:k<n
    ·obtain ⟨b',o',y,e',rJ,Bc,r0,r1,r2,r3,r4,r5,r6,r7⟩:=nB h ba;injection e' with e';injection e' with e1 e2;subst e1 e2;have VJ:=hY Bc;clear Bc r1 r2 r3 r4 r5 r6
     cases hy:(y.k==1)
     ·have HS:=hY (DZ (c:=x.cond) VJ.u (by rw [hy];rfl))
      exact zM
     ·cases hz:(y.cond==x.cond)
      ·have HS:=hY (DZ (c:=x.cond) VJ.u (by rw [hy,hz];rfl))
       exact zM
      ·have HS:=hY (Ra VJ.u hy hz);go_wp2;go_quiet (fail);go_wp2;go_roundw
       case rel=>exact ⟨k+1,aa,az,hY (HR.u.trans HS.u),_,rfl⟩
       case measure=>simp [intOf];omega
    ·have hd:decide ((k:Int)<n)=false:=ai
     have HS:=hY (Uo xs x.cond k bQ)
     exact zM
 ·have HE:=hY (Up (xs:=xs) (i:=i) (by rw [hlen.u];exact zG));go_enter func105,ntmps105;go_wp2_with fail;refine (bP _ _ _ _ aa).mono ?_
  exact Hf
theorem ank {xs:List Oq} {c:Int} {j m:Nat} (h1:j<=m) (h2:m<cW xs c j):∃o,xs[m]?=some o/\(o.k==1)=true/\(o.cond==c)=true:=by
 unfold cW at h2;have h3:m - j<((xs.drop j).takeWhile (fun o=>o.k==1 && o.cond==c)).length:=aa
 have h4:=FO h3;have h5:=lq.1 List.all_takeWhile _ h4;have h6:((xs.drop j).takeWhile (fun o=>o.k==1 && o.cond==c))[m - j]?=xs[m]?:=by
  have e:=abf (p:=fun o:Oq=>o.k==1 && o.cond==c) (l:=xs.drop j);have e2:(xs.drop j)[m - j]?=xs[m]?:=by rw [vK];congr 1;omega
  rw [<-e2]
  conv=>rhs;rw [<-e]
  rw [oY h3]
 rw [lB h3] at h6;refine ⟨_,h6.symm,?_⟩;simpa using h5
theorem akp {xs:List Oq} {c:Int} {j:Nat} (hj:j<=xs.length) (h:cW xs c j≠xs.length):∃o,xs[cW xs c j]?=some o/\(o.k==1 && o.cond==c)=false:=by
 have hle:=CS xs c j hj;have ba:cW xs c j<xs.length:=aa
 refine ⟨xs[cW xs c j],lB ba,?_⟩;have e:=abf (p:=fun o:Oq=>o.k==1 && o.cond==c) (l:=xs.drop j);have hl:((xs.drop j).takeWhile (fun o=>o.k==1 && o.cond==c)).length=cW xs c j - j:=by unfold cW;omega
 have uU:j<=cW xs c j:=by unfold cW;omega
 have hd:(xs.drop j).dropWhile (fun o=>o.k==1 && o.cond==c)≠[]:=by
  intro h0;rw [h0,yt] at e;rw [e,lU] at hl;omega
 have hh:=List.head_dropWhile_not (fun o:Oq=>o.k==1 && o.cond==c) hd;have e3:some ((xs.drop j).dropWhile (fun o=>o.k==1 && o.cond==c)|>.head hd)=some xs[cW xs c j]:=by
  rw [<-List.head?_eq_some_head,<-lB ba];have e2:(xs.drop j)[cW xs c j - j]?=xs[cW xs c j]?:=by rw [vK];congr 1;omega
  rw [<-e2]
  conv=>rhs;rw [<-e]
  rw [uS (by rw [hl];omega),hl,CJ,List.head?_eq_getElem?]
 injection e3 with e3;rw [e3] at hh;simpa using hh
theorem Me (xs:List Oq) (c:Int) (j:Nat):j<=cW xs c j:=by unfold cW;omega
end Go.Proofs.YtodhjgngkkcjgaaGreatDoor
