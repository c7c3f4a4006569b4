import Derived.Test.YtiajdbllccmokaaGreatDoorXa
import Derived.WalkSpells
import Derived.Laws.IdiomStrings
import Derived.Lib.ItoaNum
import Derived.Laws.Concat
import Derived.Test.YtiajdbllccmokaaGreatDoorXShelf
import Derived.Lib.SplitLaws
namespace Go.Proofs.YtiajdbllccmokaaGreatDoor
open Go.ChangeShapes Go.WideShapes Go.ChangeAt Go.RowKit Go.Deep Go.Proofs.Tryz
set_option linter.unusedVariables false
set_option linter.unusedSimpArgs false
set_option maxRecDepth 100000
set_option maxHeartbeats 16000000
theorem du {P:Prop} (h:P:=by
 go_wp2;go_ret
 exact ⟨rfl,rfl⟩):P:=h
theorem aF (x lo hi:Int) (w:World) (h1:lo<=x) (h2:x<=hi):
  Calls prog 60 #[iI x,iI lo,iI hi] w fun e w'=>e=.returned (.bool true)/\w=w':=by
 go_enter func60,ntmps60
 exact du
theorem bI (x lo hi:Int) (w:World) (h:x<lo\/hi<x):
  Calls prog 60 #[iI x,iI lo,iI hi] w fun e w'=>e=.returned (.bool false)/\w=w':=by
 by_cases h1:lo<=x
 ·have h2:decide (x<=hi)=false:=aj
  go_enter func60,ntmps60
  exact du
 ·have h2:decide (lo<=x)=false:=aj
  go_enter func60,ntmps60
  exact du
theorem UF (x lo hi:Int) (w:World) (h1:lo<=x) (h2:x<=hi):
  Calls prog 74 #[iI x,iI lo,iI hi] w fun e w'=>e=.returned (.bool true)/\w=w':=by
 go_enter func74,ntmps74
 exact du
theorem UG (x lo hi:Int) (w:World) (h:x<lo\/hi<x):
  Calls prog 74 #[iI x,iI lo,iI hi] w fun e w'=>e=.returned (.bool false)/\w=w':=by
 by_cases h1:lo<=x
 ·have h2:decide (x<=hi)=false:=aj
  go_enter func74,ntmps74
  exact du
 ·have h2:decide (lo<=x)=false:=aj
  go_enter func74,ntmps74
  exact du
def ar (k:Int):Int:=if 1<=k/\k<=8 then 1 else if 9<=k/\k<=11 then 2 else if k=12 then 3 else 0
theorem fY (k:Int):0<=ar k/\ar k<=3:=gp
theorem ar1 {k:Int} (h:1<=k/\k<=8):ar k=1:=gp
theorem ar2 {k:Int} (h:9<=k/\k<=11):ar k=2:=gp
theorem ar3 {k:Int} (h:k=12):ar k=3:=gp
theorem ar0 {k:Int} (h:k<1\/12<k):ar k=0:=gp
theorem aY (k:Int) (w:World):Calls prog 37 #[iI k] w fun e w'=>e=.returned (iI (ar k))/\w=w':=by
 rcases (aa:(1<=k/\k<=8)\/(9<=k/\k<=11)\/k=12\/(k<1\/12<k)) with h|h|h|h
 ·rw [ar1 h];go_enter func37,ntmps37;go_wp2_with fail;refine (aF _ _ _ _ h.1 h.2).mono ?_;rintro e w' ⟨rfl,rfl⟩
  exact du
 ·rw [ar2 h];go_enter func37,ntmps37;go_wp2_with fail;refine (bI _ _ _ _ aa).mono ?_;rintro e w' ⟨rfl,rfl⟩;go_wp2_with fail;refine (aF _ _ _ _ h.1 h.2).mono ?_;rintro e w' ⟨rfl,rfl⟩
  exact du
 ·rw [ar3 h];subst h;go_enter func37,ntmps37
  exact du
 ·rw [ar0 h];have hne:(k==12)=false:=eC
  have H:=hY h;clear h;go_enter func37,ntmps37;go_wp2_with fail;refine (bI _ _ _ _ (oM H.u)).mono ?_;rintro e w' ⟨rfl,rfl⟩;go_wp2_with fail;refine (bI _ _ _ _ (oM H.u)).mono ?_;rintro e w' ⟨rfl,rfl⟩
  exact du
theorem Cl (k:Int) (w:World):Calls prog 56 #[iI k] w fun e w'=>e=.returned (iI (ar k))/\w=w':=by
 rcases (aa:(1<=k/\k<=8)\/(9<=k/\k<=11)\/k=12\/(k<1\/12<k)) with h|h|h|h
 ·rw [ar1 h];go_enter func56,ntmps56;go_wp2_with fail;refine (UF _ _ _ _ h.1 h.2).mono ?_;rintro e w' ⟨rfl,rfl⟩
  exact du
 ·rw [ar2 h];go_enter func56,ntmps56;go_wp2_with fail;refine (UG _ _ _ _ aa).mono ?_;rintro e w' ⟨rfl,rfl⟩;go_wp2_with fail;refine (UF _ _ _ _ h.1 h.2).mono ?_;rintro e w' ⟨rfl,rfl⟩
  exact du
 ·rw [ar3 h];subst h;go_enter func56,ntmps56
  exact du
 ·rw [ar0 h];have hne:(k==12)=false:=eC
  have H:=hY h;clear h;go_enter func56,ntmps56;go_wp2_with fail;refine (UG _ _ _ _ (oM H.u)).mono ?_;rintro e w' ⟨rfl,rfl⟩;go_wp2_with fail;refine (UG _ _ _ _ (oM H.u)).mono ?_;rintro e w' ⟨rfl,rfl⟩
  exact du
section
variable {α β:Type} {xs:List α} {x:α} {k m:Nat}
theorem ad1 {f:α->Bool} (h:xs[k]?=some x) (hf:f x=false):xs.all f=false:=by
 rw [BR]
 exact ⟨x,lG h,by simp [hf]⟩
theorem UH {f:α->Bool} (h:xs[k]?=some x) (hq:(xs.take k).all f=true) (hf:f x=true):(xs.take (k+1)).all f=true:=by
 rw [aL h,nX,hq];simp [hf]
theorem ZV (f:α->List β) (h:xs[k]?=some x):(xs.take (k+1)).flatMap f=(xs.take k).flatMap f++f x:=by
 rw [aL h,lR];simp
theorem ad2 (f:α->List β) (hf:∀x,(f x).length<=m) (xs:List α):(xs.flatMap f).length<=m*xs.length:=by
 induction xs with
 |nil=>simp
 |cons o xs ih=>have:=hf o;rw [fK,lA,ij,Nat.mul_succ];omega
theorem ZW (f:α->List β) (hf:∀x,(f x).length<=m) (xs:List α) (k:Nat):((xs.take k).flatMap f).length<=m*k:=
 lK (ad2 f hf _) (Nat.mul_le_mul_left _ (qU _ _))
end
def aij {α β:Type} (ok:α->Bool) (f:α->List β) (xs:List α):List β:=if xs.all ok=true then xs.flatMap f else []
theorem al2 {α β:Type} {ok:α->Bool} {f:α->List β} {xs:List α} (h:xs.all ok=false):aij ok f xs=[]:=aK aW
theorem aik {α β:Type} {ok:α->Bool} {f:α->List β} {xs:List α} (h:xs.all ok=true):aij ok f xs=xs.flatMap f:=aX h
def Ry {α:Type} (T size:Nat) (cells:List α->List Value) (w:World) (ok:Bool) (r:List α) (e:Ending) (w':World):Prop:=∃v,e=.returned (.tuple #[v,.bool ok])/\w'.ownsRow w.heap.size T size v r.length (cells r)/\Ext w w'
theorem Ry.mk {α:Type} {T size:Nat} {cells:List α->List Value} {w w':World} {v:Value} {ok b:Bool} {r xs:List α} (hb:ok=b) (hx:r=xs) (ho:w'.ownsRow w.heap.size T size v xs.length (cells xs)) (hw:Ext w w'):Ry T size cells w ok r (.returned (.tuple #[v,.bool b])) w':=by
 subst hb hx;exact ⟨v,rfl,ho,hw⟩
def zV (i:Int):ByteArray:=⟨#[UInt8.ofNat (48+i.toNat)]⟩
theorem xJ {a b:ByteArray} (h:a=b):Ending.returned (.string a)=.returned (.string b):=by rw [h]
theorem mU (n:Int) (d:UInt8) (h:(d.toNat:Int)=n) (wx:World):(convert 22 9 (.slice (some ⟨wx.heap.size,0,none⟩) 1 1)).run prog (wx.alloc (cO #[.int .u8 n] 5))=.ok (.string ⟨[d].toArray⟩) (wx.alloc (cO #[.int .u8 n] 5)):=by
 subst h;refine run_convert_bytes_back _ _ _ 5 _ 1 [d] yU IB Io (fun j hj=>?_);have h0:j=0:=sU hj
 subst h0
 exact (ay.new wx 5 _).cell 0
theorem KM (i:Int) (hi:0<=i/\i<=4) (w:World):Calls prog 15 #[iI i] w fun e w'=>e=.returned (.string (zV i))/\Ext w w':=by
 rcases (aa:i=0\/i=1\/i=2\/i=3\/i=4) with rfl|rfl|rfl|rfl|rfl
 all_goals
  go_enter func15,ntmps15;go_wp2;go_ret
  exact ⟨xJ (by first|rfl|decide),xx⟩
theorem qf {P:Prop} (h:P:=by
 obtain ⟨⟨rfl,rfl⟩|⟨rfl,rfl⟩,hx⟩:=hrel
 ·go_wp2;go_roundw
  case rel=>exact ⟨.inr ⟨rfl,by first|rfl|decide⟩,hx.alloc _⟩
  case measure=>simp [intOf]
 ·go_wp2;go_ret
  exact ⟨rfl,hx⟩):P:=h
theorem dX (i:Int) (hi:0<=i/\i<=4) (w:World):Calls prog 18 #[iI i] w fun e w'=>e=.returned (.string (zV i))/\Ext w w':=by
 have k1:=mU 49 49 rfl;have k2:=mU 50 50 rfl;have k3:=mU 51 51 rfl;have k4:=mU 52 52 rfl;rcases (aa:i=0\/i=1\/i=2\/i=3\/i=4) with rfl|rfl|rfl|rfl|rfl
 ·go_enter func18,ntmps18;go_wp2;go_ret
  exact ⟨xJ (by first|rfl|decide),xZ _⟩
 ·go_enter func18,ntmps18;go_wp2
  go_loopw [0,4] (fun n out wr=>((n=iI 1/\out=.string ⟨#[]⟩)\/(n=iI 0/\out=.string (zV 1)))/\Ext w wr) (fun n _ _=>(intOf n).toNat)
  case atStart=>exact ⟨.inl ⟨rfl,rfl⟩,xZ _⟩
  case round=>
   exact qf
 ·go_enter func18,ntmps18;go_wp2
  go_loopw [0,4] (fun n out wr=>((n=iI 2/\out=.string ⟨#[]⟩)\/(n=iI 0/\out=.string (zV 2)))/\Ext w wr) (fun n _ _=>(intOf n).toNat)
  case atStart=>exact ⟨.inl ⟨rfl,rfl⟩,xZ _⟩
  case round=>
   exact qf
 ·go_enter func18,ntmps18;go_wp2
  go_loopw [0,4] (fun n out wr=>((n=iI 3/\out=.string ⟨#[]⟩)\/(n=iI 0/\out=.string (zV 3)))/\Ext w wr) (fun n _ _=>(intOf n).toNat)
  case atStart=>exact ⟨.inl ⟨rfl,rfl⟩,xZ _⟩
  case round=>
   exact qf
 ·go_enter func18,ntmps18;go_wp2
  go_loopw [0,4] (fun n out wr=>((n=iI 4/\out=.string ⟨#[]⟩)\/(n=iI 0/\out=.string (zV 4)))/\Ext w wr) (fun n _ _=>(intOf n).toNat)
  case atStart=>exact ⟨.inl ⟨rfl,rfl⟩,xZ _⟩
  case round=>
   exact qf
def num (n:Nat):ByteArray:=⟨(Lib.decDigits n).toArray⟩
theorem rf (x:UInt8) (l:List UInt8) (h:l.length<=2000000000) (w:World):(Op.stringOp .add ⟨#[x]⟩ ⟨l.toArray⟩).run prog w=.ok (.string ⟨(x::l).toArray⟩) w:=by
 have e:(⟨#[x]⟩:ByteArray)++⟨l.toArray⟩=⟨(x::l).toArray⟩:=by
  apply Ug;simp
 rw [<-e];refine fA w _ _ ?_;show 1+l.toArray.size<=_;simp;omega
theorem dec_lt {k:Nat} (h:k<10):Lib.decDigits k=[UInt8.ofNat (48+k)]:=Lib.decDigits_one h
theorem ad3 {k:Nat} (h:¬k<10):Lib.decDigits k=Lib.decDigits (k / 10)++[UInt8.ofNat (48+k % 10)]:=by
 rw [Lib.decDigits,dif_neg h]
theorem bU (m:Nat) (hm:m<=1000000000) (w:World):Calls prog 18 #[iI m] w fun e w'=>e=.returned (.string (num m))/\Ext w w':=by
 by_cases h0:m=0
 ·subst h0;go_enter func18,ntmps18;go_wp2;go_ret
  exact ⟨xJ (by unfold num;rw [dec_lt aa];rfl),xZ _⟩
 have hne:((m:Int)==0)=false:=aj
 have hng:¬((m:Int)<0):=aa
 go_enter func18,ntmps18;go_wp2
 go_loopw [0,4] (fun n out wr=>∃(k:Nat) (l:List UInt8),n=iI k/\out=.string ⟨l.toArray⟩/\l.length+k<=m/\Hid ((0<k/\Lib.decDigits m=Lib.decDigits k++l)\/(k=0/\Lib.decDigits m=l))/\Ext w wr) (fun n _ _=>(intOf n).toNat)
 case atStart=>exact ⟨m,[],rfl,rfl,ag,.inl ⟨aa,ag⟩,xZ _⟩
 case round=>
  obtain ⟨k,l,rfl,rfl,hl,HD,hx⟩:=hrel
  by_cases hk:k=0
  ·subst hk;have HF:Hid (Lib.decDigits m=l):=by
    rcases HD.u with ⟨h,_⟩|⟨_,h⟩
    ·omega
    ·exact h
   go_wp2;go_ret
   exact ⟨xJ (by unfold num;rw [HF.u]),hx⟩
  ·have hk':((k:Int) !=0)=true:=aj
   obtain ⟨d,hd⟩:∃d:Nat,d=k % 10:=⟨_,rfl⟩;have AU:d<=9:=aa
   have kR:(k:Int) % 10=(d:Int):=aa
   obtain ⟨k2,iG⟩:=ey (k / 10);have hu8:IntKind.u8.wrap (48+(d:Int))=48+(d:Int):=IntWalk.u8_in _ aa;obtain ⟨x,zW⟩:∃x:UInt8,x=UInt8.ofNat (48+d):=⟨_,rfl⟩;have hxn:(x.toNat:Int)=48+(d:Int):=by rw [zW,Cb];omega
   have hcv:∀wx:World,(convert 22 9 (.slice (some ⟨wx.heap.size,0,none⟩) 1 1)).run prog (wx.alloc (cO #[.int .u8 (48+(d:Int))] 5))=.ok (.string ⟨#[x]⟩) (wx.alloc (cO #[.int .u8 (48+(d:Int))] 5)):=fun wx=>mU (48+(d:Int)) x hxn wx
   have hj:=rf x l aa;have rE:(0:Int)<=(k:Int):=aa
   have hdv:(k:Int) / 10=(k2:Int):=aa
   clear hxn;have hdn:¬((d:Int)<0):=aa
   have IG:Hid ((0<k2/\Lib.decDigits m=Lib.decDigits (k2)++(x::l))\/(k2=0/\Lib.decDigits m=x::l)):=by
    rcases HD.u with ⟨_,h⟩|⟨h,_⟩
    ·by_cases TH:k<10
     ·right;refine ⟨aa,?_⟩;rw [zW,h,dec_lt TH,show d=k by omega];rfl
     ·left;refine ⟨aa,?_⟩;rw [zW,h,ad3 TH,<-hd,<-iG];simp
    ·omega
   have oF:(x::l).length+k2<=m:=aj
   clear zW;have HM:Hid ((intOf (Value.int .i64 (k2:Int))).toNat<(intOf (Value.int .i64 (k:Int))).toNat):=by unfold Hid;simp [intOf];omega
   clear iG;clear hd HD;go_wp2;go_roundw
   case rel=>exact ⟨k2,_,by first|rfl|go_num,rfl,oF,IG,hx.alloc _⟩
   case measure=>exact HM.u
def Pow (w:World):Prop:=Lib.TabIs prog w "internal/strconv.uint64pow10" .u64 Lib.pow10Tab
theorem Ext.ail {w w':World} (h:Ext w w') (os:Array Obj):Ext w (Go.Sort.grow w' os):=by
 refine ⟨h.os,h.tape,h.output,?_,?_⟩
 ·have:=h.size;simp [Go.Sort.grow];omega
 ·intro k hk;have hs:=h.size;have hb:=h.block k hk;show (w'.heap++os)[k]?=_;rw [Array.getElem?_append_left aa]
  exact hb
theorem Pow.ext {w w':World} (h:Pow w) (hx:Ext w w') (g:Nat) (hg:prog.globalNamed "internal/strconv.uint64pow10" =some g):Pow w':=by
 unfold Pow Lib.TabIs World.var? at h |-;rw [hg] at h |-;simp only [Option.bind_some] at h |-;have bh:g<w.heap.size:=by
  rcases pA g w.heap.size with h'|h'
  ·exact h'
  ·rw [zL h'] at h;cases h
 rw [hx.block g bh]
 exact h
theorem dM (m:Nat) (hm:m<=1000000000) (w:World) (hp:Pow w):Calls prog 15 #[iI m] w fun e w'=>e=.returned (.string (num m))/\Ext w w':=by
 go_enter func15,ntmps15;go_wp2_with fail;refine (strconv_Itoa _ aa aa _ hp).mono ?_;rintro e w2 ⟨rfl,k,os,rfl⟩;go_wp2;go_ret
 exact ⟨by unfold num;rw [Lib.itoa_nonneg];rfl,((xZ _).drewN _).ail _⟩
def NM (Q:Int->Bool->Prop) (e:Ending):Prop:=∃(n:Int) (ok:Bool),e=.returned (.tuple #[iI n,.bool ok])/\Q n ok
theorem qg {Q:Int->Bool->Prop} {e:Ending} (n:Int) (ok:Bool) (h:e=.returned (.tuple #[iI n,.bool ok])) (q:Q n ok):NM Q e:=⟨n,ok,h,q⟩
def PN (t:ByteArray) (n:Int) (ok:Bool):Prop:=0<=n/\n<=999999/\∀d:Int,0<=d->d<=4->t=zV d->n=d/\ok=true
theorem Rz (y:Int) (hy:y<=0):∃(d:Nat) (y2:Int),d<=9/\y.tmod 10= -(d:Int)/\y.tdiv 10=y2/\y2<=0/\y=10*y2 - d:=by
 obtain ⟨k,rfl⟩:∃k:Nat,y= -(k:Int):=⟨(-y).toNat,aa⟩;refine ⟨k % 10, -((k / 10:Nat):Int),aa,?_,?_,aa,aa⟩
 ·rw [Int.neg_tmod];rfl
 ·rw [Int.neg_tdiv];rfl
theorem ft {P:Prop} (h:P:=by
 go_wp2;go_roundw
 case rel=>exact ⟨y2,_,by rw [HW.u],si,rfl,HL.u,hx.alloc _⟩
 case measure=>rw [HW.u];exact HM.u):P:=h
theorem vI (z:Int) (hz: -1000000000<=z) (eX:z<0) (w:World):Calls prog 18 #[iI z] w fun e w'=>(∃t,e=.returned (.string t))/\Ext w w':=by
 have hne:(z==0)=false:=aj
 go_enter func18,ntmps18;go_wp2
 go_loopw [0,4] (fun n out wr=>∃(y:Int) (l:List UInt8),n=iI y/\y<=0/\out=.string ⟨l.toArray⟩/\l.length - y<=1000000000/\Ext w wr) (fun n _ _=>(-(intOf n)).toNat)
 case atStart=>exact ⟨z,[],rfl,aa,rfl,aj,xZ _⟩
 case round=>
  obtain ⟨y,l,rfl,hy,rfl,hl,hx⟩:=hrel
  by_cases hk:y=0
  ·subst hk;have hj:=rf 45 l aa;go_wp2;go_ret
   exact ⟨⟨_,rfl⟩,hx⟩
  ·have hk':(y !=0)=true:=aj
   obtain ⟨d,y2,AU,kR,hdiv,si,PW⟩:=Rz y hy;have HW:Hid (wrap64 y2=y2):=oX
   have HM:Hid ((-(intOf (Value.int .i64 y2))).toNat<(-(intOf (Value.int .i64 y))).toNat):=by unfold Hid;simp [intOf];omega
   have HL:Hid (((l.length+1:Nat):Int) - y2<=1000000000):=bZ
   clear PW;rcases (aa:d=0\/d=1\/d=2\/d=3\/d=4\/d=5\/d=6\/d=7\/d=8\/d=9) with rfl|rfl|rfl|rfl|rfl|rfl|rfl|rfl|rfl|rfl
   ·have hcv:=mU 48 48 rfl;have hj:=rf 48 l aa;have kR:y.tmod 10=0:=kR
    exact ft
   ·have hcv:=mU 49 49 rfl;have hj:=rf 49 l aa;have kR:y.tmod 10= -1:=kR
    exact ft
   ·have hcv:=mU 50 50 rfl;have hj:=rf 50 l aa;have kR:y.tmod 10= -2:=kR
    exact ft
   ·have hcv:=mU 51 51 rfl;have hj:=rf 51 l aa;have kR:y.tmod 10= -3:=kR
    exact ft
   ·have hcv:=mU 52 52 rfl;have hj:=rf 52 l aa;have kR:y.tmod 10= -4:=kR
    exact ft
   ·have hcv:=mU 53 53 rfl;have hj:=rf 53 l aa;have kR:y.tmod 10= -5:=kR
    exact ft
   ·have hcv:=mU 54 54 rfl;have hj:=rf 54 l aa;have kR:y.tmod 10= -6:=kR
    exact ft
   ·have hcv:=mU 55 55 rfl;have hj:=rf 55 l aa;have kR:y.tmod 10= -7:=kR
    exact ft
   ·have hcv:=mU 56 56 rfl;have hj:=rf 56 l aa;have kR:y.tmod 10= -8:=kR
    exact ft
   ·have hcv:=mU 57 57 rfl;have hj:=rf 57 l aa;have kR:y.tmod 10= -9:=kR
    exact ft
theorem mV {P:Prop} (h:P:=by
 go_enter func9,ntmps9;go_wp2_with (go_at_call 21;refine (HL.u _).mono ?_;rintro e w5 ⟨rfl,bK⟩)
 go_ret2
 exact ⟨rfl,bK⟩):P:=h
theorem mW {P:Prop} (h:P:=by
 go_wp2;go_roundw
 case rel=>exact ⟨.inr ⟨rfl,rfl⟩,hx⟩
 case measure=>simp [intOf]):P:=h
theorem kr {P:Prop} (h:P:=by
 go_ret2
 exact ⟨rfl,hx.trans bK⟩):P:=h
theorem sO (d:Int) (h0:0<=d) (h4:d<=4) (w:World):Calls prog 9 #[.string (zV d)] w fun e w'=>e=.returned (.tuple #[iI d,.bool true])/\Ext w w':=by
 rcases (aa:d=0\/d=1\/d=2\/d=3\/d=4) with rfl|rfl|rfl|rfl|rfl
 ·have HL:Hid (∀w',Calls prog 21 #[.string (zV 0),iI 6] w' fun e w''=>e=.returned (.tuple #[iI 0,.bool true])/\Ext w' w''):=by
   intro w';have pq:(zV 0).size=1:=rfl;have hb:((zV 0)[0]' ae)=48:=rfl;go_enter func21,ntmps21;go_wp2
   go_loopw [8,9] (fun n i wr=>((n=iI 0/\i=iI 0)\/(n=iI 0/\i=iI 1))/\Ext w' wr) (fun _ i _=>1 - (intOf i).toNat)
   case atStart=>exact ⟨.inl ⟨rfl,rfl⟩,xZ _⟩
   case round=>
    obtain ⟨⟨rfl,rfl⟩|⟨rfl,rfl⟩,hx⟩:=hrel
    ·exact mW
    ·go_wp2_with (go_at_call 18;refine (dX 0 ⟨aa,aa⟩ _).mono ?_;rintro e w5 ⟨rfl,bK⟩)
     exact kr
  exact mV
 ·have HL:Hid (∀w',Calls prog 21 #[.string (zV 1),iI 6] w' fun e w''=>e=.returned (.tuple #[iI 1,.bool true])/\Ext w' w''):=by
   intro w';have pq:(zV 1).size=1:=rfl;have hb:((zV 1)[0]' ae)=49:=rfl;go_enter func21,ntmps21;go_wp2
   go_loopw [8,9] (fun n i wr=>((n=iI 0/\i=iI 0)\/(n=iI 1/\i=iI 1))/\Ext w' wr) (fun _ i _=>1 - (intOf i).toNat)
   case atStart=>exact ⟨.inl ⟨rfl,rfl⟩,xZ _⟩
   case round=>
    obtain ⟨⟨rfl,rfl⟩|⟨rfl,rfl⟩,hx⟩:=hrel
    ·exact mW
    ·go_wp2_with (go_at_call 18;refine (dX 1 ⟨aa,aa⟩ _).mono ?_;rintro e w5 ⟨rfl,bK⟩)
     exact kr
  exact mV
 ·have HL:Hid (∀w',Calls prog 21 #[.string (zV 2),iI 6] w' fun e w''=>e=.returned (.tuple #[iI 2,.bool true])/\Ext w' w''):=by
   intro w';have pq:(zV 2).size=1:=rfl;have hb:((zV 2)[0]' ae)=50:=rfl;go_enter func21,ntmps21;go_wp2
   go_loopw [8,9] (fun n i wr=>((n=iI 0/\i=iI 0)\/(n=iI 2/\i=iI 1))/\Ext w' wr) (fun _ i _=>1 - (intOf i).toNat)
   case atStart=>exact ⟨.inl ⟨rfl,rfl⟩,xZ _⟩
   case round=>
    obtain ⟨⟨rfl,rfl⟩|⟨rfl,rfl⟩,hx⟩:=hrel
    ·exact mW
    ·go_wp2_with (go_at_call 18;refine (dX 2 ⟨aa,aa⟩ _).mono ?_;rintro e w5 ⟨rfl,bK⟩)
     exact kr
  exact mV
 ·have HL:Hid (∀w',Calls prog 21 #[.string (zV 3),iI 6] w' fun e w''=>e=.returned (.tuple #[iI 3,.bool true])/\Ext w' w''):=by
   intro w';have pq:(zV 3).size=1:=rfl;have hb:((zV 3)[0]' ae)=51:=rfl;go_enter func21,ntmps21;go_wp2
   go_loopw [8,9] (fun n i wr=>((n=iI 0/\i=iI 0)\/(n=iI 3/\i=iI 1))/\Ext w' wr) (fun _ i _=>1 - (intOf i).toNat)
   case atStart=>exact ⟨.inl ⟨rfl,rfl⟩,xZ _⟩
   case round=>
    obtain ⟨⟨rfl,rfl⟩|⟨rfl,rfl⟩,hx⟩:=hrel
    ·exact mW
    ·go_wp2_with (go_at_call 18;refine (dX 3 ⟨aa,aa⟩ _).mono ?_;rintro e w5 ⟨rfl,bK⟩)
     exact kr
  exact mV
 ·have HL:Hid (∀w',Calls prog 21 #[.string (zV 4),iI 6] w' fun e w''=>e=.returned (.tuple #[iI 4,.bool true])/\Ext w' w''):=by
   intro w';have pq:(zV 4).size=1:=rfl;have hb:((zV 4)[0]' ae)=52:=rfl;go_enter func21,ntmps21;go_wp2
   go_loopw [8,9] (fun n i wr=>((n=iI 0/\i=iI 0)\/(n=iI 4/\i=iI 1))/\Ext w' wr) (fun _ i _=>1 - (intOf i).toNat)
   case atStart=>exact ⟨.inl ⟨rfl,rfl⟩,xZ _⟩
   case round=>
    obtain ⟨⟨rfl,rfl⟩|⟨rfl,rfl⟩,hx⟩:=hrel
    ·exact mW
    ·go_wp2_with (go_at_call 18;refine (dX 4 ⟨aa,aa⟩ _).mono ?_;rintro e w5 ⟨rfl,bK⟩)
     exact kr
  exact mV
theorem ad4 (d:Int) (h0:0<=d) (h4:d<=4):PN (zV d) d true:=by
 refine ⟨h0,aa,fun d' ZX TI he=>⟨?_,rfl⟩⟩;have e1:UInt8.ofNat (48+d.toNat)=UInt8.ofNat (48+d'.toNat):=by
  have:=sI (fun b:ByteArray=>b.data.toList) he;simpa [zV] using this
 have e2:=sI UInt8.toNat e1;rw [Cb,Cb] at e2;omega
theorem KN (s:ByteArray) (k:Nat) (h:k<s.size):s[k].toNat<=255:=oM (s[k].toNat_lt)
theorem Cn {P:Prop} (h:P:=by
 by_cases h48:b<48
 ·have aim:(b:Int)<48:=aa
  go_wp2;go_ret2
  exact ⟨qg (0) false rfl ⟨aa,aa⟩,hx⟩
 have aim:¬((b:Int)<48):=aa
 by_cases h57:57<b
 ·have ain:(57:Int)<(b:Int):=aa
  go_wp2;go_ret2
  exact ⟨qg (0) false rfl ⟨aa,aa⟩,hx⟩
 have ain:¬((57:Int)<(b:Int)):=aa
 have HM:Hid (10*n+(b - 48)<10 ^ (k+1)):=by unfold Hid;have:=HN.u;rw [Nat.pow_succ];omega
 have u1:((b:Int) - 48) % 256=((b - 48:Nat):Int):=aa
 go_wp2;go_roundw
 case rel=>exact ⟨10*n+(b - 48),k+1,az,az,aa,HM,hx⟩
 case measure=>simp [intOf];omega):P:=h
theorem mX {P:Prop} (h:P:=by
 go_wp2;go_ret2
 exact ⟨qg (0) false rfl ⟨aa,aa⟩,xZ _⟩):P:=h
theorem Co {P:Prop} (h:P:=by
 go_wp2;go_ret2
 exact ⟨qg (0) false rfl ⟨aa,aa⟩,hx.trans bK⟩):P:=h
theorem zd (s:ByteArray) (hs:s.size<=2000000) (w:World):Calls prog 21 #[.string s,iI 6] w fun e w'=>NM (fun n _=>n<=999999/\ -999999<=n) e/\Ext w w':=by
 go_enter func21,ntmps21
 by_cases h0:s.size=0
 ·have ZX:¬((0:Int)<(s.size:Int)):=aa
  have MT:(s.size:Int)<1:=aa
  exact mX
 have ZX:((0:Int)<(s.size:Int)):=aa
 have h00:0<s.size:=aa
 by_cases hm:s[0]=45
 ·have hmb:((s[0].toNat:Int)==45)=true:=by rw [hm];rfl
  obtain ⟨t,ht⟩:=ex (s.extract 1 s.size);have hts:t.size=s.size - 1:=by rw [<-ht,ah8];omega
  clear hm
  by_cases hz:t.size<1
  ·have MT:(t.size:Int)<1:=aa
   exact mX
  have MT:¬((t.size:Int)<1):=aa
  by_cases hq:6<t.size
  ·have Km:(6:Int)<(t.size:Int):=aa
   exact mX
  have Km:¬((6:Int)<(t.size:Int)):=aa
  go_wp2
  go_loopw [8,9] (fun nv iv wr=>∃n k:Nat,nv=iI n/\iv=iI k/\k<=t.size/\Hid (n<10 ^ k)/\Ext w wr) (fun _ i _=>t.size - (intOf i).toNat)
  case atStart=>exact ⟨0,0,rfl,rfl,lJ _,by unfold Hid;decide,xZ _⟩
  case round=>
   obtain ⟨n,k,rfl,rfl,hk,HN,hx⟩:=hrel;have rE:(0:Int)<=(k:Int):=aa
   have h6:n<1000000:=sC HN.u (lK (zN ae (show k<=6 by omega)) ae)
   by_cases bh:k<t.size
   ·have Zm:(k:Int)<(t.size:Int):=aa
    have h5:n<100000:=sC HN.u (lK (zN ae (show k<=5 by omega)) ae);have aio:=KN t k bh;obtain ⟨b,hb⟩:∃b:Nat,t[k].toNat=b:=⟨_,rfl⟩
    exact Cn
   ·have Zm:¬((k:Int)<(t.size:Int)):=aa
    have hwn:wrap64 (-(n:Int))= -(n:Int):=bo
    have HC:Hid (∀w',Calls prog 18 #[iI (-(n:Int))] w' fun e w''=>(∃t,e=.returned (.string t))/\Ext w' w''):=by
     intro w';rcases zQ n with rfl|hp
     ·refine (bU 0 aa w').mono ?_;rintro e w'' ⟨rfl,h⟩
      exact ⟨⟨_,rfl⟩,h⟩
     ·exact vI _ aa aa w'
    go_wp2_with fail;refine (HC.u _).mono ?_;rintro e w5 ⟨⟨tt,rfl⟩,bK⟩;obtain ⟨q,hq⟩:=ex ((ByteArray.toList (tt)==s.toList))
    cases q
    ·exact Co
    ·go_wp2;go_ret2
     exact ⟨qg (-(n:Int)) true rfl ⟨aa,aa⟩,hx.trans bK⟩
 ·have hmb:((s[0].toNat:Int)==45)=false:=by
   simp;intro h
   exact hm (UInt8.toNat_inj.1 (by rw [show s[0].toNat=45 by omega];rfl))
  clear hm
  by_cases hz:s.size<1
  ·have MT:(s.size:Int)<1:=aa
   exact mX
  have MT:¬((s.size:Int)<1):=aa
  by_cases hq:6<s.size
  ·have Km:(6:Int)<(s.size:Int):=aa
   exact mX
  have Km:¬((6:Int)<(s.size:Int)):=aa
  go_wp2
  go_loopw [8,9] (fun nv iv wr=>∃n k:Nat,nv=iI n/\iv=iI k/\k<=s.size/\Hid (n<10 ^ k)/\Ext w wr) (fun _ i _=>s.size - (intOf i).toNat)
  case atStart=>exact ⟨0,0,rfl,rfl,lJ _,by unfold Hid;decide,xZ _⟩
  case round=>
   obtain ⟨n,k,rfl,rfl,hk,HN,hx⟩:=hrel;have rE:(0:Int)<=(k:Int):=aa
   have h6:n<1000000:=sC HN.u (lK (zN ae (show k<=6 by omega)) ae)
   by_cases bh:k<s.size
   ·have Zm:(k:Int)<(s.size:Int):=aa
    have h5:n<100000:=sC HN.u (lK (zN ae (show k<=5 by omega)) ae);have aio:=KN s k bh;obtain ⟨b,hb⟩:∃b:Nat,s[k].toNat=b:=⟨_,rfl⟩
    exact Cn
   ·have Zm:¬((k:Int)<(s.size:Int)):=aa
    go_wp2_with fail;refine (bU n aa _).mono ?_;rintro e w5 ⟨rfl,bK⟩;obtain ⟨q,hq⟩:=ex ((ByteArray.toList (num n)==s.toList))
    cases q
    ·exact Co
    ·go_wp2;go_ret2
     exact ⟨qg (n) true rfl ⟨aa,aa⟩,hx.trans bK⟩
theorem Cp {P:Prop} (h:P:=by
 go_wp2;go_ret2
 exact ⟨qg 0 false rfl (HD.u _ _ aa aa),hx⟩):P:=h
theorem KO (s:ByteArray) (hs:s.size<=2000000) (w:World):Calls prog 9 #[.string s] w fun e w'=>NM (PN s) e/\Ext w w':=by
 by_cases hd:∃d:Int,0<=d/\d<=4/\s=zV d
 ·obtain ⟨d,h0,h4,rfl⟩:=hd;refine (sO d h0 h4 w).mono ?_;rintro e w' ⟨rfl,hx⟩
  exact ⟨qg d true rfl (ad4 d h0 h4),hx⟩
 ·have HD:Hid (∀n ok,0<=n->n<=999999->PN s n ok):=fun n ok h0 h9=>⟨h0,h9,fun d h0 h4 he=>absurd ⟨d,h0,h4,he⟩ hd⟩
  clear hd;go_enter func9,ntmps9;go_wp2_with fail;refine (zd s hs _).mono ?_;rintro e w2 ⟨⟨n,ok,rfl,h9,h9'⟩,hx⟩
  cases ok
  ·exact Cp
  ·by_cases hn:n<0
   ·exact Cp
   ·go_wp2;go_ret2
    exact ⟨qg n true rfl (HD.u _ _ aa aa),hx⟩
def xK (p:List UInt8):List (List UInt8)->List (List UInt8)
 |[]=>[p]
 |x::r=>(p++x)::r
def gP (c:UInt8):List UInt8->List (List UInt8)
 |[]=>[[]]
 |b::l=>if b=c then []::gP c l else xK [b] (gP c l)
theorem xL (c:UInt8) (l:List UInt8):gP c l≠[]:=by
 cases l with
 |nil=>simp [gP]
 |cons b l=>
  unfold gP;split
  ·simp
  ·cases gP c l<;>simp [xK]
theorem RA (p q:List UInt8) (X:List (List UInt8)):xK p (xK q X)=xK (p++q) X:=by
 cases X<;>simp [xK]
theorem KP {X:List (List UInt8)} (h:X≠[]):xK [] X=X:=by
 cases X with
 |nil=>exact absurd rfl h
 |cons x r=>rfl
theorem UI (c:UInt8) (l:List UInt8):(gP c l).length<=l.length+1:=by
 induction l with
 |nil=>simp [gP]
 |cons b l ih=>
  unfold gP;split
  ·simp;omega
  ·cases h:gP c l with
   |nil=>simp [xK]
   |cons x r=>rw [h] at ih;simp [xK] at ih |-;omega
theorem ZY {l:List UInt8} {f k:Nat} {b:UInt8} (hf:f<=k) (h:l[k]?=some b):(l.drop f).take (k+1 - f)=(l.drop f).take (k - f)++[b]:=by
 have h1:(l.drop f)[k - f]?=some b:=by rw [xw];rw [show f+(k - f)=k by omega];exact h
 rw [show k+1 - f=(k - f)+1 by omega]
 exact aL h1
def mY (c:UInt8) (l:List UInt8) (done:List (List UInt8)) (f k:Nat):Prop:=f<=k/\k<=l.length/\gP c l=done++xK ((l.drop f).take (k - f)) (gP c (l.drop k))
theorem mY.start (c:UInt8) (l:List UInt8):mY c l [] 0 0:=by
 refine ⟨lI _,lJ _,?_⟩;simp only [lN,yV,yQ,xE]
 exact (KP (xL c l)).symm
theorem drop_cons {l:List UInt8} {k:Nat} {b:UInt8} (h:l[k]?=some b):l.drop k=b::l.drop (k+1):=by
 obtain ⟨hl,rfl⟩:=gU.1 h
 exact xv hl
theorem mY.skip {c:UInt8} {l:List UInt8} {done:List (List UInt8)} {f k:Nat} (h:mY c l done f k) {b:UInt8} (hb:l[k]?=some b) (hc:b≠c):mY c l done f (k+1):=by
 obtain ⟨h1,h2,h3⟩:=h;have hl:=(gU.1 hb).1;refine ⟨aa,aa,?_⟩;rw [h3,drop_cons hb,gP,aK hc,RA,ZY h1 hb]
theorem mY.cut {c:UInt8} {l:List UInt8} {done:List (List UInt8)} {f k:Nat} (h:mY c l done f k) (hb:l[k]?=some c):mY c l (done++[(l.drop f).take (k - f)]) (k+1) (k+1):=by
 obtain ⟨h1,h2,h3⟩:=h;have hl:=(gU.1 hb).1;refine ⟨aa,aa,?_⟩;rw [h3,drop_cons hb,gP,aX rfl,yV,yQ,KP (xL _ _)];simp [xK]
theorem mY.fin {c:UInt8} {l:List UInt8} {done:List (List UInt8)} {f:Nat} (h:mY c l done f l.length):gP c l=done++[(l.drop f).take (l.length - f)]:=by
 obtain ⟨h1,h2,h3⟩:=h;rw [h3,uD (lI _),gP];simp [xK]
theorem mY.anF {c:UInt8} {l:List UInt8} {done:List (List UInt8)} {f n:Nat} (h:mY c l done f n) (hn:l.length=n):gP c l=done++[(l.drop f).take (n - f)]:=by
 subst hn
 exact h.fin
def cut (c:UInt8) (s:ByteArray):List ByteArray:=(gP c s.data.toList).map fun l=>⟨l.toArray⟩
theorem UJ {xs:List ByteArray} {c:UInt8} {s:ByteArray} (h:xs.map (·.data.toList)=gP c s.data.toList):xs=cut c s:=by
 unfold cut;rw [<-h,adO];have:((fun l:List UInt8=>(⟨l.toArray⟩:ByteArray)) ∘ fun x:ByteArray=>x.data.toList)=id:=by
  funext x;apply Ug;simp
 rw [this,List.map_id]
theorem al3 (c:UInt8) (s:ByteArray):(cut c s).length<=s.size+1:=by
 unfold cut;rw [jk];have:=UI c s.data.toList;rwa [PH] at this
theorem anG (c:UInt8) (s:ByteArray):0<(cut c s).length:=by
 unfold cut;rw [jk]
 exact List.length_pos_iff.2 (xL _ _)
theorem Cq (c:UInt8):∀l:List UInt8,Lib.splitK [c] 0 (Lib.count l [c]) l=gP c l
 |[]=>by
  have h0:Lib.count [] [c]=0:=by rw [Lib.count_one];rfl
  rw [h0];rfl
 |b::l=>by
  have ih:=Cq c l
  by_cases h:b=c
  ·subst h;rw [Lib.count_cons_eq,gP,aX rfl,Nd,Lib.splitK];have hix:Lib.index (b::l) [b]=0:=by rw [Lib.index];simp [List.isPrefixOf]
   rw [hix,aK ae];simp [ih]
  ·rw [Lib.count_cons_ne b c l h,gP,aK h,<-ih];have hp:([c]:List UInt8).isPrefixOf (b::l)=false:=by simp [List.isPrefixOf,sK h]
   have hix:Lib.index (b::l) [c]=if Lib.index l [c]== -1 then -1 else Lib.index l [c]+1:=by rw [Lib.index,hp];simp
   cases hk:Lib.count l [c] with
   |zero=>rfl
   |succ k=>
    have tS:=Lib.index_ge l [c]
    by_cases hm:Lib.index l [c]= -1
    ·rw [Lib.splitK,Lib.splitK,hix,hm];rfl
    ·obtain ⟨j,hj⟩:∃j:Nat,Lib.index l [c]=j:=⟨(Lib.index l [c]).toNat,aa⟩;have e1:((j:Int)== -1)=false:=ag
     have e2:(((j:Int)+1)== -1)=false:=aj
     have e3:((j:Int)+1).toNat=j+1:=aa
     have e4:((j:Int)).toNat=j:=aa
     rw [Lib.splitK,Lib.splitK,hix,hj,e1];simp only [e2,e3,e4,Bool.false_eq_true,if_false];simp [xK,Nat.add_right_comm]
theorem ad6 (c:UInt8) (s:ByteArray):Lib.splitB ⟨#[c]⟩ 0 (Lib.countB s ⟨#[c]⟩) s=cut c s:=by
 apply UJ;rw [Lib.splitB_data]
 exact Cq c s.data.toList
theorem RB (c:UInt8) (l:List UInt8):∀x∈gP c l,x.length<=l.length:=by
 induction l with
 |nil=>intro x hx;simp [gP] at hx;subst hx;simp
 |cons b l ih=>
  intro x hx;unfold gP at hx;split at hx
  ·rcases qR.1 hx with rfl|h
   ·simp
   ·have:=ih x h;simp;omega
  ·cases h:gP c l with
   |nil=>exact absurd h (xL _ _)
   |cons y r=>
    rw [h] at hx;rcases qR.1 hx with rfl|h'
    ·have:=ih y (by rw [h];exact nV);simp;omega
    ·have:=ih x (by rw [h];exact pz _ h');simp;omega
theorem aip {c:UInt8} {s x:ByteArray} (h:x∈cut c s):x.size<=s.size:=by
 unfold cut at h;obtain ⟨l,hl,rfl⟩:=zM.1 h;have:=RB c _ l hl;rw [PH] at this;show l.toArray.size<=_;simpa using this
theorem aiq (c:UInt8) (l:List UInt8):((gP c l).map fun x=>x.length+1).sum=l.length+1:=by
 induction l with
 |nil=>simp [gP]
 |cons b l ih=>
  unfold gP;split
  ·simp [ih];omega
  ·cases h:gP c l with
   |nil=>exact absurd h (xL _ _)
   |cons y r=>rw [h] at ih;simp [xK] at ih |-;omega
theorem ze (m:Nat):(num m).size=Lib.nDigits m:=by
 unfold num;show (Lib.decDigits m).toArray.size=_;rw [List.size_toArray,Lib.decDigits_length]
theorem air {m:Nat} (hm:m<=999999):Lib.nDigits m<=6:=by
 by_cases h1:m<10
 ·rw [Lib.nDigits_small h1];omega
 by_cases h2:m<100
 ·rw [Lib.nDigits_unique 1 m aa aa];omega
 by_cases h3:m<1000
 ·rw [Lib.nDigits_unique 2 m aa aa];omega
 by_cases h4:m<10000
 ·rw [Lib.nDigits_unique 3 m aa aa];omega
 by_cases h5:m<100000
 ·rw [Lib.nDigits_unique 4 m aa aa];omega
 rw [Lib.nDigits_unique 5 m aa aa];omega
theorem ad7 {m k:Nat} (h:k<(num m).size):(num m)[k].toNat=48+m / 10 ^ ((num m).size - 1 - k) % 10:=by
 have hl:k<(Lib.decDigits m).length:=by rw [Lib.decDigits_length,<-ze];exact h
 show ((Lib.decDigits m)[k]'hl).toNat=_;rw [List.getElem_of_eq (Lib.decDigits_eq m) hl,List.getElem_map,List.getElem_range,ze];unfold Lib.dg;rw [Cb];generalize m / 10 ^ (Lib.nDigits m - 1 - k)=q;omega
theorem UK {m k L:Nat} (hL:L=Lib.nDigits m) (h:k<L):m / 10 ^ (L - (k+1))=10*(m / 10 ^ (L - k))+m / 10 ^ (L - 1 - k) % 10:=by
 have e1:L - (k+1)=L - 1 - k:=aa
 have e2:L - k=(L - 1 - k)+1:=aa
 rw [e1,e2,Nat.pow_succ,<-Nat.div_div_eq_div_mul];generalize m / 10 ^ (L - 1 - k)=q;omega
theorem AV (m:Nat) (hm:m<=999999) (w:World):Calls prog 21 #[.string (num m),iI 6] w fun e w'=>e=.returned (.tuple #[iI m,.bool true])/\Ext w w':=by
 obtain ⟨s,hs⟩:=ex (num m);have h1:1<=s.size:=by rw [<-hs,ze];exact Lib.nDigits_pos m
 have h6:s.size<=6:=by rw [<-hs,ze];exact air hm
 have HAT:Hid (∀(k:Nat) (h:k<s.size),s[k].toNat=48+m / 10 ^ (s.size - 1 - k) % 10):=by
  subst hs
  exact fun k h=>ad7 h
 have aZ:Hid (∀k,k<s.size->m / 10 ^ (s.size - (k+1))=10*(m / 10 ^ (s.size - k))+m / 10 ^ (s.size - 1 - k) % 10):=fun k h=>UK (by rw [<-hs,ze]) h
 have H0:Hid (m / 10 ^ (s.size - 0)=0):=by
  unfold Hid;rw [Nat.sub_zero,<-hs,ze]
  exact Nat.div_eq_of_lt (Lib.lt_pow_nDigits m)
 have HS:=hY hs;rw [hs];clear hs;go_enter func21,ntmps21;have ZX:((0:Int)<(s.size:Int)):=aa
 have h00:0<s.size:=aa
 have hmb:((s[0].toNat:Int)==45)=false:=by
  have:=HAT.u 0 h00;simp;omega
 have MT:¬((s.size:Int)<1):=aa
 have Km:¬((6:Int)<(s.size:Int)):=aa
 go_wp2
 go_loopw [8,9] (fun nv iv wr=>∃n k:Nat,nv=iI n/\iv=iI k/\k<=s.size/\Hid (n=m / 10 ^ (s.size - k))/\Ext w wr) (fun _ i _=>s.size - (intOf i).toNat)
 case atStart=>exact ⟨0,0,rfl,rfl,lJ _,H0.u.symm,xZ _⟩
 case round=>
  obtain ⟨n,k,rfl,rfl,hk,HN,hx⟩:=hrel;have rE:(0:Int)<=(k:Int):=aa
  have hnm:n<=m:=by rw [HN.u];exact Nat.div_le_self _ _
  by_cases bh:k<s.size
  ·have Zm:(k:Int)<(s.size:Int):=aa
   obtain ⟨b,hb⟩:∃b:Nat,s[k].toNat=b:=⟨_,rfl⟩;have hba:=HAT.u k bh;have FK:=aZ.u k bh;have kR:m / 10 ^ (s.size - 1 - k) % 10<10:=Nat.mod_lt _ ae;have aim:¬((b:Int)<48):=aa
   have ain:¬((57:Int)<(b:Int)):=aa
   have HM:Hid (10*n+(b - 48)=m / 10 ^ (s.size - (k+1))):=by
    unfold Hid;rw [FK,HN.u];omega
   have hn9:10*n+(b - 48)<=m:=by rw [HM.u];exact Nat.div_le_self _ _
   have u1:((b:Int) - 48) % 256=((b - 48:Nat):Int):=aa
   clear hba FK kR;go_wp2;go_roundw
   case rel=>exact ⟨10*n+(b - 48),k+1,az,az,aa,HM,hx⟩
   case measure=>simp [intOf];omega
  ·have Zm:¬((k:Int)<(s.size:Int)):=aa
   have anI:n=m:=by
    rw [HN.u,show s.size - k=0 by omega,Nat.pow_zero,Nat.div_one]
   subst anI;go_wp2_with fail;refine (bU n aa _).mono ?_;rintro e w5 ⟨rfl,bK⟩;have hq:(ByteArray.toList (num n)==s.toList)=true:=by rw [HS.u];exact beq_self_eq_true _
   go_wp2
   exact kr
theorem kW (m:Nat) (hm:m<=999999) (w:World):Calls prog 9 #[.string (num m)] w fun e w'=>e=.returned (.tuple #[iI m,.bool true])/\Ext w w':=by
 go_enter func9,ntmps9;go_wp2_with fail;refine (AV m hm _).mono ?_;rintro e w2 ⟨rfl,hx⟩;have hn:¬((m:Int)<0):=aa
 go_wp2;go_ret2
 exact ⟨rfl,hx⟩
end Go.Proofs.YtiajdbllccmokaaGreatDoor
