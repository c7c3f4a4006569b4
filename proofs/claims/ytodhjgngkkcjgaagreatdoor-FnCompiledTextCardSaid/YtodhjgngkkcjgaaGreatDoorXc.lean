import Derived.Test.YtodhjgngkkcjgaaGreatDoorXa
import Derived.Maps.Own
import Derived.Maps.OwnOps
import Derived.Maps.OwnSet
import Derived.Maps.Views
import Derived.Lib.LaidU8
import Derived.Lib.AppendStr
import Derived.Laws.IdiomStrings
import Derived.WalkSpells
namespace Go.Proofs.YtodhjgngkkcjgaaGreatDoor
open Go.ChangeShapes Go.WideShapes Go.ChangeAt Go.RowKit Go.Deep Go.Proofs.Tryz
set_option linter.unusedVariables false
set_option linter.unusedSimpArgs false
set_option maxRecDepth 100000
set_option maxHeartbeats 16000000
open Go.Maps
theorem QE:Keyed prog 3:=int_keyed FW
theorem abz (w:World):(zeroValue 4).run prog w=.ok (.bool false) w:=af
theorem xw {x:Int} (h:po x):(Lit.int .i64 x).wf=true:=by
 simpa [Lit.wf,IntKind.min,IntKind.max,IntKind.signed,IntKind.bits,po] using h
theorem zE {H:Type} {P:Program} {e:TypeId} (he:P.underlying e=some .bool) {v:Value} {z:DataW H ×List MemPlace} (h:plainElem P e v=some z):∃x,v=.bool x/\z=(.lit (.bool x),[]):=by
 unfold plainElem at h;rw [he] at h
 cases v<;>simp at h
 exact ⟨_,rfl,h.symm⟩
def Seen (w:World) (b n:Nat) (p:Int->Bool):Prop:=
 ∃D:DataW Unit,w.ownsMap prog 3 (plainElem prog 4) b n D/\IsMap D/\∀x,po x->D.atKey (.int .i64 x) (.lit (.bool false))=.lit (.bool (p x))
theorem Seen.made (w:World):Seen (w.alloc (.map #[] 0)) w.heap.size 0 (fun _=>false):=
 ⟨.map [],World.ownsMap_made _ _ _ _,isMap_empty,fun _ _=>rfl⟩
theorem Seen.lt {w:World} {b n:Nat} {p:Int->Bool} (h:Seen w b n p):b<w.heap.size:=let ⟨_,h,_,_⟩:=h;h.lt
theorem Seen.look {w:World} {b n:Nat} {p:Int->Bool} (h:Seen w b n p) {x:Int} (hx:po x):
  (Instr.lookup 123 (.map (some b)) (iI x) false).run prog w=.ok (.bool (p x)) w:=by
 obtain ⟨D,ho,_,hp⟩:=h;obtain ⟨v,ps,abo,hv⟩:=ho.lookup QE underlying123 (abz w) (plainElem_bool FV false) (keyOf_int_mk FW (xw hx));rw [hp x hx] at hv;obtain ⟨c,rfl,hc⟩:=zE FV hv;have sW:p x=c:=by
  injection hc with hc _;injection hc with hc;injection hc
 rw [sW]
 exact abo
theorem Uc {w:World} {b n:Nat} {p:Int->Bool} {ops:Array Oper} {rest:List Oper} {o:Oper} {a:Act} {Q:Exit->Act->World->Prop}
  (hg:o.guard=none) (m x v:Operand) (VQ:o.op=Op.mapUpdate 123 m x v) (h:Seen w b n p) (hm:a.eval m=.map (some b)) (hn:n<=2000000000000) {y:Int} (hx:a.eval x=iI y) (hv:a.eval v=.bool true) (hy:po y)
  (hK:∀w',Seen w' b (n+1) (fun z=>z==y||p z)->w.grownBy w' (some b)->wpList prog ops Q rest (a.put o.dst undef) w'):wpList prog ops Q (o::rest) a w:=by
 obtain ⟨D,ho,hD,hp⟩:=h;refine wpList_mapUpdate_own w hg m x v 123 VQ 3 4 QE underlying123 _ b n D hm ho nc _ _ _ hx hv (keyOf_int_mk FW (xw hy)) _ [] (plainElem_bool FV true) ?_;intro w' ho' Bc;refine hK w' ⟨_,ho',hD.put _ _,fun z hz=>?_⟩ Bc
 by_cases e:z=y
 ·subst e;rw [atKey_put_same hD (by simp [WideAt.IsKeyLit])];simp
 ·rw [atKey_put_other (by intro h;injection h with _ h;exact e h),hp z hz];simp [e]
def u8c (x:Int):List Value:=[.int .u8 x]
abbrev Gn (xs:List Int):List Value:=xs.flatMap u8c
theorem VR (x:Int):(u8c x).length=1:=rfl
theorem byte_at {w:World} {B n i:Nat} {A:OA} {xs:List Int} (h:Rd w B 1 A n (Gn xs)) (hi:i<n):
  ∃b o x,A=some ⟨b,o,none⟩/\b<B/\xs[i]?=some x/\w.cell? (aA b (o+i))=some (.int .u8 x):=by
 obtain ⟨b,o,x,e,hb,hx,hc⟩:=kQ VR aa h hi
 exact ⟨b,o,x,e,hb,hx,by have:=hc 0 _ rfl;rwa [vT,oh] at this⟩
theorem Ud {H:Type} {enc:TypeId ×Value->H} {w:World} {spare:Nat->Bool} {held:Bool} (n:Nat) (cs:List Value) (x:DataW H ×List MemPlace) (h:DataW.trod enc prog w 0 spare held n 5 cs=some x):
  ∃g:Int,cs=u8c g/\(0<=g/\g<=255):=by
 obtain ⟨k,h1,_,h2⟩:=DataW.trod_int NH h
 exact ⟨k,h1,wf_u8 h2⟩
theorem cellsByte:prog.cellsOf 5=1:=af
theorem QF {H:Type} {enc:TypeId ×Value->H} {w:World} {spare:Nat->Bool} {held:Bool} {base:Nat} {v:Value} {d:DataW H} {p:List MemPlace} (hv:Value.okWide prog w .any base 22 v)
  (h:DataW.Trod enc prog w 0 spare held 22 v d p):
  ∃(A:OA) (n c:Nat) (bs:List Int),v=.slice A n c/\n<=c/\c<=maxLen/\Rd w w.heap.size 1 A n (Gn bs)/\∀g∈bs,0<=g/\g<=255:=by
 obtain ⟨a,len,cap,rfl⟩:=okWide_slice CI hv;obtain ⟨n,hn⟩:=h;obtain ⟨A,n,c,gs,e,r⟩:=open_row (Pg:=fun g=>0<=g/\g<=255) VR aa CI cellsByte Ud hn;simp [Value.cells] at e;obtain ⟨rfl,rfl,rfl⟩:=e
 exact ⟨_,_,_,gs,rfl,r⟩
def dQ (w:World) (g:Nat):Prop:=
 ∃(A:OA) (n c i:Nat) (h:Int) (bs:List Int),au w g 74 #[.slice A n c,iI i,iI h]/\i<=n/\n<=1048576/\Rd w g 1 A n (Gn bs)
theorem dQ.lt {w:World} {g:Nat} (h:dQ w g):g<w.heap.size:=by
 obtain ⟨A,n,c,i,hh,bs,hB,_⟩:=h
 exact hB.lt
theorem dQ.ext {w w':World} {g:Nat} (h:dQ w g) (hx:Ext w w'):dQ w' g:=by
 have hl:=h.lt;obtain ⟨A,n,c,i,hh,bs,hB,h1,h2,h3⟩:=h
 exact ⟨A,n,c,i,hh,bs,hB.ext hx,h1,h2,h3.up hx aa⟩
theorem dQ.grown {w w':World} {g:Nat} {row:Option Nat} (h:dQ w g) (hg:w.grownBy w' row) (hr:∀k,row=some k->g<k):dQ w' g:=by
 have hl:=h.lt;obtain ⟨A,n,c,i,hh,bs,hB,h1,h2,h3⟩:=h
 exact ⟨A,n,c,i,hh,bs,hB.grown hg (fun k hk=>oM (hr k hk)),h1,h2,h3.grown hg aa (fun k hk=>oM (hr k hk))⟩
theorem Ext.gr {w w':World} (h:Ext w w') (row:Option Nat):w.grownBy w' row:=⟨h.os,h.tape,h.output,h.size,fun k hk _=>h.block k hk⟩
theorem cF {w w':World} {g:Nat} (h:w.grownBy w' (some g)) (i:Nat) (u:Value):w.grownBy (w'.setCell (aA g i) u) (some g):=
 ⟨h.os,h.tape,h.output,rH,fun k hk hne=>(pa w' ⟨g,i,none⟩ u k (fun e=>hne dU)).trans (h.block k hk hne)⟩
theorem Bt {w w':World} {row:Option Nat} (h:w.grownBy w' row) (n:Nat):w.grownBy (w'.drewN n) row:=⟨h.os,h.tape,h.output,h.size,h.block⟩
theorem Rd.ext' {w:World} {B size n:Nat} {A:OA} {xs:List Value} (h:Rd w B size A n xs) (w':World) (hx:Ext w w') (hB:B<=w.heap.size):Rd w' B size A n xs:=h.up hx hB
theorem abA (x:Int):0<=bits .and .i64 x 255/\bits .and .i64 x 255<=255:=by
 have e:bits .and .i64 x 255=IntKind.i64.wrap ((BitVec.ofInt 64 x &&& BitVec.ofInt 64 255).toNat:Int):=rfl;have h1:(BitVec.ofInt 64 x &&& BitVec.ofInt 64 255).toNat<=255:=by
  rw [BitVec.toNat_and]
  exact lK Nat.and_le_right ae
 rw [e];generalize (BitVec.ofInt 64 x &&& BitVec.ofInt 64 255).toNat=m at h1;have:IntKind.i64.wrap (m:Int)=m:=by rw [IntKind.wrap_i64];omega
 omega
theorem Gp {P:Prop} (h:P:=by
 go_wp2;go_ret
 exact ⟨rfl,⟨A,n,c,0,_,bs,au.new _ _ _,lJ _,hn,h.up ((xZ w).alloc _) (lI _)⟩,xx⟩):P:=h
theorem CM (A:OA) (n c:Nat) (bs:List Int) (w:World) (h:Rd w w.heap.size 1 A n (Gn bs)) (hn:n<=1048576):
  Calls prog 31 #[.slice A n c] w fun e w'=>e=.returned (.pointer (some ⟨w.heap.size,0,none⟩))/\dQ w' w.heap.size/\Ext w w':=by
 go_enter func31,ntmps31;go_wp2
 go_loop [3,4] (fun h i=>∃(k:Nat) (hv:Int),k<=n/\i=iI k/\h=iI hv) (fun _ i=>n - (intOf i).toNat)
 case atStart=>exact ⟨0,_,lJ _,rfl,rfl⟩
 case round=>
  obtain ⟨k,hv,hk,rfl,rfl⟩:=hrel
  by_cases ba:k<n
  ·by_cases h4:k<4000
   ·obtain ⟨b,o,x,rfl,hb,hx,h0⟩:=byte_at h ba;clear hx;go_wp2;go_round
    case rel=>exact ⟨k+1,_,aa,az,rfl⟩
    case measure=>simp [intOf];omega
   ·exact Gp
  ·exact Gp
theorem pG (g:Nat) (w:World) (h:dQ w g):
  Calls prog 74 #[.pointer (some ⟨g,0,none⟩)] w fun e w'=>∃x:Int,e=.returned (iI x)/\(0<=x/\x<=255)/\dQ w' g/\w.grownBy w' (some g):=by
 obtain ⟨A,n,c,i,hh,bs,hB,hi,hn,hr⟩:=h;have b2:=hB.ck 2;have f2:=hB.frozen 2;go_enter func74,ntmps74;go_wp2;generalize wrap64 (wrap64 (hh*6364136223846793005)+1442695040888963407)=h2;have jW:=cF (kO w (some g)) 2 (iI h2);have jk:=hr.grown jW (oM hB.lt) (fun k hk=>ay);have xQ:au (w.setCell (aA g 2) (iI h2)) g 74 #[.slice A n c,iI i,iI h2]:=hB.aU 2 (iI h2);clear b2 f2 hB hr;generalize w.setCell (aA g 2) (iI h2)=W at*
 have b0:=xQ.ck 0;have b1:=xQ.ck 1;have b2:=xQ.ck 2;have f1:=xQ.frozen 1
 by_cases ba:i<n
 ·obtain ⟨b,o,x,rfl,hb,hx,h0⟩:=byte_at jk ba;clear hx;have hd:decide ((i:Int)<(n:Int))=true:=ai
  have KR:decide (i<n)=true:=ai
  go_quiet (fail);go_wp2;go_quiet (fail);go_wp2;go_quiet (fail);go_wp2;go_ret;refine ⟨_,rfl,abA _,⟨_,n,c,i+1,h2,bs,au.aU (w:=W.drewN _) xQ 1 _,aa,hn,?_⟩,cF (Bt jW _) _ _⟩
  exact (jk.ext' _ (show Ext W _ by exact xx) (yw xQ.lt)).grown (cF (kO _ (some g)) 1 _) (yw xQ.lt) (fun k hk=>by injection hk;omega)
 ·have hd:decide ((i:Int)<(n:Int))=false:=ai
  have KR:decide (i<n)=false:=ai
  go_quiet (fail);go_wp2;go_quiet (fail);go_wp2;go_ret
  exact ⟨_,rfl,abA _,⟨A,n,c,i,h2,bs,xQ,hi,hn,jk.up (show Ext W _ by exact xx) (yw xQ.lt)⟩,by first|exact Bt jW _|exact Bt (Bt jW _) _⟩
theorem aT (g:Nat) (n:Int) (w:World) (h:dQ w g) (hn: -9223372036854775808<=n/\n<=256):
  Calls prog 51 #[.pointer (some ⟨g,0,none⟩),iI n] w fun e w'=>∃x:Int,e=.returned (iI x)/\(0<=x/\(0<n->x<n)/\(n<=0->x=0))/\dQ w' g/\w.grownBy w' (some g):=by
 obtain ⟨hI1,hI2⟩:=hn;go_enter func51,ntmps51
 by_cases h0:n<=0
 ·go_wp2;go_ret
  exact ⟨0,rfl,⟨aa,fun _=>aa,fun _=>rfl⟩,h,kO _ _⟩
 have h0':0<n:=aa
 have hz:¬n=0:=aa
 have VS:¬n= -1:=aa
 go_wp2_with fail;refine (pG g _ h).mono ?_;rintro e w1 ⟨x,rfl,hx,qJ,Be⟩;obtain ⟨cD,aK⟩:=hx;go_wp2;go_ret;refine ⟨_,rfl,?_,qJ,Be⟩
 exact ⟨TU _ hz,fun _=>TF _ h0',fun h=>absurd h aa⟩
theorem gU (g:Nat) (n:Int) (w:World) (h:dQ w g) (hn: -9223372036854775808<=n/\n<=256):
  Calls prog 91 #[.pointer (some ⟨g,0,none⟩),iI n] w fun e w'=>∃b:Bool,e=.returned (.bool b)/\dQ w' g/\w.grownBy w' (some g):=by
 go_enter func91,ntmps91;go_wp2_with fail;refine (aT g n _ h hn).mono ?_;rintro e w1 ⟨x,rfl,hx,qJ,Be⟩;go_wp2;go_ret
 exact ⟨_,rfl,qJ,Be⟩
theorem Gq {P:Prop} (h:P:=by
 refine ⟨hr.1,fun h0=>?_⟩;obtain ⟨b,o,e,hb,hc⟩:=hr.2 h0;have hgb:=hA b o e
 exact ⟨b,o,e,qD hb Be.size,fun q u hu=>(uB (Be.block b hb (fun e=>by injection e;omega))).trans (hc q u hu)⟩):P:=h
theorem Gs {P:Prop} (h:P:=by
 have HY:=hY (lG hy);clear hy;go_wp2;go_ret
 exact ⟨y,rfl,HY.u,qJ,Be⟩):P:=h
theorem dY (g:Nat) (A:OA) (n c:Nat) (xs:List Int) (w:World) (h:dQ w g) (hr:Rd w w.heap.size 1 A n (aD xs)) (hA:∀b o,A=some ⟨b,o,none⟩->g<b) (hn:0<n/\n<=256):
  Calls prog 80 #[.pointer (some ⟨g,0,none⟩),.slice A n c] w fun e w'=>∃x:Int,e=.returned (iI x)/\x∈xs/\dQ w' g/\w.grownBy w' (some g):=by
 obtain ⟨Tk,jX⟩:=hn;go_enter func80,ntmps80;go_wp2_with fail;refine (aT g n _ h aa).mono ?_;rintro e w1 ⟨x,rfl,⟨cD,aK,_⟩,qJ,Be⟩;obtain ⟨j,rfl⟩:=lD cD;have hj:j<n:=cN
 clear aK;have kG:Rd w1 w1.heap.size 1 A n (aD xs):=by
  exact Gq
 obtain ⟨b,o,y,rfl,hb,hy,r0⟩:=du kG hj
 exact Gs
def NQ (l:List (List UInt8)):DataW Unit:=.slice (l.map fun s=> .lit (.string s)) []
theorem Lf {P:Program} {w:World} {name:String} {g:Nat} {t e:TypeId} {l:List (List UInt8)} (hn:P.globalNamed name=some g) (hy:(P.globals[g]?).map (·.type)=some t)
  (ht:P.underlying t=some (.slice e)) (he:P.underlying e=some .string) (hc:P.cellsOf e=1) (hl:0<l.length) (h:Lib.VarReads P w name (NQ l)):
  ∃R o c,w.cell? (aA g 0)=some (.slice (some ⟨R,o,none⟩) l.length c)/\∀j,j<l.length->w.cell? (aA R (o+j))=some (.string ⟨(l.getD j []).toArray⟩):=by
 obtain ⟨g',t',cs,fuel,p,hg,hty,aj8,hd⟩:=h;obtain rfl:=kx (hn.symm.trans hg);obtain rfl:=kx (hy.symm.trans hty);rcases DataW.trod_slice ht hd with ⟨_,hx⟩|⟨a,len,cap,el,rs,m,rfl,mW,hx,_,hlc,_,hel,aos,Yu,_⟩
 ·cases hx
 have e0:=mr Prod.fst hx;simp only [NQ,DataW.slice.injEq] at e0;obtain ⟨eE,eR⟩:=e0;have hlen:len=l.length:=by
  have:=mr List.length eE;simp at this;omega
 have Gu:∀i,i<l.length->w.cell? (a.add i)=some (.string ⟨(l.getD i []).toArray⟩):=by
  intro i hi;have h1:=aos i aa;rw [hc] at h1;obtain ⟨b,hb⟩:∃b,el[i]?=some b:=⟨el[i]' aa,lB aa⟩;rw [hb] at h1;obtain ⟨ce,hce,hte⟩:=Option.bind_eq_some_iff.1 h1;obtain ⟨z,hz,NJ,_⟩:=DataW.trod_string he hte;have ky:b.1=.lit (.string (l.getD i [])):=by
   have:=mr (·[i]?) eE;simp [hb,hi,List.getD] at this;have e2:l.getD i []=l[i]:=by simp [List.getD,lB hi]
   rw [e2]
   exact this.symm
  rw [NJ] at ky;simp only [DataW.lit.injEq,Lit.string.injEq] at ky;obtain ⟨_,_,sW⟩:=World.cells?_some hce;have:=sW 0 aa;rw [hz] at this;simp only [vT] at this;have e1:(a.add i).add 0=a.add i:=by simp [Addr.add]
  rw [e1] at this;rw [this,<-ky];rfl
 obtain ⟨R,o,sR⟩:=a;obtain rfl:sR=none:=by
  have h00:=Gu 0 hl;have:(Addr.add ⟨R,o,sR⟩ 0)=⟨R,o,sR⟩:=by simp [Addr.add]
  rw [this] at h00
  exact Go.Proofs.cell_spot h00
 refine ⟨R,o,cap,?_,fun j hj=>?_⟩
 ·rw [World.var?_cell hg aj8 0,<-Array.getElem?_toList,mW,hlen];rfl
 ·have:=Gu j hj
  by_cases h0:j=0
  ·subst h0;simpa [Addr.add] using this
  ·simpa [Addr.add,h0] using this
theorem VT {w:World} {a:Addr} {v:Value} (h:w.cell? a=some v):a.block<w.heap.size:=by
 rcases od a.block w.heap.size with h'|h'
 ·exact h'
 ·unfold World.cell? at h;rw [yk h'] at h
  cases h
def gnl:List (List UInt8):=[[],[120],[121],[122],[104],[115],[115,100],[116],[116,100],[99,120],[99,122],[115,119,97,112],[99,99,120]]
def GN (w:World):Prop:=∃R o c,w.cell? (aA 0 0)=some (.slice (some ⟨R,o,none⟩) 13 c)/\∀j,j<13->w.cell? (aA R (o+j))=some (.string ⟨(gnl.getD j []).toArray⟩)
theorem GN.ext {w w':World} (h:GN w) (hx:Ext w w'):GN w':=by
 obtain ⟨R,o,c,h1,h2⟩:=h
 exact ⟨R,o,c,(hx.cell (VT h1)).trans h1,fun j hj=>(hx.cell (VT (h2 j hj))).trans (h2 j hj)⟩
theorem QG {w:World} (h:Lib.VarReads prog w "loop.example/g00506/impl.gateNames" (NQ gnl)):GN w:=
 Lf (g:=0) af af underlying37 zA af ae h
def LV (s:ByteArray):List Value:=[.string s]
abbrev df (xs:List ByteArray):List Value:=xs.flatMap LV
theorem CN (s:ByteArray):(LV s).length=1:=rfl
theorem my {w:World} {B n i:Nat} {A:OA} {xs:List ByteArray} (h:Rd w B 1 A n (df xs)) (hi:i<n):
  ∃b o x,A=some ⟨b,o,none⟩/\b<B/\xs[i]?=some x/\w.cell? (aA b (o+i))=some (.string x):=by
 obtain ⟨b,o,x,rfl,hb,hx,hc⟩:=kQ CN aa h hi;have:=hc 0 _ rfl;rw [vT,oh] at this
 exact ⟨b,o,x,rfl,hb,hx,this⟩
theorem agj (xs:List ByteArray):∀u∈df xs,u.oneCell'=true:=by
 intro u hu;obtain ⟨x,_,hx⟩:=vN.1 hu;simp [LV] at hx;subst hx;rfl
theorem agk:(prog.info? 9).map (fun i=>(i.zero,i.size,i.bytes))=some (some (.string ⟨#[]⟩),1,16):=af
theorem NR {w0 w:World} {ops:Array Oper} {rest:List Oper} {o:Oper} {a:Act} {Q:Exit->Act->World->Prop} (fX:o.guard=none) (s x:Operand)
  (ho:aO o s x 37) (v:Value) (n:Nat) (xs:List ByteArray) (hs:a.eval s=v)
  (bj:w.ownsRow w0.heap.size 9 1 v n (df xs)) (cD:Ext w0 w) (A:OA) (m c:Nat) (ys:List ByteArray) (hx:a.eval x=.slice A m c) (hr:Rd w w.heap.size 1 A m (df ys)) (hn:n+m<=2000000000000)
  (h:aH w0 w v 9 1 (n+m) (df (xs++ys)) (wpList prog ops Q rest) a o):wpList prog ops Q (o::rest) a w:=by
 obtain ⟨i0,hi,fH,iV,kz⟩:=jH agk
 exact fp fX s x _ ho 9 i0 _ 1 16 underlying37 hi fH iV kz rfl ae ae v n _ hs bj cD A m c _ hx hr (agj ys) hn (fun v' w' h1=>h v' w' (by unfold df;rw [lR];exact h1))
theorem Gv {w0 w:World} {ops:Array Oper} {rest:List Oper} {o:Oper} {a:Act} {Q:Exit->Act->World->Prop} (fX:o.guard=none) (s x:Operand)
  (ho:aO o s x 37) (v:Value) (n:Nat) (xs:List ByteArray) (hs:a.eval s=v)
  (bj:w.ownsRow w0.heap.size 9 1 v n (df xs)) (cD:Ext w0 w) (y:ByteArray) (e:TypeId) (b:Nat) (hx:a.eval x=.slice (some ⟨b,0,none⟩) 1 1) (sg:b=w.heap.size) (hn:n<=1800000000000)
  (h:∀v' w',w'.ownsRow w0.heap.size 9 1 v' (n+1) (df (xs++[y]))->Ext w0 w'->(w.alloc (cO #[.string y] e)).grownBy w' v.ownBlock->(v'.ownBlock=v.ownBlock\/v'.ownBlock=some (w.heap.size+1))->wpList prog ops Q rest (a.put o.dst v') w'):wpList prog ops Q (o::rest) a (w.alloc (cO #[.string y] e)):=by
 subst sg;refine NR fX s x ho v n xs hs (bj.alloc _) (cD.alloc _) _ 1 1 [y] hx (dZ w _ e 1 _ (by simp [LV]) (by simp [LV])) aa ?_;intro v' w' h1 h2 h3 h4
 exact h v' w' h1 h2 h3 (sU h4)
theorem NS (a b:ByteArray):Lib.strCells (a++b)=Lib.strCells a++Lib.strCells b:=by
 unfold Lib.strCells;rw [Qp,Nr,qF]
theorem infoByte:(prog.info? 5).map (fun i=>(i.zero,i.size,i.bytes))=some (some (.int .u8 0),1,1):=af
theorem Gw {w0 w:World} {ops:Array Oper} {rest:List Oper} {o:Oper} {a:Act} {Q:Exit->Act->World->Prop} (fX:o.guard=none) (sl x:Operand)
  (ho:o.op=.call {callee:=.builtin .append,args:=#[sl,x],argTypes:=#[22,9]}) (v:Value) (s:ByteArray) (hs:a.eval sl=v)
  (bj:w.ownsRow w0.heap.size 5 1 v s.size (Lib.strCells s)) (cD:Ext w0 w) (t:ByteArray) (hx:a.eval x=.string t) (hn:s.size+t.size<=2000000000000)
  (h:∀v' w',w'.ownsRow w0.heap.size 5 1 v' (s++t).size (Lib.strCells (s++t))->Ext w0 w'->wpList prog ops Q rest (a.put o.dst v') w'):wpList prog ops Q (o::rest) a w:=by
 obtain ⟨i0,hi,fH,iV,kz⟩:=jH infoByte;refine Lib.wpList_append_own_string (w:=w) fX sl x _ _ ho w0.heap.size 5 i0 CI zA hi fH iV kz v _ _ hs bj t hx nc aa cD.size ?_;intro v' w' h1 h2 _;refine h v' w' ?_ (Below.grown cD h2 cD.size (fun k hk=>(bj.lt k hk).1));rw [lL,NS]
 exact h1
theorem abB {w:World} {B:Nat} {v:Value} {s:ByteArray} (bj:w.ownsRow B 5 1 v s.size (Lib.strCells s)):(convert 22 9 v).run prog w=.ok (.string s) w:=by
 obtain ⟨A,c,rfl,hr⟩:=ak bj;rcases A with _|ad
 ·have h0:s.size=0:=by
   rcases DF s.size with h|h
   ·exact h
   ·obtain ⟨b,o,h,_⟩:=hr.2 h
    cases h
  have hs:s=⟨#[]⟩:=by
   apply DM
   exact Array.eq_empty_of_size_eq_zero h0
  subst hs;refine (run_convert_bytes_string w _ _ _ _ _ _ CI NH zA).trans ?_;rfl
 ·have hc:∀j (hj:j<s.data.toList.length),w.cell? (ad.add j)=some (.int .u8 ((s.data.toList[j]).toNat:Int)):=by
   intro j hj;have hp:0<s.size:=by
    have:s.size=s.data.toList.length:=rF
    omega
   obtain ⟨b,o,h,_,hc⟩:=hr.2 hp;injection h with h;subst h;have:=hc j (.int .u8 ((s.data.toList[j]).toNat:Int)) (by unfold Lib.strCells;rw [rY,lB hj];rfl)
   by_cases h0:j=0
   ·subst h0;exact this
   ·simpa [Addr.add,h0] using this
  have hl:s.size=s.data.toList.length:=rF
  have:=run_convert_bytes_back w 22 9 5 ad c s.data.toList CI NH zA hc;rw [hl,this]
theorem LW {n:Int} (h: -9223372036854775808<=n/\n<=9223372036854775807):IntKind.i64.wrap n=n/\wrap64 n=n:=⟨lH _ aa,bk⟩
theorem NT (g:Nat) (n:Int) (w:World) (h:dQ w g) (hn:256<n/\n<=4611686018427387904):
  Calls prog 51 #[.pointer (some ⟨g,0,none⟩),iI n] w fun e w'=>∃x:Int,e=.returned (iI x)/\(0<=x/\x<n)/\dQ w' g/\w.grownBy w' (some g):=by
 obtain ⟨jX,DP⟩:=hn;have h0:¬n<=0:=aa
 have h1:¬n<=256:=aa
 have hz:¬n=0:=aa
 have VS:¬n= -1:=aa
 have h0':0<n:=aa
 go_enter func51,ntmps51;go_wp2_with fail;refine (pG g _ h).mono ?_;rintro e w1 ⟨x,rfl,⟨x0,x1⟩,qJ,Be⟩;go_wp2_with fail;refine (pG g _ qJ).mono ?_;rintro e w2 ⟨y,rfl,⟨y0,y1⟩,zm,jW⟩;go_wp2_with fail;refine (pG g _ zm).mono ?_;rintro e w3 ⟨z,rfl,⟨z0,z1⟩,hc3,KS⟩;go_wp2_with fail;refine (pG g _ hc3).mono ?_;rintro e w4 ⟨u,rfl,⟨u0,u1⟩,hc4,Fa⟩;obtain ⟨a1,a2⟩:=LW (n:=x*16777216) aa;obtain ⟨b1,b2⟩:=LW (n:=y*65536) aa;obtain ⟨c1,c2⟩:=LW (n:=x*16777216+y*65536) aa;obtain ⟨d1,d2⟩:=LW (n:=z*256) aa;obtain ⟨e1,e2⟩:=LW (n:=x*16777216+y*65536+z*256) aa;obtain ⟨f1,f2⟩:=LW (n:=x*16777216+y*65536+z*256+u) aa;have hs0:0<=x*16777216+y*65536+z*256+u:=aa
 have hG:=hY (((Be.trans jW).trans KS).trans Fa);clear Be jW KS Fa qJ zm hc3;go_wp2;go_ret;refine ⟨_,rfl,?_,hc4,hG.u⟩
 first
  |exact ⟨TU _ hz,TF _ h0'⟩
  |(rw [Ni hs0];exact ⟨TU _ hz,TF _ h0'⟩)
theorem Bu (g:Nat) (n:Int) (w:World) (h:dQ w g) (hn: -9223372036854775808<=n/\n<=4611686018427387904):
  Calls prog 51 #[.pointer (some ⟨g,0,none⟩),iI n] w fun e w'=>∃x:Int,e=.returned (iI x)/\(0<=x/\(0<n->x<n)/\(n<=0->x=0))/\dQ w' g/\w.grownBy w' (some g):=by
 by_cases h1:n<=256
 ·exact aT g n w h ⟨hn.1,h1⟩
 ·refine (NT g n w h ⟨aa,hn.2⟩).mono ?_;rintro e w' ⟨x,rfl,⟨x0,x1⟩,hc,hg⟩
  exact ⟨x,rfl,⟨x0,fun _=>x1,fun h2=>absurd h2 aa⟩,hc,hg⟩
theorem Ue (g:Nat) (A:OA) (n c:Nat) (xs:List ByteArray) (w:World) (h:dQ w g) (hr:Rd w w.heap.size 1 A n (df xs)) (hA:∀b o,A=some ⟨b,o,none⟩->g<b) (hn:0<n/\n<=256):
  Calls prog 52 #[.pointer (some ⟨g,0,none⟩),.slice A n c] w fun e w'=>∃x:ByteArray,e=.returned (.string x)/\x∈xs/\dQ w' g/\w.grownBy w' (some g):=by
 obtain ⟨Tk,jX⟩:=hn;go_enter func52,ntmps52;go_wp2_with fail;refine (aT g n _ h aa).mono ?_;rintro e w1 ⟨x,rfl,⟨cD,aK,_⟩,qJ,Be⟩;obtain ⟨j,rfl⟩:=lD cD;have hj:j<n:=cN
 clear aK;have kG:Rd w1 w1.heap.size 1 A n (df xs):=by
  exact Gq
 obtain ⟨b,o,y,rfl,hb,hy,r0⟩:=my kG hj
 exact Gs
theorem Yz {a b c:World} {row:Option Nat} (h:a.grownBy b row) (k:b.drew.grownBy c row):a.grownBy c row:=h.trans ⟨k.os,k.tape,k.output,k.size,k.block⟩
theorem Uf (a y b:ByteArray) (ha:a.size<=100000) (hy:y.size<=100000) (hb:b.size<=100000):
  (∀w,(Op.stringOp .add a y).run prog w=.ok (.string (a++y)) w)/\(∀w,(Op.stringOp .add (a++y) b).run prog w=.ok (.string (a++y++b)) w):=
 ⟨fun w=>iR w _ _ aa,fun w=>iR w _ _ (by rw [lL];omega)⟩
theorem Gx {P:Prop} (h:P:=by
 by_cases h0:y=0
 ·subst h0;have Bf:=hY YA;have si:=hY KT;clear YA KT;have HP:Hid (Calls prog 52 #[.pointer (some ⟨g,0,none⟩),.slice A n c] w2.drew fun e w'=>∃x:ByteArray,e=.returned (.string x)/\x∈xs/\dQ w' g/\w2.drew.grownBy w' (some g)):=
   Ue g A n c xs _ (HC.u.ext (xZ w2).drew) (HR.u.ext (xZ w2).drew) HA.u HN.u
  go_wp2
  go_region_held3 (fun w'=>True)
   (first|go_keep|trivial)
   (first|(go_at_call 52;(with_reducible refine HP.u.mono ?_);rintro e w5 ⟨z,rfl,hz,kH,hZ⟩;have hzz:=HZ.u z hz;obtain ⟨j1,j2⟩:=Uf (s.extract 0 j) z (s.extract j s.size) (oM Bf.u) aa (oM si.u)))
  go_wp2;go_ret
  exact ⟨_,rfl,by rw [lL,lL];have:=Bf.u;have:=si.u;omega,kH,Yz HG.u hZ⟩
 ·have mg:(y==0)=false:=by simp [h0]
  by_cases h1:y=1
  ·subst h1;go_wp2;go_ret
   exact ⟨_,rfl,aa,HC.u,HG.u⟩
  ·have dw:(y==1)=false:=dC
   go_wp2;go_ret
   exact ⟨_,rfl,aa,HC.u,HG.u⟩):P:=h
theorem Gy {P:Prop} (h:P:=by
 refine ⟨kG.1,fun h0=>?_⟩;obtain ⟨b,o,e,hb,hc⟩:=kG.2 h0;have hgb:=HA.u b o e
 exact ⟨b,o,e,qD hb jW.size,fun q u hu=>(uB (jW.block b hb (fun e=>by injection e;omega))).trans (hc q u hu)⟩):P:=h
theorem Gz {P:Prop} (h:P:=by
 refine ⟨hr.1,fun h0=>?_⟩;obtain ⟨b,o,e,hb,hc⟩:=hr.2 h0;have hgb:=HA.u b o e
 exact ⟨b,o,e,qD hb Be.size,fun q u hu=>(uB (Be.block b hb (fun e=>by injection e;omega))).trans (hc q u hu)⟩):P:=h
theorem agl (g:Nat) (s:ByteArray) (A:OA) (n c:Nat) (xs:List ByteArray) (w:World) (hs:s.size<=250) (h:dQ w g) (hr:Rd w w.heap.size 1 A n (df xs)) (hA:∀b o,A=some ⟨b,o,none⟩->g<b) (hn:0<n/\n<=256) (hz:∀x∈xs,x.size<=1000):
  Calls prog 32 #[.pointer (some ⟨g,0,none⟩),.string s,.slice A n c] w fun e w'=>∃t:ByteArray,e=.returned (.string t)/\t.size<=10000/\dQ w' g/\w.grownBy w' (some g):=by
 have HN:=hY hn;have HZ:=hY hz;have HA:=hY hA;clear hn hz hA;go_enter func32,ntmps32;go_wp2_with fail;refine (aT g ((s.size:Int)+1) _ h aa).mono ?_;rintro e w1 ⟨x,rfl,⟨cD,aK,_⟩,qJ,Be⟩;obtain ⟨j,rfl⟩:=lD cD;have hj:j<=s.size:=cN
 clear aK;have kG:Rd w1 w1.heap.size 1 A n (df xs):=by
  exact Gz
 clear hr;go_wp2_with fail;refine (aT g 6 _ qJ aa).mono ?_;rintro e w2 ⟨y,rfl,⟨mg,dw,_⟩,zm,jW⟩;have jk:Rd w2 w2.heap.size 1 A n (df xs):=by
  exact Gy
 clear kG dw mg;have HR:=hY jk;have HC:=hY zm;have HG:=hY (Be.trans jW);clear jk zm Be jW qJ h;have hji:(j:Int)<=(s.size:Int):=aa
 have hjs:(0:Int)<=(j:Int):=aa
 have YA:(s.extract 0 j).size<=250:=na
 have KT:(s.extract j s.size).size<=250:=na
 exact Gx
theorem Lg (g:Nat) (s:ByteArray) (A:OA) (n c:Nat) (xs:List ByteArray) (w:World) (hs:s.size<=90000) (h:dQ w g) (hr:Rd w w.heap.size 1 A n (df xs)) (hA:∀b o,A=some ⟨b,o,none⟩->g<b) (hn:0<n/\n<=256) (hz:∀x∈xs,x.size<=1000):
  Calls prog 32 #[.pointer (some ⟨g,0,none⟩),.string s,.slice A n c] w fun e w'=>∃t:ByteArray,e=.returned (.string t)/\t.size<=200000/\dQ w' g/\w.grownBy w' (some g):=by
 have HN:=hY hn;have HZ:=hY hz;have HA:=hY hA;clear hn hz hA;go_enter func32,ntmps32;go_wp2_with fail;refine (Bu g ((s.size:Int)+1) _ h aa).mono ?_;rintro e w1 ⟨x,rfl,⟨cD,aK,_⟩,qJ,Be⟩;obtain ⟨j,rfl⟩:=lD cD;have hj:j<=s.size:=cN
 clear aK;have kG:Rd w1 w1.heap.size 1 A n (df xs):=by
  exact Gz
 clear hr;go_wp2_with fail;refine (aT g 6 _ qJ aa).mono ?_;rintro e w2 ⟨y,rfl,⟨mg,dw,_⟩,zm,jW⟩;have jk:Rd w2 w2.heap.size 1 A n (df xs):=by
  exact Gy
 clear kG dw mg;have HR:=hY jk;have HC:=hY zm;have HG:=hY (Be.trans jW);clear jk zm Be jW qJ h;have hji:(j:Int)<=(s.size:Int):=aa
 have hjs:(0:Int)<=(j:Int):=aa
 have YA:(s.extract 0 j).size<=90000:=na
 have KT:(s.extract j s.size).size<=90000:=na
 exact Gx
end Go.Proofs.YtodhjgngkkcjgaaGreatDoor
