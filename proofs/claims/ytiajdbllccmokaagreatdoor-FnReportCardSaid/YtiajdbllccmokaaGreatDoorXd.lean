import Derived.Test.YtiajdbllccmokaaGreatDoorXa
import Derived.Maps.Own
import Derived.Maps.OwnOps
import Derived.Maps.OwnSet
import Derived.Maps.Views
import Derived.OpenVars
import Derived.ChangeVars
namespace Go.Proofs.YtiajdbllccmokaaGreatDoor
open Go.ChangeShapes Go.WideShapes Go.ChangeAt Go.RowKit Go.Deep Go.Proofs.Tryz
set_option linter.unusedVariables false
set_option linter.unusedSimpArgs false
set_option maxRecDepth 100000
set_option maxHeartbeats 16000000
open Go.Maps
theorem ais:Keyed prog 3:=int_keyed Nk
theorem ait (w:World):(zeroValue 4).run prog w=.ok (.bool false) w:=af
theorem Gz {x:Int} (h:ob x):(Lit.int .i64 x).wf=true:=by
 simpa [Lit.wf,IntKind.min,IntKind.max,IntKind.signed,IntKind.bits,ob] using h
theorem NN {H:Type} {P:Program} {e:TypeId} (he:P.underlying e=some .bool) {v:Value} {z:DataW H ×List MemPlace} (h:plainElem P e v=some z):∃x,v=.bool x/\z=(.lit (.bool x),[]):=by
 unfold plainElem at h;rw [he] at h
 cases v<;>simp at h
 exact ⟨_,rfl,h.symm⟩
def Seen (w:World) (b n:Nat) (p:Int->Bool):Prop:=
 ∃D:DataW Unit,w.ownsMap prog 3 (plainElem prog 4) b n D/\IsMap D/\∀x,ob x->D.atKey (.int .i64 x) (.lit (.bool false))=.lit (.bool (p x))
theorem Seen.made (w:World):Seen (w.alloc (.map #[] 0)) w.heap.size 0 (fun _=>false):=
 ⟨.map [],World.ownsMap_made _ _ _ _,isMap_empty,fun _ _=>rfl⟩
theorem Seen.lt {w:World} {b n:Nat} {p:Int->Bool} (h:Seen w b n p):b<w.heap.size:=let ⟨_,h,_,_⟩:=h;h.lt
def u8c (x:Int):List Value:=[.int .u8 x]
abbrev IH (xs:List Int):List Value:=xs.flatMap u8c
theorem PX (x:Int):(u8c x).length=1:=rfl
theorem byte_at {w:World} {B n i:Nat} {A:OA} {xs:List Int} (h:Rd w B 1 A n (IH xs)) (hi:i<n):
  ∃b o x,A=some ⟨b,o,none⟩/\b<B/\xs[i]?=some x/\w.cell? (aA b (o+i))=some (.int .u8 x):=by
 obtain ⟨b,o,x,e,hb,hx,hc⟩:=jO PX aa h hi
 exact ⟨b,o,x,e,hb,hx,by have:=hc 0 _ rfl;rwa [yT,qY] at this⟩
theorem NP {H:Type} {enc:TypeId ×Value->H} {w:World} {spare:Nat->Bool} {held:Bool} (n:Nat) (cs:List Value) (x:DataW H ×List MemPlace) (h:DataW.trod enc prog w 0 spare held n 5 cs=some x):
  ∃g:Int,cs=u8c g/\(0<=g/\g<=255):=by
 obtain ⟨k,h1,_,h2⟩:=DataW.trod_int IB h
 exact ⟨k,h1,wf_u8 h2⟩
theorem cellsByte:prog.cellsOf 5=1:=af
theorem KQ {H:Type} {enc:TypeId ×Value->H} {w:World} {spare:Nat->Bool} {held:Bool} {base:Nat} {v:Value} {d:DataW H} {p:List MemPlace} (hv:Value.okWide prog w .any base 22 v)
  (h:DataW.Trod enc prog w 0 spare held 22 v d p):
  ∃(A:OA) (n c:Nat) (bs:List Int),v=.slice A n c/\n<=c/\c<=maxLen/\Rd w w.heap.size 1 A n (IH bs)/\∀g∈bs,0<=g/\g<=255:=by
 obtain ⟨a,len,cap,rfl⟩:=okWide_slice yU hv;obtain ⟨n,hn⟩:=h;obtain ⟨A,n,c,gs,e,r⟩:=open_row (Pg:=fun g=>0<=g/\g<=255) PX aa yU cellsByte NP hn;simp [Value.cells] at e;obtain ⟨rfl,rfl,rfl⟩:=e
 exact ⟨_,_,_,gs,rfl,r⟩
def dY (w:World) (g:Nat):Prop:=
 ∃(A:OA) (n c i:Nat) (h:Int) (bs:List Int),ay w g 73 #[.slice A n c,iI i,iI h]/\i<=n/\n<=1048576/\Rd w g 1 A n (IH bs)
theorem dY.lt {w:World} {g:Nat} (h:dY w g):g<w.heap.size:=by
 obtain ⟨A,n,c,i,hh,bs,hB,_⟩:=h
 exact hB.lt
theorem dY.ext {w w':World} {g:Nat} (h:dY w g) (hx:Ext w w'):dY w' g:=by
 have hl:=h.lt;obtain ⟨A,n,c,i,hh,bs,hB,h1,h2,h3⟩:=h
 exact ⟨A,n,c,i,hh,bs,hB.ext hx,h1,h2,h3.up hx aa⟩
theorem dY.grown {w w':World} {g:Nat} {row:Option Nat} (h:dY w g) (hg:w.grownBy w' row) (hr:∀k,row=some k->g<k):dY w' g:=by
 have hl:=h.lt;obtain ⟨A,n,c,i,hh,bs,hB,h1,h2,h3⟩:=h
 exact ⟨A,n,c,i,hh,bs,hB.grown hg (fun k hk=>oM (hr k hk)),h1,h2,h3.grown hg aa (fun k hk=>oM (hr k hk))⟩
theorem Ext.gr {w w':World} (h:Ext w w') (row:Option Nat):w.grownBy w' row:=⟨h.os,h.tape,h.output,h.size,fun k hk _=>h.block k hk⟩
theorem cB {w w':World} {g:Nat} (h:w.grownBy w' (some g)) (i:Nat) (u:Value):w.grownBy (w'.setCell (aA g i) u) (some g):=
 ⟨h.os,h.tape,h.output,oY,fun k hk hne=>(mO w' ⟨g,i,none⟩ u k (fun e=>hne (by rw [e]))).trans (h.block k hk hne)⟩
theorem xM {w w':World} {row:Option Nat} (h:w.grownBy w' row) (n:Nat):w.grownBy (w'.drewN n) row:=⟨h.os,h.tape,h.output,h.size,h.block⟩
theorem Rd.ext' {w:World} {B size n:Nat} {A:OA} {xs:List Value} (h:Rd w B size A n xs) (w':World) (hx:Ext w w') (hB:B<=w.heap.size):Rd w' B size A n xs:=h.up hx hB
theorem UL (x:Int):0<=bits .and .i64 x 255/\bits .and .i64 x 255<=255:=by
 have e:bits .and .i64 x 255=IntKind.i64.wrap ((BitVec.ofInt 64 x &&& BitVec.ofInt 64 255).toNat:Int):=rfl;have h1:(BitVec.ofInt 64 x &&& BitVec.ofInt 64 255).toNat<=255:=by
  rw [BitVec.toNat_and]
  exact lK Nat.and_le_right ae
 rw [e];generalize (BitVec.ofInt 64 x &&& BitVec.ofInt 64 255).toNat=m at h1;have:IntKind.i64.wrap (m:Int)=m:=by rw [IntKind.wrap_i64];omega
 omega
theorem Cr {P:Prop} (h:P:=by
 go_wp2;go_ret
 exact ⟨rfl,⟨A,n,c,0,_,bs,ay.new _ _ _,lJ _,hn,h.up ((xZ w).alloc _) (lI _)⟩,xx⟩):P:=h
theorem GA (A:OA) (n c:Nat) (bs:List Int) (w:World) (h:Rd w w.heap.size 1 A n (IH bs)) (hn:n<=1048576):
  Calls prog 24 #[.slice A n c] w fun e w'=>e=.returned (.pointer (some ⟨w.heap.size,0,none⟩))/\dY w' w.heap.size/\Ext w w':=by
 go_enter func24,ntmps24;go_wp2
 go_loop [3,4] (fun h i=>∃(k:Nat) (hv:Int),k<=n/\i=iI k/\h=iI hv) (fun _ i=>n - (intOf i).toNat)
 case atStart=>exact ⟨0,_,lJ _,rfl,rfl⟩
 case round=>
  obtain ⟨k,hv,hk,rfl,rfl⟩:=hrel
  by_cases bh:k<n
  ·by_cases h4:k<4000
   ·obtain ⟨b,o,x,rfl,hb,hx,h0⟩:=byte_at h bh;clear hx;go_wp2;go_round
    case rel=>exact ⟨k+1,_,aa,az,rfl⟩
    case measure=>simp [intOf];omega
   ·exact Cr
  ·exact Cr
theorem mZ (g:Nat) (w:World) (h:dY w g):
  Calls prog 51 #[.pointer (some ⟨g,0,none⟩)] w fun e w'=>∃x:Int,e=.returned (iI x)/\(0<=x/\x<=255)/\dY w' g/\w.grownBy w' (some g):=by
 obtain ⟨A,n,c,i,hh,bs,hB,hi,hn,hr⟩:=h;have b2:=hB.ck 2;have f2:=hB.frozen 2;go_enter func51,ntmps51;go_wp2;generalize wrap64 (wrap64 (hh*6364136223846793005)+1442695040888963407)=h2;have jL:=cB (jN w (some g)) 2 (iI h2);have mg:=hr.grown jL (oM hB.lt) (fun k hk=>aw);have rh:ay (w.setCell (aA g 2) (iI h2)) g 73 #[.slice A n c,iI i,iI h2]:=hB.ba 2 (iI h2);clear b2 f2 hB hr;generalize w.setCell (aA g 2) (iI h2)=W at*
 have b0:=rh.ck 0;have b1:=rh.ck 1;have b2:=rh.ck 2;have f1:=rh.frozen 1
 by_cases bh:i<n
 ·obtain ⟨b,o,x,rfl,hb,hx,h0⟩:=byte_at mg bh;clear hx;have hd:decide ((i:Int)<(n:Int))=true:=aj
  have Fs:decide (i<n)=true:=aj
  go_quiet (fail);go_wp2;go_quiet (fail);go_wp2;go_quiet (fail);go_wp2;go_ret;refine ⟨_,rfl,UL _,⟨_,n,c,i+1,h2,bs,ay.ba (w:=W.drewN _) rh 1 _,aa,hn,?_⟩,cB (xM jL _) _ _⟩
  exact (mg.ext' _ (show Ext W _ by exact xx) (nZ rh.lt)).grown (cB (jN _ (some g)) 1 _) (nZ rh.lt) (fun k hk=>by injection hk;omega)
 ·have hd:decide ((i:Int)<(n:Int))=false:=aj
  have Fs:decide (i<n)=false:=aj
  go_quiet (fail);go_wp2;go_quiet (fail);go_wp2;go_ret
  exact ⟨_,rfl,UL _,⟨A,n,c,i,h2,bs,rh,hi,hn,mg.up (show Ext W _ by exact xx) (nZ rh.lt)⟩,by first|exact xM jL _|exact xM (xM jL _) _⟩
theorem aU (g:Nat) (n:Int) (w:World) (h:dY w g) (hn: -9223372036854775808<=n/\n<=256):
  Calls prog 27 #[.pointer (some ⟨g,0,none⟩),iI n] w fun e w'=>∃x:Int,e=.returned (iI x)/\(0<=x/\(0<n->x<n)/\(n<=0->x=0))/\dY w' g/\w.grownBy w' (some g):=by
 obtain ⟨hI1,Zn⟩:=hn;go_enter func27,ntmps27
 by_cases h0:n<=0
 ·go_wp2;go_ret
  exact ⟨0,rfl,⟨aa,fun _=>aa,fun _=>rfl⟩,h,jN _ _⟩
 have ZX:0<n:=aa
 have hz:¬n=0:=aa
 have Zo:¬n= -1:=aa
 go_wp2_with fail;refine (mZ g _ h).mono ?_;rintro e w1 ⟨x,rfl,hx,vu,vH⟩;obtain ⟨cH,aS⟩:=hx;go_wp2;go_ret;refine ⟨_,rfl,?_,vu,vH⟩
 exact ⟨Ny _ hz,fun _=>Np _ ZX,fun h=>absurd h aa⟩
theorem fO (g:Nat) (n:Int) (w:World) (h:dY w g) (hn: -9223372036854775808<=n/\n<=256):
  Calls prog 53 #[.pointer (some ⟨g,0,none⟩),iI n] w fun e w'=>∃b:Bool,e=.returned (.bool b)/\dY w' g/\w.grownBy w' (some g):=by
 go_enter func53,ntmps53;go_wp2_with fail;refine (aU g n _ h hn).mono ?_;rintro e w1 ⟨x,rfl,hx,vu,vH⟩;go_wp2;go_ret
 exact ⟨_,rfl,vu,vH⟩
theorem dW (g:Nat) (A:OA) (n c:Nat) (xs:List Int) (w:World) (h:dY w g) (hr:Rd w w.heap.size 1 A n (aG xs)) (hA:∀b o,A=some ⟨b,o,none⟩->g<b) (hn:0<n/\n<=256):
  Calls prog 43 #[.pointer (some ⟨g,0,none⟩),.slice A n c] w fun e w'=>∃x:Int,e=.returned (iI x)/\x∈xs/\dY w' g/\w.grownBy w' (some g):=by
 obtain ⟨ND,nM⟩:=hn;go_enter func43,ntmps43;go_wp2_with fail;refine (aU g n _ h aa).mono ?_;rintro e w1 ⟨x,rfl,⟨cH,aS,_⟩,vu,vH⟩;obtain ⟨j,rfl⟩:=lD cH;have hj:j<n:=dS
 clear aS;have pD:Rd w1 w1.heap.size 1 A n (aG xs):=by
  refine ⟨hr.1,fun h0=>?_⟩;obtain ⟨b,o,e,hb,hc⟩:=hr.2 h0;have hgb:=hA b o e
  exact ⟨b,o,e,sC hb vH.size,fun q u hu=>(sD (vH.block b hb (fun e=>by injection e;omega))).trans (hc q u hu)⟩
 obtain ⟨b,o,y,rfl,hb,hy,r0⟩:=eT pD hj;have HY:=hY (lG hy);clear hy;go_wp2;go_ret
 exact ⟨y,rfl,HY.u,vu,vH⟩
theorem GB {n:Int} (h: -9223372036854775808<=n/\n<=9223372036854775807):IntKind.i64.wrap n=n/\wrap64 n=n:=⟨lH _ aa,bo⟩
theorem II (g:Nat) (n:Int) (w:World) (h:dY w g) (hn:256<n/\n<=4611686018427387904):
  Calls prog 27 #[.pointer (some ⟨g,0,none⟩),iI n] w fun e w'=>∃x:Int,e=.returned (iI x)/\(0<=x/\x<n)/\dY w' g/\w.grownBy w' (some g):=by
 obtain ⟨nM,GC⟩:=hn;have h0:¬n<=0:=aa
 have h1:¬n<=256:=aa
 have hz:¬n=0:=aa
 have Zo:¬n= -1:=aa
 have ZX:0<n:=aa
 go_enter func27,ntmps27;go_wp2_with fail;refine (mZ g _ h).mono ?_;rintro e w1 ⟨x,rfl,⟨x0,x1⟩,vu,vH⟩;go_wp2_with fail;refine (mZ g _ vu).mono ?_;rintro e w2 ⟨y,rfl,⟨y0,y1⟩,Cs,jL⟩;go_wp2_with fail;refine (mZ g _ Cs).mono ?_;rintro e w3 ⟨z,rfl,⟨z0,z1⟩,hc3,Bl⟩;go_wp2_with fail;refine (mZ g _ hc3).mono ?_;rintro e w4 ⟨u,rfl,⟨u0,u1⟩,hc4,Bm⟩;obtain ⟨a1,a2⟩:=GB (n:=x*16777216) aa;obtain ⟨b1,b2⟩:=GB (n:=y*65536) aa;obtain ⟨c1,c2⟩:=GB (n:=x*16777216+y*65536) aa;obtain ⟨d1,d2⟩:=GB (n:=z*256) aa;obtain ⟨e1,e2⟩:=GB (n:=x*16777216+y*65536+z*256) aa;obtain ⟨f1,f2⟩:=GB (n:=x*16777216+y*65536+z*256+u) aa;have UM:0<=x*16777216+y*65536+z*256+u:=aa
 have hG:=hY (((vH.trans jL).trans Bl).trans Bm);clear vH jL Bl Bm vu Cs hc3;go_wp2;go_ret;refine ⟨_,rfl,?_,hc4,hG.u⟩
 first
  |exact ⟨Ny _ hz,Np _ ZX⟩
  |(rw [Ik UM];exact ⟨Ny _ hz,Np _ ZX⟩)
theorem IJ (g:Nat) (n:Int) (w:World) (h:dY w g) (hn: -9223372036854775808<=n/\n<=4611686018427387904):
  Calls prog 27 #[.pointer (some ⟨g,0,none⟩),iI n] w fun e w'=>∃x:Int,e=.returned (iI x)/\(0<=x/\(0<n->x<n)/\(n<=0->x=0))/\dY w' g/\w.grownBy w' (some g):=by
 by_cases h1:n<=256
 ·exact aU g n w h ⟨hn.1,h1⟩
 ·refine (II g n w h ⟨aa,hn.2⟩).mono ?_;rintro e w' ⟨x,rfl,⟨x0,x1⟩,hc,hg⟩
  exact ⟨x,rfl,⟨x0,fun _=>x1,fun h2=>absurd h2 aa⟩,hc,hg⟩
theorem ag0 {H:Type} {enc:TypeId ×Value->H} {f:Func} {s:ChangeSpec} {W W':World} {args:Array Value} {ds gs:List (DataW H)} {before:List MemPlace}
  (hvr:varsRowed prog s.vars=true) (IE:∀t∈f.params.toList,t<prog.types.size) (hrt:f.resultTypes=#[4])
  (hW:DataW.Whole enc prog f.params.toList s.vars false W args.toList ds gs before)
  (bz:(s.fn H (ds++gs)).results=[.lit (.bool true)]) (PO:(s.fn H (ds++gs)).args=ds) (Uy:(s.fn H (ds++gs)).vars=gs)
  (hb:Ext W W'):s.post enc prog f false true false false W args (.bool true) W':=by
 have hW':=hW;obtain ⟨p,q,hA,hV,rfl,PQ,ZQ⟩:=hW;have bh:∀x∈p,x.block<W.heap.size:=hA.lt;have hA2:DataW.TrodAll enc prog W' 0 (fun b=>decide (b<W.heap.size)) true f.params.toList args.toList ds p:=
  oZ (DataW.TrodAll.respare (T:=fun t=>t<prog.types.size) kids Cd IE hA (fun x hx=>by simpa using bh x hx)) (fun x hx=>hb.same (bh x hx))
 have hV2:=Below.trodVars (enc:=enc) laidOut hb hvr hV;have hk:W.keptBut W' (fun x=>x∈p++q/\(x∈([]:List MemPlace)\/x∈p\/x∈q)):=
  World.keptBut_mono (may:=(·∈p++q)) (fun x hx=>lQ hx (Or.inr (mM.1 hx))) (hb.frame (·∈p++q))
 refine ⟨ds,gs,p++q,[],p,q,hW',?_,?_,?_,hk,fun h=>Bool.noConfusion h⟩
 ·rw [hrt,bz]
  exact trodAll_cons_mk (shut_bool Uj _) trodAll_mk0
 ·rw [PO]
  exact hA2
 ·rw [Uy]
  exact hV2
end Go.Proofs.YtiajdbllccmokaaGreatDoor
