import Derived.Test.YtiajdbllccmokaaGreatDoorRows
import Derived.WalkKit
import Derived.ProofKit
import Derived.OpenShut
import Derived.Below
import Derived.ReadAgain
import Derived.ChangeSame
import Derived.Laws.OwnMore
import Derived.Laws.Rows
import Derived.Deep.Draws
import Derived.Deep.Slices
import Derived.Deep.Fields
import Derived.Lib.Hide
import Derived.Lib.SmallJoins
import Derived.JoinedCond
import Derived.Deep.QuietTactic
import Derived.BigQuiet
import Derived.StillTailTactics
import Derived.Outline
import Derived.Maps.AppendAt
import Derived.Deep.AppendLies
import Derived.OwnWalk
import Derived.RegionTactic
import Derived.Deep.DeepCutAuto
import Derived.Deep.RegionHeld3
import Derived.OrdersHeld
namespace Go.RowKit
theorem Hid.u {p:Prop} (h:Hid p):p:=h
end Go.RowKit
namespace Go
abbrev World.z (w:World):Nat:=w.heap.size
end Go
namespace Go.Proofs.YtiajdbllccmokaaGreatDoor
open Go.ChangeShapes Go.WideShapes Go.ChangeAt Go.RowKit Go.Deep Go.Proofs.Tryz
set_option linter.unusedVariables false
set_option linter.unusedSimpArgs false
set_option maxRecDepth 100000
set_option maxHeartbeats 16000000
abbrev bR:=@bodyPost_ret
abbrev dm:=@wp_region_held_drew
abbrev gU:=@List.getElem?_eq_some_iff
abbrev aK:=@if_neg
abbrev aX:=@if_pos
abbrev lu:=@decide_eq_true_eq
abbrev ij:=@List.length_cons
abbrev jk:=@List.length_map
abbrev yL:=@List.getElem?_append_right
abbrev kc:=@List.all_eq_true
abbrev fA:=@run_string_add_sum
abbrev fW:=@Option.some.injEq
abbrev sB:=@List.getElem?_append_left
abbrev fX:=@Bool.and_false
abbrev fK:=@List.flatMap_cons
abbrev jN:=@World.grownBy.refl
abbrev pz:=@List.mem_cons_of_mem
abbrev mM:=@List.mem_append
abbrev js:=@Bool.false_and
abbrev iC:=@Bool.false_or
abbrev gV:=@AllReadyH.cons
abbrev nT:=@Option.some.inj
abbrev xt:=@List.mem_singleton
abbrev dc:=@beq_iff_eq
abbrev kP:=@decide_eq_false
abbrev qR:=@List.mem_cons
abbrev iD:=@AllReadyH.nil
abbrev qT:=@List.getElem?_cons_zero
abbrev zJ:=@List.getElem?_eq_none
abbrev sC:=@Nat.lt_of_lt_of_le
abbrev mO:=@Below.heap_setCell
abbrev qU:=@List.length_take_le
abbrev iO:=@Addr.mk.injEq
abbrev zK:=@List.getElem?_take_of_lt
abbrev sD:=@World.cell?_of_block
abbrev xu:=@List.eq_nil_of_length_eq_zero
abbrev iE:=@wpAnyH_ready
abbrev kh:=@Bool.true_or
abbrev kQ:=@Bool.true_and
abbrev qV:=@List.getElem?_toArray
abbrev uD:=@List.drop_of_length_le
abbrev mP:=@Bool.and_true
abbrev nU:=@results_cell_row
abbrev jt:=@List.take_length
abbrev nV:=@List.mem_cons_self
abbrev nW:=@wpAnyH_take
abbrev xv:=@List.drop_eq_getElem_cons
abbrev mQ:=@Bool.or_true
abbrev sF:=@List.getElem?_map
abbrev sG:=@List.foldl_append
abbrev qW:=@List.take_append_drop
abbrev mf:=@List.map_append
abbrev nX:=@List.all_append
abbrev iF:=@info_parts
abbrev qX:=@Bool.or_false
abbrev uE:=@List.append_assoc
abbrev xw:=@List.getElem?_drop
abbrev zL:=@Array.getElem?_eq_none
abbrev uF:=@List.take_succ_cons
abbrev pA:=@Nat.lt_or_ge
abbrev qY:=@Nat.add_zero
abbrev sH:=@List.mem_flatMap
abbrev PH:=@Array.length_toList
abbrev uG:=@Int.toNat_natCast
abbrev zM:=@List.mem_map
abbrev PI:=@List.foldl_cons
abbrev xz:=@heap_setCell_other
abbrev uH:=@Nat.lt_succ_self
abbrev zN:=@Nat.pow_le_pow_right
abbrev xC:=@decide_eq_true
abbrev zP:=@beq_eq_false_iff_ne
abbrev uI:=@List.length_nil
abbrev qZ:=@List.append_nil
abbrev zQ:=@Nat.eq_zero_or_pos
abbrev Gk:=@List.mem_of_mem_take
abbrev BQ:=@List.contains_eq_mem
abbrev xD:=@of_decide_eq_true
abbrev ah8:=@ByteArray.size_extract
abbrev nY:=@List.cons_append
abbrev xE:=@List.drop_zero
abbrev zR:=@List.filter_append
abbrev PJ:=@underlying27
abbrev nZ:=@Nat.le_of_lt
abbrev PK:=@List.flatten_cons
abbrev KA:=@List.ext_getElem?
abbrev BR:=@List.all_eq_false
abbrev BS:=@List.mem_range
abbrev BU:=@List.getElem_mem
abbrev KB:=@List.map_cons
abbrev Ug:=@ByteArray.ext
abbrev acq:=@ByteArray.data_append
abbrev Gl:=@Bool.eq_false_iff
abbrev sI:=@congrArg
abbrev sJ:=@cell_of_row
abbrev yM:=@heap_alloc_new
abbrev Ik:=@Int.tmod_eq_emod_of_nonneg
abbrev yN:=@Nat.succ_mul
abbrev yO:=@List.any_eq_true
abbrev yP:=@World.grownBy.trans
abbrev BV:=@List.flatten_append
abbrev Il:=@List.countP_cons_of_pos
abbrev Nd:=@Nat.add_comm
abbrev Im:=@Nat.mul_le_mul
abbrev yQ:=@List.take_zero
abbrev yR:=@Option.map_eq_some_iff
abbrev Ng:=@Array.getElem?_extract
abbrev yS:=@frozen_of_row
abbrev Io:=@underlying9
abbrev yT:=@Nat.mul_one
abbrev Ip:=@Nat.mul_le_mul_right
abbrev BW:=@List.range_succ
abbrev BX:=@List.length_set
abbrev Iq:=@List.drop_succ_cons
abbrev Uh:=@Array.toList_append
abbrev yU:=@underlying22
abbrev yV:=@Nat.sub_self
abbrev adM:=@Nat.le_of_eq
abbrev Ir:=@List.find?_eq_none
abbrev Iu:=@List.mem_of_find?_eq_some
abbrev Nh:=@List.getLastD_eq_getLast?
abbrev Iv:=@List.findIdx_cons
abbrev Iw:=@Bool.not_eq_true'
abbrev Ix:=@List.prefix_refl
abbrev Ni:=@List.countP_cons_of_neg
abbrev BZ:=@bodyPost_end
abbrev yX:=@Bool.or_eq_true
abbrev Ca:=@Bool.eq_iff_iff
abbrev Nj:=@List.set_append_right
abbrev Ui:=@List.mem_iff_getElem?
abbrev Uj:=@underlying4
abbrev Nk:=@underlying3
abbrev Uk:=@List.getElem?_of_mem
abbrev adN:=@ntmps20
abbrev sK:=@Ne.symm
abbrev Nl:=@List.getElem_of_mem
abbrev Iy:=@Nat.add_assoc
abbrev Ul:=@List.sum_cons
abbrev Cb:=@UInt8.toNat_ofNat'
abbrev Nn:=@List.set_cons_succ
abbrev Np:=@Int.emod_lt_of_pos
abbrev Iz:=@Nat.zero_mul
abbrev adO:=@List.map_map
abbrev Nq:=@heap_setCell_same
abbrev Nr:=@Nat.le_succ_of_le
abbrev Ns:=@List.take_add_one
abbrev Nt:=@List.length_range
abbrev Um:=@List.takeWhile_append_dropWhile
abbrev adP:=@func20
abbrev Nu:=@List.take_append
abbrev IA:=@List.not_mem_nil
abbrev Nv:=@List.drop_append
abbrev Un:=@Below.heap_alloc
abbrev IB:=@underlying5
abbrev Uo:=@List.getLast?_eq_some_getLast
abbrev Nw:=@run_loadVar_row
abbrev Nx:=@Option.map_some
abbrev Cc:=@List.sum_append
abbrev Up:=@List.cons.injEq
abbrev Ny:=@Int.emod_nonneg
abbrev Uq:=@Array.getElem?_setIfInBounds
theorem uJ {P:Prop} (h:P:=by rw [h.len Gt.aE aa];omega):P:=h
theorem oD {P:Prop} (h:P:=by have h1:=HZ.u;have h2:=mR mr.u;have h3:=mR MR.u;unfold Hid;omega):P:=h
theorem kA {P:Prop} (h:P:=by have:=HFW.u;unfold Hid;omega):P:=h
theorem uK {P:Prop} (h:P:=by have h1:=HZ.u;have h2:=mR KC.u;have h3:=mR Kk.u;unfold Hid;omega):P:=h
theorem gf {P:Prop} (h:P:=by rw [Zj.u];exact oF):P:=h
theorem oG {P:Prop} (h:P:=by rw [lA,Kl.u];exact t1):P:=h
theorem iP {P:Prop} (h:P:=by rw [dB.u];omega):P:=h
theorem oH {P:Prop} (h:P:=by intro b o e;injection e with e;injection e with e1;have:=HD.u.cu.lt;omega):P:=h
theorem oI {P:Prop} (h:P:=by simp [results,results25,go_sem,q0,q1,q2,q3,p0,p1]):P:=h
theorem oJ {P:Prop} (h:P:=by rw [Zj.u];exact Ur):P:=h
theorem cR {P:Prop} (h:P:=by simp only [lL,es,es1,es2,es3];omega):P:=h
theorem cF {P:Prop} (h:P:=by simp only [lL,es];omega):P:=h
theorem oK {P:Prop} (h:P:=by rw [HR.u];simp only [lL,es];omega):P:=h
theorem uL {P:Prop} (h:P:=by rw [sB (by rw [h.1];exact KD)];exact e1):P:=h
theorem uM {P:Prop} (h:P:=by intro u' hu';rw [xt] at hu';subst hu';exact hu):P:=h
theorem kB {P:Prop} (h:P:=by unfold Hid Ext;exact xx):P:=h
theorem uN {P:Prop} (h:P:=by unfold Hid;rw [Nz.u,HO.u,uE,Zk.u]):P:=h
theorem kC {P:Prop} (h:P:=by simp [bne,hne]):P:=h
theorem uO {P:Prop} (h:P:=by unfold Hid;rw [HR.u,hv];simp [Gm,Gn,Oq.g1]):P:=h
theorem uP {P:Prop} (h:P:=by unfold Hid;rw [acr Ihn.u Ihb.u rfl];simp [Gm,Gn,Oq.g1,FF]):P:=h
theorem iQ {P:Prop} (h:P:=by unfold Hid;rw [acv Ihn.u Ihb.u rfl];simp [Gm,Gn,Oq.g2,FF]):P:=h
theorem gg {P:Prop} (h:P:=by unfold Hid;rw [acw Ihn.u Ihb.u rfl];simp [Gm,Gn,Oq.g3,FF]):P:=h
theorem oL {P:Prop} (h:P:=by injection e1 with e1;exact e1.symm):P:=h
theorem gh {P:Prop} (h:P:=by rw [dB.u];exact lI _):P:=h
theorem uQ {P:Prop} (h:P:=by unfold Hid alike;simp only [e1,e2,e3,e4,e6,e7,kQ,js,mP,fX,mQ,kh,iC,qX]):P:=h
theorem uR {P:Prop} (h:P:=by unfold Hid alike;simp only [e1,e2,e3,e4,e5,e6,e7,kQ,js,mP,fX,mQ,kh,iC,qX]):P:=h
theorem uS {P:Prop} (h:P:=by unfold Hid alike;simp only [e1,e2,e4,e6,e7,kQ,js,mP,fX,mQ,kh,iC,qX]):P:=h
theorem uT {P:Prop} (h:P:=by unfold Hid alike;simp only [e1,e2,e4,e5,e6,e7,kQ,js,mP,fX,mQ,kh,iC,qX]):P:=h
theorem gj {P:Prop} (h:P:=by rw [hs];exact lI _):P:=h
theorem oO {P:Prop} (h:P:=by rw [IC hv h9];exact hc):P:=h
theorem oP {P:Prop} (h:P:=by rw [Pt.aE];omega):P:=h
theorem oQ {P:Prop} (h:P:=by have:=HP.u;unfold wrap64;omega):P:=h
theorem uU {P:Prop} (h:P:=by rw [bne,show (y.c==0)=true by simpa using Fq];rfl):P:=h
theorem uV {P:Prop} (h:P:=by rw [bne,show (y.c==0)=false by simpa using Fq];rfl):P:=h
theorem kD {P:Prop} (h:P:=by have:=h.2.2.1;show _≠q;omega):P:=h
theorem oR {P:Prop} (h:P:=by unfold Hid rD;rw [hv];simp):P:=h
theorem uW {P:Prop} (h:P:=by rw [<-hiz];exact oa g p.n k true w' rE NA HB.u.1.1 HB.u.1.2 HB.u.2.1.1 HB.u.2.1.2 HC.u HB.u.2.2):P:=h
theorem uX {P:Prop} (h:P:=by unfold Hid;rw [ZL KE,<-hmz,<-hiz];rfl):P:=h
theorem cG {P:Prop} (h:P:=by simp [hk]):P:=h
theorem kE {P:Prop} (h:P:=by rw [Us];exact HA.u.2):P:=h
theorem kF {P:Prop} (h:P:=by simp [Af.cells]):P:=h
theorem iR {P:Prop} (h:P:=by rw [HO.u];rfl):P:=h
theorem uY {P:Prop} (h:P:=by unfold Hid eo pB;rw [hv,ha,Rw,h9,PL];rfl):P:=h
theorem fl {P:Prop} (h:P:=by simp at hz;omega):P:=h
theorem uZ {P:Prop} (h:P:=by rw [<-hh];exact nO p w'):P:=h
theorem kG {P:Prop} (h:P:=by rw [<-hc];exact pZ x p w' HVX.u HVP.u):P:=h
theorem vh {P:Prop} (h:P:=by rw [<-hv];exact bj g n w'):P:=h
theorem gl {P:Prop} (h:P:=by have:=aS.size;simpa using this):P:=h
theorem vk {P:Prop} (h:P:=by rw [FG];exact ((ay.newAt (b:=w2.heap.size+1) (by simp)).ext bT)):P:=h
theorem oT {P:Prop} (h:P:=by rw [show a+b - q=b by omega];exact lH _ (by omega)):P:=h
theorem oU {P:Prop} (h:P:=by rw [show a+b - q=a by omega];exact lH _ (by omega)):P:=h
theorem gm {P:Prop} (h:P:=by rw [eP];exact hne (by decide)):P:=h
theorem fo {P:Prop} (h:P:=by unfold Hid;exact xx):P:=h
theorem dp {P:Prop} (h:P:=by unfold Hid eK;rw [aK (by rw [ha];simp)];rfl):P:=h
theorem kH {P:Prop} (h:P:=by rw [ha];simp):P:=h
theorem vn {P:Prop} (h:P:=by unfold Ut;split<;>(try split)<;>(try split)<;>(try split)<;>(try split)<;>(try split)<;>(try split)<;>simp):P:=h
theorem dQ {P:Prop} (h:P:=by cases e):P:=h
theorem dr {P:Prop} (h:P:=by injection e):P:=h
theorem dR {P:Prop} (h:P:=by rw [mH];exact bc.alloc _):P:=h
theorem iT {P:Prop} (h:P:=by intro b o e;injection e with e;injection e with e1;omega):P:=h
theorem kI {P:Prop} (h:P:=by unfold Hid cS;simpa using hq):P:=h
theorem vr {P:Prop} (h:P:=by unfold dt;split<;>(try split)<;>(try split)<;>omega):P:=h
theorem oV {P:Prop} (h:P:=by rw [lH _ (by omega)];omega):P:=h
theorem kJ {P:Prop} (h:P:=by rw [bne,hn];rfl):P:=h
theorem ez {P:Prop} (h:P:=by simp [Pa.cells]):P:=h
theorem aD {P:Prop} (h:P:=by exact xx):P:=h
theorem vt {P:Prop} (h:P:=by have:=(gU.1 h).1;simpa [qs] using this):P:=h
theorem oW {P:Prop} (h:P:=by rw [PH];rfl):P:=h
theorem eB {P:Prop} (h:P:=by simp [Ed.cells]):P:=h
theorem aw {P:Prop} (h:P:=by injection hk;omega):P:=h
theorem dS {P:Prop} (h:P:=by have:=aS (by omega);omega):P:=h
theorem oX {P:Prop} (h:P:=by unfold Hid wrap64;omega):P:=h
theorem bZ {P:Prop} (h:P:=by unfold Hid;omega):P:=h
theorem gp {P:Prop} (h:P:=by unfold ar;omega):P:=h
theorem eC {P:Prop} (h:P:=by rw [lS];omega):P:=h
theorem aW {P:Prop} (h:P:=by simp [h]):P:=h
theorem aQ {P:Prop} (h:P:=by assumption):P:=h
theorem ah {P:Prop} (h:P:=by rfl):P:=h
theorem iU {P:Prop} (h:P:=by rw [HL.u];omega):P:=h
theorem bN {P:Prop} (h:P:=by rw [hlen.u];omega):P:=h
theorem az {P:Prop} (h:P:=by go_num):P:=h
theorem gu {P:Prop} (h:P:=by simp [Oq.cells]):P:=h
theorem fp {P:Prop} (h:P:=by simp [h2]):P:=h
theorem kK {P:Prop} (h:P:=by simp [Gt.cells,g1,fL]):P:=h
theorem dT {P:Prop} (h:P:=by simp [Gt.cells]):P:=h
theorem ae {P:Prop} (h:P:=by decide):P:=h
theorem iV {P:Prop} (h:P:=by simp [xF]):P:=h
theorem af {P:Prop} (h:P:=by kernel_rfl):P:=h
theorem aa {P:Prop} (h:P:=by omega):P:=h
theorem ag {P:Prop} (h:P:=by simp):P:=h
theorem fq {P:Prop} (h:P:=by rw [lT];omega):P:=h
theorem dU {P:Prop} (h:P:=by simp [h1]):P:=h
theorem dV {P:Prop} (h:P:=by simp at h):P:=h
theorem oY {P:Prop} (h:P:=by simpa [World.setCell] using h.size):P:=h
theorem aj {P:Prop} (h:P:=by simp;omega):P:=h
theorem bo {P:Prop} (h:P:=by unfold wrap64;omega):P:=h
theorem oM {A P:Prop} (a:A) (h:A->P:=by intro;omega):P:=h a
theorem oN {A B P:Prop} (a:A) (b:B) (h:A->B->P:=by intro _ _;omega):P:=h a b
theorem sU {A P:Prop} (a:A) (h:A->P:=by intro a;simpa using a):P:=h a
abbrev iI (x:Int):Value:=.int .i64 x
abbrev OA:=Option Addr
abbrev cO (a:Array Value) (t:TypeId):Obj:=.cells a t
abbrev nS:Value:=.slice none 0 0
abbrev jG:Array Value:=#[iI 0,iI 0,nS,nS,nS]
abbrev jB:Array Value:=#[iI 0,iI 0,nS,nS]
abbrev jC:Array Value:=#[iI 0,nS]
abbrev zO:Array Value:=#[iI 0,iI 0,iI 0,iI 0]
abbrev jD:Array Value:=#[nS,iI 0,nS]
abbrev aA (b o:Nat):Addr:=⟨b,o,none⟩
theorem hY {p:Prop} (h:p):RowKit.Hid p:=h
abbrev lA:=@List.length_append
abbrev lB:=@List.getElem?_eq_getElem
abbrev lC:=@List.getElem?_eq_some_iff
abbrev lD:=@Int.eq_ofNat_of_zero_le
abbrev lE:=@List.take_of_length_le
abbrev lF:=@Bool.and_eq_true
abbrev lG:=@List.mem_of_getElem?
abbrev lH:=@IntWalk.i64_in
abbrev lI:=@Nat.le_refl
abbrev lJ:=@Nat.zero_le
abbrev lK:=@Nat.le_trans
abbrev lL:=@ByteArray.size_append
abbrev lM:=@Nat.zero_add
abbrev lN:=@List.nil_append
abbrev lO:=@List.all_eq_true
abbrev lP:=@List.getD_eq_getElem?_getD
abbrev lQ:=@And.intro
abbrev lR:=@List.flatMap_append
abbrev lS:=@beq_eq_false_iff_ne
abbrev lT:=@List.length_take
abbrev lU:=@List.length_drop
theorem own:ownKnob prog.godebug=none:=af
theorem laidOut:laidOutB prog=true:=af
theorem aia:mapsRowed prog=true:=af
theorem KF:prog.cellsOf 3=1:=af
theorem kids:Kids prog (fun t=>t<prog.types.size):=kids_rows laidOut aia
theorem Cd:∀t e,t<prog.types.size->prog.underlying t=some (.slice e)->0<prog.cellsOf e:=slices_full_of _ af
abbrev Ext (w w':World):Prop:=Below w.heap.size w w'
theorem xZ (w:World):Ext w w:=Below.refl _ _
abbrev aO (o:Oper) (s x:Operand) (t:TypeId):Prop:=o.op=.call {callee:=.builtin .append,args:=#[s,x],argTypes:=#[t,t]}
abbrev aH (w0 w:World) (v:Value) (e:TypeId) (z n:Nat) (ys:List Value) (X:Act->World->Prop) (a:Act) (o:Oper):Prop:=∀v' w',w'.ownsRow w0.heap.size e z v' n ys->Ext w0 w'->w.grownBy w' v.ownBlock->(v'.ownBlock=v.ownBlock\/v'.ownBlock=some w.heap.size)->X (a.put o.dst v') w'
theorem Ext.trans {a b c:World} (h:Ext a b) (k:Ext b c):Ext a c:=Below.trans h (k.mono h.size)
theorem Ext.alloc {w w':World} (h:Ext w w') (o:Obj):Ext w (w'.alloc o):=Below.alloc h h.size o
theorem Ext.drew {w w':World} (h:Ext w w'):Ext w w'.drew:=Below.drew h
theorem Ext.drewN {w w':World} (h:Ext w w') (n:Nat):Ext w (w'.drewN n):=⟨h.os,h.tape,h.output,h.size,h.block⟩
theorem Ext.setCell {w w':World} (h:Ext w w') {p:Addr} (hp:w.heap.size<=p.block) (u:Value):Ext w (w'.setCell p u):=Below.setCell h hp u
theorem dZ {k:IntKind} {a b:Int} (h:a=b):Ending.returned (.int k a)=.returned (.int k b):=by rw [h]
theorem aT {a b:Bool} (h:a=b):Ending.returned (.bool a)=.returned (.bool b):=by rw [h]
def szF (l:Int) (n:Nat):Int:=if l<n then -1 else l - n
theorem anp {l:Int} {n:Nat} (h:l<n):szF l n= -1:=aX h
theorem anq {l:Int} {n:Nat} (h:¬l<n):szF l n=l - n:=aK h
theorem aL {α:Type} {l:List α} {k:Nat} {g:α} (h:l[k]?=some g):l.take (k+1)=l.take k++[g]:=by
 obtain ⟨hk,rfl⟩:=gU.1 h;rw [List.take_succ_eq_append_getElem hk]
section
variable {w w':World} {B B' size n:Nat} {A:OA} {xs:List Value}
def Rd (w:World) (B size:Nat) (A:OA) (n:Nat) (xs:List Value):Prop:=
 xs.length=n*size/\(0<n->∃b o,A=some ⟨b,o,none⟩/\b<B/\∀j u,xs[j]?=some u->w.cell? (aA b (o+j))=some u)
theorem Rd.keep (h:Rd w B size A n xs) (hk:∀p:Addr,p.block<B->w'.cell? p=w.cell? p):Rd w' B size A n xs:=
 ⟨h.1,fun hn=>by
  obtain ⟨b,o,e,hb,hc⟩:=h.2 hn
  exact ⟨b,o,e,hb,fun j u hu=>(hk _ hb).trans (hc j u hu)⟩⟩
theorem Rd.more (h:Rd w B size A n xs) (hB:B<=B'):Rd w B' size A n xs:=
 ⟨h.1,fun hn=>by
  obtain ⟨b,o,e,hb,hc⟩:=h.2 hn
  exact ⟨b,o,e,aa,hc⟩⟩
theorem Rd.below (h:Rd w B size A n xs) (hb:Below B w w'):Rd w' B size A n xs:=h.keep fun _ hp=>hb.cell hp
theorem Rd.ext (h:Rd w w.heap.size size A n xs) (hb:Ext w w'):Rd w' w'.heap.size size A n xs:=(h.below hb).more hb.size
theorem Rd.own {base:Nat} {e:TypeId} {c:Nat} (h:w.ownsRow base e size (.slice A n c) n xs):Rd w w.heap.size size A n xs:=by
 refine ⟨h.1,fun hn=>?_⟩;rcases h.2 with ⟨_,h0⟩|⟨g,cap,cur,hv,_,hh,KG,_,hs,hx⟩
 ·omega
 ·have hA:A=some ⟨g,0,none⟩:=by injection hv
  subst hA;refine ⟨g,0,rfl,?_,fun j u hu=>?_⟩
  ·rcases pA g w.heap.size with bh|tS
   ·exact bh
   ·rw [zL tS] at hh;cases hh
  ·rw [sJ w g _ cur e (0,0) hh];rw [<-hx] at hu;have hj:j<n*size:=by
    have h2:=(gU.1 hu).1;rw [lT] at h2;omega
   rw [zK hj] at hu;simpa using hu
end
section
variable {α:Type} {f:α->List Value} {m:Nat}
theorem fB (hf:∀x,(f x).length=m) (xs:List α):(xs.flatMap f).length=xs.length*m:=by
 induction xs with
 |nil=>simp
 |cons x xs ih=>rw [fK,lA,ih,hf,ij,yN,Nd]
theorem tT (hf:∀x,(f x).length=m) (xs:List α) (i:Nat) (x:α) (h:xs[i]?=some x) (j:Nat) (hj:j<m):(xs.flatMap f)[i*m+j]?=(f x)[j]?:=by
 induction xs generalizing i with
 |nil=>simp at h
 |cons y xs ih=>
  cases i with
  |zero=>
   simp at h;subst h;rw [fK,sB (by rw [hf];omega),Iz,lM]
  |succ i=>
   simp at h;rw [fK,yL (by rw [hf,yN];omega),<-ih i h,hf];congr 1;rw [yN];omega
theorem jO {w:World} {B n i:Nat} {A:OA} {xs:List α} (hf:∀x,(f x).length=m) (hm:0<m) (h:Rd w B m A n (xs.flatMap f)) (hi:i<n):
  ∃b o x,A=some ⟨b,o,none⟩/\b<B/\xs[i]?=some x/\∀j u,(f x)[j]?=some u->w.cell? (aA b (o+i*m+j))=some u:=by
 obtain ⟨b,o,rfl,hb,hc⟩:=h.2 aa;have hl:=h.1;rw [fB hf] at hl;have hi':i<xs.length:=sC hi (Nat.le_of_mul_le_mul_right (adM hl.symm) hm);refine ⟨b,o,xs[i],rfl,hb,ag,fun j u hu=>?_⟩;have hj:j<m:=by rw [<-hf xs[i]];exact (gU.1 hu).1
 rw [Iy]
 exact hc _ u (by rw [tT hf xs i xs[i] ag j hj];exact hu)
theorem Rd.len {w:World} {B n:Nat} {A:OA} {xs:List α} (hf:∀x,(f x).length=m) (hm:0<m) (h:Rd w B m A n (xs.flatMap f)):xs.length=n:=by
 have hl:=h.1;rw [fB hf] at hl
 exact Nat.eq_of_mul_eq_mul_right hm hl
end
def Part (w:World) (g:Nat) (e:TypeId) (N k:Nat) (xs:List Value):Prop:=
 ∃cur:Array Value,w.heap[g]?=some (.cells cur e (0,0))/\cur.size=N/\∀j,j<k->cur[j]?=xs[j]?
section
variable {w w':World} {g N k:Nat} {e:TypeId} {xs:List Value}
theorem Part.start (w:World) (cur:Array Value) (e:TypeId) (xs:List Value) (h:cur.size=N):Part (w.alloc (.cells cur e)) w.heap.size e N 0 xs:=
 ⟨cur,yM w _,h,fun j hj=>absurd hj aa⟩
theorem Part.lt (h:Part w g e N k xs):g<w.heap.size:=by
 obtain ⟨cur,hc,_,_⟩:=h;rcases pA g w.heap.size with bh|tS
 ·exact bh
 ·rw [zL tS] at hc;cases hc
theorem Part.ext (h:Part w g e N k xs) (hx:Ext w w'):Part w' g e N k xs:=by
 have hl:=h.lt;obtain ⟨cur,hc,hs,hj⟩:=h
 exact ⟨cur,(hx.block g hl).trans hc,hs,hj⟩
theorem Part.cell (h:Part w g e N k xs) {j:Nat} (hj:j<N):∃u,w.cell? (aA g j)=some u:=by
 obtain ⟨cur,hc,hs,_⟩:=h;rw [sJ w g j cur e (0,0) hc]
 exact ⟨cur[j],Array.getElem?_eq_getElem aa⟩
theorem Part.frozen (h:Part w g e N k xs) (j:Nat):w.frozen? (aA g j)=false:=by
 obtain ⟨cur,hc,_,_⟩:=h
 exact yS w g j cur e hc
theorem Part.ba (h:Part w g e N k xs) {u:Value} (hu:xs[k]?=some u) (hk:k<N):Part (w.setCell (aA g k) u) g e N (k+1) xs:=by
 obtain ⟨cur,hc,hs,hj⟩:=h;refine ⟨cur.setIfInBounds k u,Nq w g k cur e u hc,sU hs,fun j hjk=>?_⟩;rw [Uq]
 by_cases e1:k=j
 ·subst e1;rw [aX rfl,aX aa,hu]
 ·rw [aK e1]
  exact hj j aa
theorem Part.own {B n size:Nat} (h:Part w g e (n*size) (n*size) xs) (hl:xs.length=n*size) (hB:B<=g) (hn:n<=maxLen):w.ownsRow B e size (.slice (some ⟨g,0,none⟩) n n) n xs:=by
 obtain ⟨cur,hc,hs,hj⟩:=h;refine ⟨hl,.inr ⟨g,n,cur,rfl,hB,hc,lI _,hn,hs,?_⟩⟩;apply KA;intro j;rcases pA j (n*size) with bh|tS
 ·rw [zK bh,<-hj j bh];simp
 ·rw [zJ fq,zJ aa]
end
theorem ZM {P:Program} (t e:TypeId) (i:TypeInfo) (z:Value) (ht:P.underlying t=some (.slice e)) (hi:P.info? e=some i) (hz:i.zero=some z) (n:Nat) (hb:i.bytes<=1000) (hn:n<=1048576) (w:World):
  (Instr.makeSlice t (iI (n:Int)) (iI (n:Int))).run P w=.ok (.slice (some ⟨w.heap.size,0,none⟩) n n) (w.alloc (cO (madeCells z.cells (n*i.size)) e)):=by
 have h2:i.bytes*n<=1000*1048576:=Im hb hn;have h3:((i.bytes:Int)*(n:Int))<=281474976710656:=by
  have h4:((i.bytes*n:Nat):Int)<=281474976710656:=aa
  rwa [Int.natCast_mul] at h4
 have hr:=run_make (P:=P) w t e i z ht hi hz .i64 .i64 n n aa aa h3 aa;simp only [uG] at hr
 exact hr
theorem ans {α:Type} {l:List α} (h:l.length=1):∃a,l=[a]:=List.length_eq_one_iff.1 h
theorem FH {α:Type} {l:List α} {n:Nat} (h:l.length=n+1):∃a t,l=a::t/\t.length=n:=by
 cases l with
 |nil=>simp at h
 |cons a t=>exact ⟨a,t,rfl,sU h⟩
theorem aib {α:Type} {l:List α} (h:l.length=2):∃a b,l=[a,b]:=by
 obtain ⟨a,t,rfl,ht⟩:=FH h;obtain ⟨b,rfl⟩:=ans ht
 exact ⟨a,b,rfl⟩
theorem ant {α:Type} {l:List α} (h:l.length=3):∃a b c,l=[a,b,c]:=by
 obtain ⟨a,t,rfl,ht⟩:=FH h;obtain ⟨b,c,rfl⟩:=aib ht
 exact ⟨a,b,c,rfl⟩
theorem anu {α:Type} {l:List α} (h:l.length=4):∃a b c d,l=[a,b,c,d]:=by
 obtain ⟨a,t,rfl,ht⟩:=FH h;obtain ⟨b,c,d,rfl⟩:=ant ht
 exact ⟨a,b,c,d,rfl⟩
theorem anv {α:Type} {l:List α} (h:l.length=5):∃a b c d e,l=[a,b,c,d,e]:=by
 obtain ⟨a,t,rfl,ht⟩:=FH h;obtain ⟨b,c,d,e,rfl⟩:=anu ht
 exact ⟨a,b,c,d,e,rfl⟩
theorem len8 {α:Type} {l:List α} (h:l.length=8):∃a b c d e f g i,l=[a,b,c,d,e,f,g,i]:=by
 obtain ⟨a,t,rfl,ha⟩:=FH h;obtain ⟨b,t,rfl,hb⟩:=FH ha;obtain ⟨c,t,rfl,hc⟩:=FH hb;obtain ⟨d,e,f,g,i,rfl⟩:=anv hc
 exact ⟨a,b,c,d,e,f,g,i,rfl⟩
theorem wf_i64 {n:Int} (h:(Lit.int .i64 n).wf=true): -9223372036854775808<=n/\n<=9223372036854775807:=by
 simpa [Lit.wf,IntKind.min,IntKind.max,IntKind.signed,IntKind.bits] using h
theorem wf_u8 {n:Int} (h:(Lit.int .u8 n).wf=true):0<=n/\n<=255:=by
 simpa [Lit.wf,IntKind.min,IntKind.max,IntKind.signed,IntKind.bits] using h
def ob (n:Int):Prop:= -9223372036854775808<=n/\n<=9223372036854775807
section
variable {H:Type} {enc:TypeId ×Value->H} {P:Program} {w:World} {spare:Nat->Bool} {held:Bool} {α:Type}
theorem open_row {f:α->List Value} {m:Nat} {Pg:α->Prop} (hf:∀x,(f x).length=m) (hm:0<m) {t e:TypeId} (ht:P.underlying t=some (.slice e)) (hC:P.cellsOf e=m)
  (hel:∀n cs x,DataW.trod enc P w 0 spare held n e cs=some x->∃g,cs=f g/\Pg g) {n:Nat} {cs:List Value} {x:DataW H ×List MemPlace} (h:DataW.trod enc P w 0 spare held n t cs=some x):
  ∃(A:OA) (n c:Nat) (gs:List α),cs=[.slice A n c]/\n<=c/\c<=maxLen/\Rd w w.heap.size m A n (gs.flatMap f)/\∀g∈gs,Pg g:=by
 rcases open_slice ht h with ⟨rfl,_⟩|⟨a,len,cap,M,n,D,Pl,rfl,_,hl,hmx,hM,MS,hi⟩
 ·exact ⟨none,0,0,[],rfl,lI _,lJ _,⟨ag,fun h=>absurd h aa⟩,ag⟩
 ·have hle:len<=M:=by rw [hM];split<;>omega
  have ZN:∀i,i<len->∃g,Pg g/\∀j,j<m->w.cell? ((a.add (i*m)).add j)=(f g)[j]?:=by
   intro i hil;obtain ⟨cs',hc,htr⟩:=hi i aa;obtain ⟨g,rfl,hg⟩:=hel _ _ _ htr;rw [hC] at hc
   exact ⟨g,hg,(World.cells?_some hc).2.2⟩
  have fi:∃gs:List α,gs.length=len/\(∀g∈gs,Pg g)/\∀i g,gs[i]?=some g->∀j,j<m->w.cell? ((a.add (i*m)).add j)=(f g)[j]?:=by
   clear hM hl hmx hle hi h MS
   induction len with
   |zero=>exact ⟨[],rfl,ag,ag⟩
   |succ len ih=>
    obtain ⟨gs,h1,h2,h3⟩:=ih (fun i hi=>ZN i aa);obtain ⟨g,hg,hc⟩:=ZN len aa;refine ⟨gs++[g],dU,?_,?_⟩
    ·intro x hx;rcases mM.1 hx with hx|hx
     ·exact h2 x hx
     ·simp at hx;subst hx;exact hg
    ·intro i x hx;rcases pA i gs.length with hil|hil
     ·rw [sB hil] at hx
      exact h3 i x hx
     ·rw [yL hil] at hx;have NB:i=gs.length:=by
       have:=(gU.1 hx).1;simp at this;omega
      subst NB;simp at hx;subst hx;rw [h1];exact hc
  obtain ⟨gs,df,hgp,hgc⟩:=fi;refine ⟨some a,len,cap,gs,rfl,hl,hmx,⟨by rw [fB hf,df],fun h0=>?_⟩,hgp⟩;have TF:a.spot=none/\a.block<w.heap.size:=by
   have ID:gs[0]?=some (gs[0]' aa):=lB aa;have xf:=hgc 0 _ ID 0 hm;have e0:(a.add (0*m)).add 0=a:=by simp [Addr.add]
   have hs:(f (gs[0]' aa))[0]?=some ((f (gs[0]' aa))[0]'(by rw [hf];exact hm)):=lB _;rw [e0,hs] at xf;refine ⟨?_,block_lt_of_cell xf⟩;unfold World.cell? at xf;split at xf
   ·cases TF:a.spot with
    |none=>rfl
    |some _=>rw [TF] at xf;simp at xf
   ·cases xf
  obtain ⟨ab,ao,asp⟩:=a;simp only at TF;obtain ⟨rfl,bh⟩:=TF;refine ⟨ab,ao,rfl,bh,fun j u hu=>?_⟩;have hj:j<len*m:=by
   have:=(gU.1 hu).1;rwa [fB hf,df] at this
  have hdm:j / m*m+j % m=j:=by rw [Nat.mul_comm];exact Nat.div_add_mod j m
  have NC:j / m<len:=Nat.div_lt_of_lt_mul (by rw [Nat.mul_comm];exact hj);have kR:j % m<m:=Nat.mod_lt _ hm;have ID:gs[j / m]?=some (gs[j / m]' aa):=lB aa;have sg:=hgc (j / m) _ ID (j % m) kR;have hfa:=tT hf gs (j / m) _ ID (j % m) kR;rw [hdm,hu] at hfa;rw [<-hfa] at sg;rw [<-sg,add_add,hdm]
  by_cases hz:j=0
  ·subst hz;rfl
  ·simp [Addr.add,hz]
theorem aic {fs:Array Field} {cs:List Value} {ys:List (DataW H ×List MemPlace)} {n:Nat}
  (hf:∀(i:Nat) (f:Field),fs[i]?=some f->DataW.trod enc P w 0 spare held n f.type ((cs.drop f.offset).take (P.cellsOf f.type))=ys[i]?) (ZO:ys.length=fs.size)
  (i:Nat) (f:Field) (hi:fs[i]?=some f) (t:TypeId) (off k:Nat) (ht:f.type=t) (ho:f.offset=off) (hk:P.cellsOf t=k):
  ∃y,DataW.trod enc P w 0 spare held n t ((cs.drop off).take k)=some y:=by
 have h:=hf i f hi;rw [ht,ho,hk] at h;have bh:i<fs.size:=(Array.getElem?_eq_some_iff.1 hi).1
 exact ⟨ys[i]' aa,h.trans (lB aa)⟩
theorem FI {t:TypeId} (ht:P.underlying t=some (.int .i64)) {n:Nat} {cs:List Value} {x:DataW H ×List MemPlace} (h:DataW.trod enc P w 0 spare held n t cs=some x):
  ∃k,cs=[iI k]/\ob k:=by
 obtain ⟨k,h1,_,h2⟩:=DataW.trod_int ht h
 exact ⟨k,h1,wf_i64 h2⟩
end
def zS {α:Type} (f:α->α->Bool):List α->List α->Bool
 |[],[]=>true
 |x::xs,y::ys=>f x y && zS f xs ys
 |_,_=>false
theorem PM {α:Type} (f:α->α->Bool):∀(xs ys:List α),xs.length≠ys.length->zS f xs ys=false
 |[],[],h=>absurd rfl h
 |[],_::_,_=>rfl
 |_::_,[],_=>rfl
 |x::xs,y::ys,h=>by
  rw [zS,PM f xs ys (sU h),fX]
theorem Gp {α:Type} (f:α->α->Bool):∀{xs ys:List α} {k:Nat} {x y:α},xs[k]?=some x->ys[k]?=some y->f x y=false->zS f xs ys=false
 |[],_,_,_,_,h,_,_=>dV
 |_::_,[],_,_,_,_,h,_=>dV
 |a::xs,b::ys,0,x,y,h,h',hf=>by
  simp at h h';subst h h';rw [zS,hf,js]
 |a::xs,b::ys,k+1,x,y,h,h',hf=>by
  simp at h h';rw [zS,Gp f h h' hf,fX]
theorem KH {α:Type} (f:α->α->Bool):∀{xs ys:List α} {k:Nat} {x y:α},xs[k]?=some x->ys[k]?=some y->zS f (xs.take (k+1)) (ys.take (k+1))=(zS f (xs.take k) (ys.take k) && f x y)
 |[],_,_,_,_,h,_=>dV
 |_::_,[],_,_,_,_,h=>dV
 |a::xs,b::ys,0,x,y,h,h'=>by
  simp at h h';subst h h';simp [zS]
 |a::xs,b::ys,k+1,x,y,h,h'=>by
  simp at h h';rw [uF,uF,zS,KH f h h',uF,uF,zS,Bool.and_assoc]
theorem pC {α:Type} (f:α->α->Bool) (hf:∀x,f x x=true):∀xs:List α,zS f xs xs=true
 |[]=>rfl
 |x::xs=>by rw [zS,hf,pC f hf xs,mP]
theorem au {w:World} {B e size n:Nat} {v:Value} {xs:List Value} (h:w.ownsRow B e size v n xs):∃A c,v=.slice A n c/\Rd w w.heap.size size A n xs:=by
 rcases h.2 with ⟨rfl,rfl⟩|⟨g,cap,cur,rfl,_⟩
 ·exact ⟨none,0,rfl,Rd.own h⟩
 ·exact ⟨_,_,rfl,Rd.own h⟩
theorem ara {W w1:World} (hb:Ext W w1):(∀b o,b<W.heap.size->w1.cell? (aA b o)=W.cell? (aA b o))/\(∀b o,b<W.heap.size->w1.frozen? (aA b o)=W.frozen? (aA b o)):=
 ⟨fun b o h=>hb.cell (p:=(aA b o)) h,fun b o h=>hb.frozen (p:=(aA b o)) h⟩
def mkd (s N:Nat):List Value:=(List.range N).map fun j=> iI ((s+j:Nat):Int)
theorem al0 (s N:Nat):(mkd s N).length=N:=by simp [mkd]
theorem anw (s N j:Nat) (x:Int) (hj:j<N) (hx:x=((s+j:Nat):Int)):(mkd s N)[j]?=some (iI x):=by
 subst hx;simp [mkd,hj]
section
variable {w w':World} {B e size n c:Nat} {A:OA} {xs:List Value}
theorem Uu (h:w.ownsRow B e size (.slice A n c) n xs) {g:Nat} (hg:A=some ⟨g,0,none⟩) (ys:List Value):B<=g/\Part w g e (c*size) (0*size) ys:=by
 subst hg;rcases h.2 with ⟨h0,_⟩|⟨g',cap,cur,hv,hB,hc,_,_,hs,_⟩
 ·cases h0
 ·injection hv with h1 _ h3;injection h1 with h1;injection h1 with h1;subst h1 h3
  exact ⟨hB,cur,hc,hs,fun j hj=>absurd hj aa⟩
theorem kS (h:w.ownsRow B e size (.slice A n c) n xs) (hn:0<n):∃g,A=some ⟨g,0,none⟩/\n<=c:=by
 rcases h.2 with ⟨_,h0⟩|⟨g',cap,cur,hv,hB,hc,KG,_,hs,_⟩
 ·omega
 ·injection hv with h1 _ h3;subst h1 h3
  exact ⟨g',rfl,KG⟩
theorem adR (h:w.ownsRow B e size (.slice A n c) n xs) (ys:List Value) (hl:ys.length=n*size) (hP:∀g,A=some ⟨g,0,none⟩->B<=g/\Part w' g e (c*size) (n*size) ys):w'.ownsRow B e size (.slice A n c) n ys:=by
 refine ⟨hl,?_⟩;rcases h.2 with h0|⟨g',cap,cur,hv,hB,hc,KG,hmx,hs,_⟩
 ·exact .inl h0
 ·injection hv with h1 _ h3;subst h1 h3;obtain ⟨_,Uv,xG,hs',hj⟩:=hP g' rfl;refine .inr ⟨g',c,Uv,rfl,hB,xG,KG,hmx,hs',?_⟩;apply KA;intro j;have hle:n*size<=c*size:=Ip _ KG;rcases pA j (n*size) with bh|tS
  ·rw [zK bh,<-hj j bh];simp
  ·rw [zJ fq,zJ aa]
theorem grownBy_setCell {g o:Nat} {sp:Option Nat} (h:w.grownBy w' (Value.slice (some ⟨g,o,sp⟩) n c).ownBlock) {off:Nat} (u:Value):w.grownBy (w'.setCell (aA g off) u) (Value.slice (some ⟨g,o,sp⟩) n c).ownBlock:=
 ⟨h.os,h.tape,h.output,oY,fun i hi hne=>(mO w' ⟨g,off,none⟩ u i (fun e=>hne (by subst e;rfl))).trans (h.block i hi hne)⟩
end
section
variable {P:Program} {w0 w:World}
theorem ZP (t ty e:TypeId) (i:TypeInfo) (z:Value) (size bytes:Nat) (ht:P.underlying t=some (.slice e)) (hi:P.info? e=some i) (hz:i.zero=some z)
  (Ce:i.size=size) (Zl:i.bytes=bytes) (Bj:z.cells.size=size) (pq:0<size) (vG:bytes<=70)
  (v:Value) (n:Nat) (xs:List Value) (bc:w.ownsRow w0.heap.size e size v n xs) (cH:Ext w0 w)
  (A:OA) (m c:Nat) (news:List Value) (hr:Rd w w.heap.size size A m news) (h1:∀u∈news,u.oneCell'=true) (hn:n+m<=2000000000000):
  ∃v' w',(Builtin.append_ #[t,t] ty #[v,.slice A m c]).run P w=.ok v' w'/\w'.ownsRow w0.heap.size e size v' (n+m) (xs++news)/\Ext w0 w'/\w.grownBy w' v.ownBlock/\
   (v'.ownBlock=v.ownBlock\/v'.ownBlock=some w.heap.size):=by
 have adS:(n+m)*bytes<=140737488355328:=lK (Im hn vG) aa;have fin:∀w',w.grownBy w' v.ownBlock->Ext w0 w':=fun w' hg=>Below.grown cH hg cH.size (fun k hk=>(bc.lt k hk).1)
 rcases A with _|ad
 ·have hm:m=0:=by
   rcases zQ m with h0|h0
   ·exact h0
   ·obtain ⟨b,o,h,_⟩:=hr.2 h0
    cases h
  subst hm;have ND:news=[]:=xu (sU hr.1);subst ND;refine ⟨v,w,?_,sU bc,cH,jN w _,.inl rfl⟩;rcases bc.2 with ⟨rfl,rfl⟩|⟨g,cap,cur,rfl,_,_,KG,_⟩
  ·simp [Builtin.append_,run_underlying ht,sizeOf,typeInfo,hi,Builtin.lenOf,Builtin.firstCells]
  ·simp [Builtin.append_,run_underlying ht,sizeOf,typeInfo,hi,Builtin.lenOf,Builtin.firstCells,KG,storeCells]
 ·have adT:∀j u,news[j]?=some u->w.cell? (ad.add j)=some u:=by
   intro j u hu;rcases zQ m with h0|h0
   ·subst h0;have ND:news=[]:=xu (sU hr.1);subst ND;simp at hu
   ·obtain ⟨b,o,h,_,hc⟩:=hr.2 h0;injection h with h;subst h;have:=hc j u hu
    by_cases hj:j=0
    ·subst hj;exact this
    ·simpa [Addr.add,hj] using this
  obtain ⟨v',w',adU,h2,h3,_,h5⟩:=run_append_own_at (P:=P) w w0.heap.size t ty e i z size bytes ht hi hz Ce Zl Bj pq v n xs bc ad m c news hr.1 adT h1 (by unfold maxLen;omega) adS cH.size
  exact ⟨v',w',adU,h2,fin w' h3,h3,h5⟩
theorem Uw {o:Oper} {a:Act} {K:Act->World->Prop} {Q:Exit->Act->World->Prop} (s x:Operand) (t:TypeId)
  (ho:aO o s x t)
  (e:TypeId) (i:TypeInfo) (z:Value) (size bytes:Nat) (ht:P.underlying t=some (.slice e)) (hi:P.info? e=some i) (hz:i.zero=some z)
  (Ce:i.size=size) (Zl:i.bytes=bytes) (Bj:z.cells.size=size) (pq:0<size) (vG:bytes<=70)
  (v:Value) (n:Nat) (xs:List Value) (hs:a.eval s=v) (bc:w.ownsRow w0.heap.size e size v n xs) (cH:Ext w0 w)
  (A:OA) (m c:Nat) (news:List Value) (hx:a.eval x=.slice A m c) (hr:Rd w w.heap.size size A m news) (h1:∀u∈news,u.oneCell'=true) (hn:n+m<=2000000000000)
  (h:aH w0 w v e size (n+m) (xs++news) K a o):o.wp P a w K Q:=by
 obtain ⟨v',w',adU,h2,h3,h4,h5⟩:=ZP (P:=P) t o.type e i z size bytes ht hi hz Ce Zl Bj pq vG v n xs bc cH A m c news hr h1 hn;unfold Oper.wp execOp;simp only [ho,resolve,invoke,builtin,Sem.run_bind,Sem.run_pure,Result.andThen_ok,List.map_toArray,KB,List.map_nil,hs,hx,adU]
 exact h v' w' h2 h3 h4 h5
theorem eL {ops:Array Oper} {rest:List Oper} {o:Oper} {a:Act} {Q:Exit->Act->World->Prop} (fx:o.guard=none) (s x:Operand) (t:TypeId)
  (ho:aO o s x t)
  (e:TypeId) (i:TypeInfo) (z:Value) (size bytes:Nat) (ht:P.underlying t=some (.slice e)) (hi:P.info? e=some i) (hz:i.zero=some z)
  (Ce:i.size=size) (Zl:i.bytes=bytes) (Bj:z.cells.size=size) (pq:0<size) (vG:bytes<=70)
  (v:Value) (n:Nat) (xs:List Value) (hs:a.eval s=v) (bc:w.ownsRow w0.heap.size e size v n xs) (cH:Ext w0 w)
  (A:OA) (m c:Nat) (news:List Value) (hx:a.eval x=.slice A m c) (hr:Rd w w.heap.size size A m news) (h1:∀u∈news,u.oneCell'=true) (hn:n+m<=2000000000000)
  (h:aH w0 w v e size (n+m) (xs++news) (wpList P ops Q rest) a o):wpList P ops Q (o::rest) a w:=
 wpList_plain fx fun _ hK=>Uw s x t ho e i z size bytes ht hi hz Ce Zl Bj pq vG v n xs hs bc cH A m c news hx hr h1 hn fun v' w' h2 h3 h4 h5=>hK _ _ (h v' w' h2 h3 h4 h5)
theorem kT {ops:Array Oper} {o:Oper} {a:Act} {K:Act->World->Prop} {Q:Exit->Act->World->Prop} {E:Prop} (fx:o.guard=none) (s x:Operand) (t:TypeId)
  (ho:aO o s x t)
  (e:TypeId) (i:TypeInfo) (z:Value) (size bytes:Nat) (ht:P.underlying t=some (.slice e)) (hi:P.info? e=some i) (hz:i.zero=some z)
  (Ce:i.size=size) (Zl:i.bytes=bytes) (Bj:z.cells.size=size) (pq:0<size) (vG:bytes<=70)
  (v:Value) (n:Nat) (xs:List Value) (hs:a.eval s=v) (bc:w.ownsRow w0.heap.size e size v n xs) (cH:Ext w0 w)
  (A:OA) (m c:Nat) (news:List Value) (hx:a.eval x=.slice A m c) (hr:Rd w w.heap.size size A m news) (h1:∀u∈news,u.oneCell'=true) (hn:n+m<=2000000000000)
  (h:aH w0 w v e size (n+m) (xs++news) K a o):
  if Region.wanted o (yielded ops a.tmps)=true then Oper.wp P o a w K Q else E:=by
 have hw:Region.wanted o (yielded ops a.tmps)=true:=by simp [Region.wanted,fx]
 rw [aX hw]
 exact Uw s x t ho e i z size bytes ht hi hz Ce Zl Bj pq vG v n xs hs bc cH A m c news hx hr h1 hn h
theorem Cf {P:Prop} (h:P:=by
 rw [sJ _ W.heap.size _ cs e (0,0) (yM W _)]
 simpa using hu):P:=h
theorem eh (W:World) (cs:Array Value) (e:TypeId) (size:Nat) (news:List Value) (hc:cs.toList=news) (hl:news.length=size):Rd (W.alloc (.cells cs e)) (W.alloc (.cells cs e)).heap.size size (some ⟨W.heap.size,0,none⟩) 1 news:=by
 subst hc;refine ⟨aa,fun _=>⟨W.heap.size,0,rfl,ag,fun j u hu=>?_⟩⟩
 exact Cf
theorem bL {w0 W:World} (h:Ext w0 W) (b e size n:Nat) (cs:Array Value) (xs:List Value) (hb:b=W.heap.size) (hc:cs.toList=xs) (hs:cs.size=n*size) (hn:n<=1000):(W.alloc (.cells cs e)).ownsRow w0.heap.size e size (.slice (some ⟨b,0,none⟩) n n) n xs:=by
 subst hc hb
 exact ⟨sU hs,.inr ⟨W.heap.size,n,cs,rfl,h.size,yM W _,lI _,by unfold maxLen;omega,hs,by rw [lE aj]⟩⟩
theorem fN (W:World) (cs:Array Value) (b e n size:Nat) (news:List Value) (hb:b=W.heap.size) (hc:cs.toList=news) (hl:news.length=n*size):Rd (W.alloc (.cells cs e)) (W.alloc (.cells cs e)).heap.size size (some ⟨b,0,none⟩) n news:=by
 subst hc hb;refine ⟨hl,fun _=>⟨W.heap.size,0,rfl,ag,fun j u hu=>?_⟩⟩
 exact Cf
theorem aJ (w0 W:World) (e:TypeId) (size:Nat) (h:Ext w0 W):(W.alloc (cO #[] e)).ownsRow w0.heap.size e size (.slice (some ⟨W.heap.size,0,none⟩) 0 0) 0 []:=
 ⟨ag,.inr ⟨W.heap.size,0,#[],rfl,h.size,yM W _,lI _,lJ _,ag,ag⟩⟩
end
section
variable {w w':World} {B size n:Nat} {A:OA} {xs:List Value} {row:Option Nat}
theorem Rd.grown (h:Rd w B size A n xs) (hg:w.grownBy w' row) (hB:B<=w.heap.size) (hr:∀g,row=some g->B<=g):Rd w' B size A n xs:=
 h.keep fun p hp=>sD (hg.block p.block aa (fun e=>by have:=hr _ e.symm;omega))
theorem Rd.up (h:Rd w B size A n xs) (hx:Ext w w') (hB:B<=w.heap.size):Rd w' B size A n xs:=h.below (hx.mono hB)
theorem Rd.bd {w0:World} {B':Nat} {ys:List Value} (h:Rd w B' size A n xs) (h0:Rd w0 B size A n ys) (_:True):Rd w B size A n xs:=
 ⟨h.1,fun hn=>by
  obtain ⟨b,o,e,hb,hc⟩:=h.2 hn;obtain ⟨b',o',e',rb,_⟩:=h0.2 hn;rw [e] at e';injection e' with e';injection e' with e1
  exact ⟨b,o,e,aa,hc⟩⟩
theorem Rd.bdl {w:World} {B B' c:Nat} (h:Rd w B' size A n xs) (hl:∀g,(Value.slice A n c).ownBlock=some g->g<B):Rd w B size A n xs:=
 ⟨h.1,fun hn=>by
  obtain ⟨b,o,e,_,hc⟩:=h.2 hn
  exact ⟨b,o,e,hl b (by rw [e];rfl),hc⟩⟩
theorem cT {base e:Nat} {v:Value} (h:w.ownsRow base e size v n xs) (hg:w.grownBy w' row) (hr:∀g,row=some g->g<base):w'.ownsRow base e size v n xs:=by
 refine h.kept hg ?_
 cases hv:v.ownBlock with
 |none=>exact .inl rfl
 |some k=>
  right;intro e1;have h1:=(h.lt k hv).1;have h2:=hr k e1.symm;omega
theorem aq {base e:Nat} {v:Value} (h:w.ownsRow base e size v n xs) (hx:Ext w w'):w'.ownsRow base e size v n xs:=
 h.kept (row:=none) ⟨hx.os,hx.tape,hx.output,hx.size,fun k hk _=>hx.block k hk⟩ (by cases hv:v.ownBlock<;>simp)
theorem Ext.grown {w0:World} (h:Ext w0 w) (hg:w.grownBy w' row) (hr:∀g,row=some g->w0.heap.size<=g):Ext w0 w':=Below.grown h hg h.size hr
end
theorem aC {w:World} {base base' e size n:Nat} {v:Value} {xs:List Value} (h:w.ownsRow base e size v n xs) (hb:base'<=base):w.ownsRow base' e size v n xs:=by
 refine ⟨h.1,?_⟩;rcases h.2 with h0|⟨g,cap,cur,hv,hB,r⟩
 ·exact .inl h0
 ·exact .inr ⟨g,cap,cur,hv,lK hb hB,r⟩
theorem bk {w:World} {base e size n:Nat} {v:Value} {xs:List Value} (h:w.ownsRow base e size v n xs) {p:Addr} (hp:p.block<base) (u:Value):(w.setCell p u).ownsRow base e size v n xs:=ownsRow_setCell_below h hp u
theorem adV {P:Program} {f:FuncId} {args:Array Value} {w:World} {n:Nat} {v:Value}
  (h:Calls P f args (w.drewN n) fun e w'=>e=.returned v/\w.drewN n=w'):Calls P f args (w.drewN n) fun e w''=>e=.returned v/\∃m,w''=w.drewN m:=
 h.mono fun _ _ ⟨he,hm⟩=>⟨he,n,hm.symm⟩
theorem fr {P:Program} {f:FuncId} {args:Array Value} {w:World} {a n:Nat} {v:Value}
  (h:Calls P f args (w.drewN (a+n)) fun e w'=>e=.returned v/\w.drewN (a+n)=w'):Calls P f args (w.drewN (a+n)) fun e w''=>e=.returned v/\∃m,w''=w.drewN (a+m):=
 h.mono fun _ _ ⟨he,hm⟩=>⟨he,n,hm.symm⟩
def ay (w:World) (g:Nat) (t:TypeId) (cs:Array Value):Prop:=w.heap[g]?=some (.cells cs t (0,0))
section
variable {w w':World} {g t:Nat} {cs:Array Value}
theorem ay.new (w:World) (t:TypeId) (cs:Array Value):ay (w.alloc (.cells cs t)) w.heap.size t cs:=yM w _
theorem ay.newAt {w:World} {t:TypeId} {cs:Array Value} {b:Nat} (hb:b=w.heap.size):ay (w.alloc (.cells cs t)) b t cs:=by subst hb;exact yM w _
theorem ay.ba (h:ay w g t cs) (i:Nat) (u:Value):ay (w.setCell (aA g i) u) g t (cs.setIfInBounds i u):=Nq w g i cs t u h
theorem ay.bX (h:ay w g t cs) {p:Addr} (hp:g≠p.block) (u:Value):ay (w.setCell p u) g t cs:=(mO w p u g hp).trans h
theorem ay.lt (h:ay w g t cs):g<w.heap.size:=by
 rcases pA g w.heap.size with bh|tS
 ·exact bh
 ·unfold ay at h;rw [zL tS] at h;cases h
theorem ay.cell (h:ay w g t cs) (i:Nat):w.cell? (aA g i)=cs[i]?:=sJ w g i cs t (0,0) h
theorem ay.frozen (h:ay w g t cs) (i:Nat):w.frozen? (aA g i)=false:=yS w g i cs t h
theorem ay.ext (h:ay w g t cs) (hx:Ext w w'):ay w' g t cs:=(hx.block g h.lt).trans h
theorem ay.drew (h:ay w g t cs):ay w.drew g t cs:=h
theorem ay.alloc (h:ay w g t cs) (o:Obj):ay (w.alloc o) g t cs:=(Un w o g h.lt).trans h
theorem ay.grown {row:Option Nat} (h:ay w g t cs) (hg:w.grownBy w' row) (hne:∀k,row=some k->g≠k):ay w' g t cs:=(hg.block g h.lt (fun e=>hne g e.symm rfl)).trans h
end
theorem oZ {H:Type} {enc:TypeId ×Value->H} {P:Program} {W W':World} {base:Nat} {sp:Nat->Bool} {held:Bool}:∀{ts:List TypeId} {vs:List Value} {ds:List (DataW H)} {ps:List MemPlace},
  DataW.TrodAll enc P W base sp held ts vs ds ps->(∀p∈ps,W.sameAt W' p)->DataW.TrodAll enc P W' base sp held ts vs ds ps
 |[],[],[],_,h,_=>h
 |_::_,_::_,_::_,_,⟨p,q,⟨n,h1⟩,h2,e⟩,hs=>⟨p,q,⟨n,DataW.trod_carry n _ _ _ h1 (fun x hx=>hs x (by rw [e];exact List.mem_append_left _ hx))⟩,oZ h2 (fun x hx=>hs x (by rw [e];exact List.mem_append_right _ hx)),e⟩
theorem Ux {H:Type} {enc:TypeId ×Value->H} {f:Func} {s:ChangeSpec} {W W':World} {args:Array Value} {ds gs:List (DataW H)} {before:List MemPlace}
  (hv:s.vars=[]) (IE:∀t∈f.params.toList,t<prog.types.size) (hrt:f.resultTypes=#[4])
  (hW:DataW.Whole enc prog f.params.toList s.vars false W args.toList ds gs before)
  (bz:(s.fn H ds).results=[.lit (.bool true)]) (PO:(s.fn H ds).args=ds) (Uy:(s.fn H ds).vars=[])
  (hb:Ext W W'):s.post enc prog f false true false false W args (.bool true) W':=by
 have hW':=hW;obtain ⟨p,q,hA,hV,zT,PQ,ZQ⟩:=hW;rw [hv] at hV;obtain ⟨rfl,rfl⟩:=trodVars_none hV;rw [qZ] at zT;subst zT;have bh:∀x∈before,x.block<W.heap.size:=hA.lt;have hA2:DataW.TrodAll enc prog W' 0 (fun b=>decide (b<W.heap.size)) true f.params.toList args.toList ds before:=
  oZ (DataW.TrodAll.respare (T:=fun t=>t<prog.types.size) kids Cd IE hA (fun x hx=>by simpa using bh x hx)) (fun x hx=>hb.same (bh x hx))
 have hk:W.keptBut W' (fun p=>p∈before/\(p∈([]:List MemPlace)\/p∈before\/p∈([]:List MemPlace))):=
  World.keptBut_mono (may:=(·∈before)) (fun x hx=>lQ hx (Or.inr (Or.inl hx))) (hb.frame (·∈before))
 refine ⟨ds,[],before,[],before,[],hW',?_,?_,?_,hk,fun h=>Bool.noConfusion h⟩
 ·rw [hrt,qZ,bz]
  exact trodAll_cons_mk (shut_bool Uj _) trodAll_mk0
 ·rw [qZ,PO]
  exact hA2
 ·rw [hv,qZ,Uy];rfl
theorem L1 {α:Type} {xs:List α} {i:Nat} (h:i<xs.toArray.size):xs.toArray[i]'h=xs[i]'h:=rfl
theorem L2 {α:Type} {a:α} {l:List α} (h:0<(a::l).length):(a::l)[0]'h=a:=rfl
theorem L3 {α:Type} {a:α} {l:List α} {n:Nat} (h:n+1<(a::l).length):(a::l)[n+1]'h=l[n]'(Nat.lt_of_succ_lt_succ h):=rfl
theorem L4 {α:Type} {l:List α} {i:Nat} {x:α}:l.toArray.setIfInBounds i x=(l.set i x).toArray:=List.setIfInBounds_toArray ..
theorem L5 {α:Type} {x b:α} {l:List α}:(x::l).set 0 b=b::l:=rfl
theorem L6 {α:Type} {x b:α} {l:List α} {n:Nat}:(x::l).set (n+1) b=x::l.set n b:=rfl
section
variable {P:Program} {ops:Array Oper} {Q:Exit->Act->World->Prop} {md:Region.Mode} {S:World->Prop}
theorem tk (i:Nat) {oi:Oper} {v:Value} {fuel:Nat} {listed:Array Bool} {a:Act} {w:World} (hy:∀w,S w->(execOp a.eval oi).run P w=.ok (.value v) w) (h:wpAnyH P md ops Q S fuel (listed.setIfInBounds i true) (a.put oi.dst v) w)
  (hi:ops[i]?=some oi:=by rfl) (hs:Region.noSelect ops=true:=by kernel_rfl) (hf:Region.free md ops listed i=true:=by kernel_rfl) (hr:(Region.ready md ops listed).contains i=true:=by kernel_rfl)
  (hQ:∀c a w,Q (.panic c) (a.put oi.dst v) w->Q (.panic c) a w:=by exact fun _ _ _ h=>h) (hw:Region.wanted oi (yielded ops a.tmps)=true:=by rfl) (hS:S w:=by assumption):wpAnyH P md ops Q S (fuel+1) listed a w:=
 nW hi hs hf hr hQ (Or.inl ⟨hw,hy⟩) hS h
end
theorem xx {w w':World} (h:Ext w w':=by repeat (first|exact xZ _|assumption|refine Ext.alloc ?_ _|refine Ext.drewN ?_ _|refine Ext.drew ?_)):Ext w w':=h
section
variable {P:Program} {ops:Array Oper} {Q:Exit->Act->World->Prop} {md:Region.Mode} {S:World->Prop} {fuel:Nat} {listed l':Array Bool} {a a':Act} {w:World}
theorem tq (i:Nat) {oi:Oper} {v:Value} (h:wpAnyH P md ops Q S fuel l' a' w) (hi:ops[i]?=some oi:=by rfl) (hw:Region.wanted oi (yielded ops a.tmps)=true:=by rfl)
    (hy:∀w,S w->(execOp a.eval oi).run P w=.ok (.value v) w:=by intro w hSw;(try dsimp only at hSw);go_simp;all_goals with_reducible rfl)
    (hl:listed.setIfInBounds i true=l':=by (try simp only [L4,L5,L6]);rfl) (ha:a.put oi.dst v=a':=by (try simp only [Act.put,L1,L2,L3,L4,L5,L6]);rfl)
    (hs:Region.noSelect ops=true:=by kernel_rfl) (hf:Region.free md ops listed i=true:=by kernel_rfl) (hr:(Region.ready md ops listed).contains i=true:=by kernel_rfl)
    (hQ:∀c a w,Q (.panic c) (a.put oi.dst v) w->Q (.panic c) a w:=by exact fun _ _ _ h=>h) (hS:S w:=by assumption):wpAnyH P md ops Q S (fuel+1) listed a w:=by
  subst hl ha
  exact nW hi hs hf hr hQ (Or.inl ⟨hw,hy⟩) hS h
theorem sk (i:Nat) {oi:Oper} (h:wpAnyH P md ops Q S fuel l' a' w) (hi:ops[i]?=some oi:=by rfl) (hw:Region.wanted oi (yielded ops a.tmps)=false:=by first|kernel_rfl|rfl)
    (hl:listed.setIfInBounds i true=l':=by (try simp only [L4,L5,L6]);rfl) (ha:a.put oi.dst undef=a':=by (try simp only [Act.put,L1,L2,L3,L4,L5,L6]);rfl)
    (hs:Region.noSelect ops=true:=by kernel_rfl) (hf:Region.free md ops listed i=true:=by kernel_rfl) (hr:(Region.ready md ops listed).contains i=true:=by kernel_rfl)
    (hQ:∀c a w,Q (.panic c) (a.put oi.dst undef) w->Q (.panic c) a w:=by exact fun _ _ _ h=>h) (hS:S w:=by assumption):wpAnyH P md ops Q S (fuel+1) listed a w:=by
  subst hl ha
  exact nW hi hs hf hr hQ (Or.inr ⟨hw,rfl⟩) hS h
theorem pt (h:wpAnyH P md ops Q S fuel l' a' w) (hl:listed=l':=by (try simp only [L4,L5,L6]);rfl) (ha:a=a':=by (try simp only [Act.put,L1,L2,L3,L4,L5,L6]);rfl):wpAnyH P md ops Q S fuel listed a w:=by
  subst hl ha
  exact h
theorem o1 (i:Nat) {o:Oper} (h:∀K:Act->World->Prop,Shut (∀a w,S w->(S w->wpAnyH P md ops Q S fuel (listed.setIfInBounds i true) a w)->K a w)->if Region.wanted o (yielded ops a.tmps)=true then Oper.wp P o a w K Q else K (a.put o.dst undef) w)
    (ho:ops[i]?=some o:=by rfl) (hr:Region.ready md ops listed=[i]:=by kernel_rfl):wpAnyH P md ops Q S (fuel+1) listed a w:=
  iE hr ag (gV ho h iD)
theorem o2 (i j:Nat) {o p:Oper} (h:∀K:Act->World->Prop,Shut (∀a w,S w->(S w->wpAnyH P md ops Q S fuel (listed.setIfInBounds i true) a w)->K a w)->if Region.wanted o (yielded ops a.tmps)=true then Oper.wp P o a w K Q else K (a.put o.dst undef) w)
    (k:∀K:Act->World->Prop,Shut (∀a w,S w->(S w->wpAnyH P md ops Q S fuel (listed.setIfInBounds j true) a w)->K a w)->if Region.wanted p (yielded ops a.tmps)=true then Oper.wp P p a w K Q else K (a.put p.dst undef) w)
    (ho:ops[i]?=some o:=by rfl) (hp:ops[j]?=some p:=by rfl) (hr:Region.ready md ops listed=[i,j]:=by kernel_rfl):wpAnyH P md ops Q S (fuel+1) listed a w:=
  iE hr ag (gV ho h (gV hp k iD))
theorem dn (h:Q .normal a w) (hr:Region.ready md ops listed=[]:=by kernel_rfl):wpAnyH P md ops Q S fuel listed a w:=wpAnyH_done hr h _
end
theorem ay.ck {w:World} {g:Nat} {t:TypeId} {cs:Array Value} {v:Value} (h:ay w g t cs) (i:Nat) (hv:cs[i]?=some v:=by rfl):w.cell? (aA g i)=some v:=(h.cell i).trans hv
theorem ay.cv {w:World} {g:Nat} {t:TypeId} {cs:Array Value} (h:ay w g t cs) (i:Nat) {a b:Int} (e:a=b) (hv:cs[i]?=some (iI a):=by rfl):w.cell? (aA g i)=some (iI b):=by subst e;exact (h.cell i).trans hv
theorem wA (k:Nat) (h:(k:Int)+1<9223372036854775808):IntKind.i64.wrap ((k:Int)+1)=((k+1:Nat):Int):=by rw [lH _ aa];rfl
theorem wB (k:Nat) (h:(k:Int)+1<9223372036854775808):wrap64 ((k:Int)+1)=((k+1:Nat):Int):=bo
theorem wC (k:Nat) (h:(k:Int)+1<9223372036854775808):IntKind.i64.wrap ((k:Int)+1)=((k+1:Nat):Int)/\wrap64 ((k:Int)+1)=((k+1:Nat):Int):=⟨wA k h,wB k h⟩
section
variable {P:Program} {ops:Array Oper} {Q:Exit->Act->World->Prop} {md:Region.Mode} {S:World->Prop} {fuel:Nat} {listed l':Array Bool} {a a':Act} {w:World}
theorem ov {K:Act->World->Prop} (hK:Shut (∀a w,S w->(S w->wpAnyH P md ops Q S fuel listed a w)->K a w)) (hS:S w) (h:S w->wpAnyH P md ops Q S fuel l' a' w) (hl:listed=l':=by (try simp only [L4,L5,L6]);rfl) (ha:a=a':=by (try simp only [Act.put,L1,L2,L3,L4,L5,L6]);rfl):K a w:=by
  subst hl ha
  exact hK a w hS h
end
theorem ex {α:Type} (a:α):∃x,a=x:=⟨a,rfl⟩
theorem ey {α:Type} (a:α):∃x,x=a:=⟨a,rfl⟩
def xF (x:Int):List Value:=[iI x]
abbrev aG (xs:List Int):List Value:=xs.flatMap xF
theorem bO (x:Int):(xF x).length=1:=rfl
theorem eT {w:World} {B n i:Nat} {A:OA} {xs:List Int} (h:Rd w B 1 A n (aG xs)) (hi:i<n):
  ∃b o x,A=some ⟨b,o,none⟩/\b<B/\xs[i]?=some x/\w.cell? (aA b (o+i))=some (iI x):=by
 obtain ⟨b,o,x,rfl,hb,hx,hc⟩:=jO bO aa h hi;have:=hc 0 _ rfl;rw [yT,qY] at this
 exact ⟨b,o,x,rfl,hb,hx,this⟩
def eqI (x y:Int):Bool:=x==y
theorem Uz (x:Int):eqI x x=true:=by simp [eqI]
theorem Rx {H:Type} {enc:TypeId ×Value->H} {w:World} {spare:Nat->Bool} {held:Bool} (n:Nat) (cs:List Value) (x:DataW H ×List MemPlace) (h:DataW.trod enc prog w 0 spare held n 3 cs=some x):
  ∃g:Int,cs=xF g/\ob g:=FI Nk h
theorem KI {H:Type} {enc:TypeId ×Value->H} {w:World} {spare:Nat->Bool} {held:Bool} {n:Nat} {cs:List Value} {x:DataW H ×List MemPlace} (h:DataW.trod enc prog w 0 spare held n 27 cs=some x):
  ∃(A:OA) (n c:Nat) (gs:List Int),cs=[.slice A n c]/\n<=c/\c<=maxLen/\Rd w w.heap.size 1 A n (aG gs)/\∀g∈gs,ob g:=
 open_row bO aa PJ KF Rx h
theorem adW {H:Type} {enc:TypeId ×Value->H} {w:World} {spare:Nat->Bool} {held:Bool} {base:Nat} {v:Value} {d:DataW H} {p:List MemPlace} (hv:Value.okWide prog w .any base 27 v)
  (h:DataW.Trod enc prog w 0 spare held 27 v d p):
  ∃(A:OA) (n c:Nat) (gs:List Int),v=.slice A n c/\n<=c/\c<=maxLen/\Rd w w.heap.size 1 A n (aG gs)/\∀g∈gs,ob g:=by
 obtain ⟨a,len,cap,rfl⟩:=okWide_slice PJ hv;obtain ⟨n,hn⟩:=h;obtain ⟨A,n,c,gs,e,r⟩:=KI hn;simp [Value.cells] at e;obtain ⟨rfl,rfl,rfl⟩:=e
 exact ⟨_,_,_,gs,rfl,r⟩
theorem PR (xs:List Int):∀u∈aG xs,u.oneCell'=true:=by
 intro u hu;obtain ⟨x,_,hx⟩:=sH.1 hu;simp [xF] at hx;subst hx;rfl
theorem PS:(prog.info? 3).map (fun i=>(i.zero,i.size,i.bytes))=some (some (iI 0),1,8):=af
theorem my {w0 w:World} {ops:Array Oper} {rest:List Oper} {o:Oper} {a:Act} {Q:Exit->Act->World->Prop} (fx:o.guard=none) (s x:Operand)
  (ho:aO o s x 27) (v:Value) (n:Nat) (xs:List Int) (hs:a.eval s=v)
  (bc:w.ownsRow w0.heap.size 3 1 v n (aG xs)) (cH:Ext w0 w) (A:OA) (m c:Nat) (ys:List Int) (hx:a.eval x=.slice A m c) (hr:Rd w w.heap.size 1 A m (aG ys)) (hn:n+m<=2000000000000)
  (h:aH w0 w v 3 1 (n+m) (aG (xs++ys)) (wpList prog ops Q rest) a o):wpList prog ops Q (o::rest) a w:=by
 obtain ⟨i0,hi,eX,gX,jK⟩:=iF PS
 exact eL fx s x _ ho 3 i0 _ 1 8 PJ hi eX gX jK rfl ae ae v n _ hs bc cH A m c _ hx hr (PR ys) hn (fun v' w' h1=>h v' w' (by unfold aG;rw [lR];exact h1))
theorem kU {w0 w:World} {ops:Array Oper} {o:Oper} {a:Act} {K:Act->World->Prop} {Q:Exit->Act->World->Prop} {E:Prop} (fx:o.guard=none) (s x:Operand)
  (ho:aO o s x 27) (v:Value) (n:Nat) (xs:List Int) (hs:a.eval s=v)
  (bc:w.ownsRow w0.heap.size 3 1 v n (aG xs)) (cH:Ext w0 w) (A:OA) (m c:Nat) (ys:List Int) (hx:a.eval x=.slice A m c) (hr:Rd w w.heap.size 1 A m (aG ys)) (hn:n+m<=2000000000000)
  (h:aH w0 w v 3 1 (n+m) (aG (xs++ys)) K a o):if Region.wanted o (yielded ops a.tmps)=true then Oper.wp prog o a w K Q else E:=by
 obtain ⟨i0,hi,eX,gX,jK⟩:=iF PS
 exact kT fx s x _ ho 3 i0 _ 1 8 PJ hi eX gX jK rfl ae ae v n _ hs bc cH A m c _ hx hr (PR ys) hn (fun v' w' h1=>h v' w' (by unfold aG;rw [lR];exact h1))
theorem qb {w0 w:World} {ops:Array Oper} {rest:List Oper} {o:Oper} {a:Act} {Q:Exit->Act->World->Prop} (fx:o.guard=none) (s x:Operand)
  (ho:aO o s x 27) (v:Value) (n:Nat) (xs:List Int) (hs:a.eval s=v)
  (bc:w.ownsRow w0.heap.size 3 1 v n (aG xs)) (cH:Ext w0 w) (y:Int) (e:TypeId) (b:Nat) (hx:a.eval x=.slice (some ⟨b,0,none⟩) 1 1) (qc:b=w.heap.size) (hn:n<=1800000000000)
  (h:∀v' w',w'.ownsRow w0.heap.size 3 1 v' (n+1) (aG (xs++[y]))->Ext w0 w'->(w.alloc (cO #[iI y] e)).grownBy w' v.ownBlock->(v'.ownBlock=v.ownBlock\/v'.ownBlock=some (w.heap.size+1))->wpList prog ops Q rest (a.put o.dst v') w'):wpList prog ops Q (o::rest) a (w.alloc (cO #[iI y] e)):=by
 subst qc;refine my fx s x ho v n xs hs (bc.alloc _) (cH.alloc _) _ 1 1 [y] hx (eh w _ e 1 _ iV iV) aa ?_;intro v' w' h1 h2 h3 h4
 exact h v' w' h1 h2 h3 (sU h4)
end Go.Proofs.YtiajdbllccmokaaGreatDoor
