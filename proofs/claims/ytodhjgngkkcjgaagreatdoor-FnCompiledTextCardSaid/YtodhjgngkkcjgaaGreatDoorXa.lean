import Derived.Test.YtodhjgngkkcjgaaGreatDoorRows
import Derived.WalkKit
import Derived.ProofKit
import Derived.OpenShut
import Derived.Below
import Derived.ReadAgain
import Derived.ChangeSame
import Derived.Laws.OwnMore
import Derived.Laws.Rows
import Derived.Deep.Draws
import Derived.Deep.Slices
import Derived.Deep.Fields
import Derived.Lib.Hide
import Derived.Lib.SmallJoins
import Derived.JoinedCond
import Derived.Deep.QuietTactic
import Derived.BigQuiet
import Derived.StillTailTactics
import Derived.Outline
import Derived.Maps.AppendAt
import Derived.Deep.AppendLies
import Derived.OwnWalk
import Derived.RegionTactic
import Derived.Deep.DeepCutAuto
import Derived.Deep.RegionHeld3
import Derived.OrdersHeld
namespace Go.RowKit
theorem Hid.u {p:Prop} (h:Hid p):p:=h
end Go.RowKit
namespace Go
abbrev World.z (w:World):Nat:=w.heap.size
end Go
namespace Go.Proofs.YtodhjgngkkcjgaaGreatDoor
open Go.ChangeShapes Go.WideShapes Go.ChangeAt Go.RowKit Go.Deep Go.Proofs.Tryz
set_option linter.unusedVariables false
set_option linter.unusedSimpArgs false
set_option maxRecDepth 100000
set_option maxHeartbeats 16000000
abbrev bJ:=@bodyPost_ret
abbrev dt:=@wp_region_held_drew
abbrev gu:=@List.getElem?_eq_some_iff
abbrev aM:=@if_neg
abbrev aY:=@if_pos
abbrev kh:=@decide_eq_true_eq
abbrev ki:=@List.length_cons
abbrev jK:=@List.length_map
abbrev uS:=@List.getElem?_append_right
abbrev lq:=@List.all_eq_true
abbrev iR:=@run_string_add_sum
abbrev iG:=@Option.some.injEq
abbrev oY:=@List.getElem?_append_left
abbrev ic:=@Bool.and_false
abbrev jQ:=@List.flatMap_cons
abbrev kO:=@World.grownBy.refl
abbrev nr:=@List.mem_cons_of_mem
abbrev iT:=@List.mem_append
abbrev ku:=@Bool.false_and
abbrev ju:=@Bool.false_or
abbrev iU:=@AllReadyH.cons
abbrev kx:=@Option.some.inj
abbrev oZ:=@List.mem_singleton
abbrev eS:=@beq_iff_eq
abbrev lZ:=@decide_eq_false
abbrev jw:=@List.mem_cons
abbrev jx:=@AllReadyH.nil
abbrev uA:=@List.getElem?_cons_zero
abbrev rW:=@List.getElem?_eq_none
abbrev qD:=@Nat.lt_of_lt_of_le
abbrev pa:=@Below.heap_setCell
abbrev qE:=@List.length_take_le
abbrev jR:=@Addr.mk.injEq
abbrev yi:=@List.getElem?_take_of_lt
abbrev uB:=@World.cell?_of_block
abbrev Bm:=@List.eq_nil_of_length_eq_zero
abbrev jy:=@wpAnyH_ready
abbrev ma:=@Bool.true_or
abbrev oc:=@Bool.true_and
abbrev uC:=@List.getElem?_toArray
abbrev vI:=@List.drop_of_length_le
abbrev pb:=@Bool.and_true
abbrev pc:=@results_cell_row
abbrev pg:=@List.take_length
abbrev rX:=@List.mem_cons_self
abbrev jz:=@wpAnyH_take
abbrev Bn:=@List.drop_eq_getElem_cons
abbrev kP:=@underlying39
abbrev pj:=@Bool.or_true
abbrev rY:=@List.getElem?_map
abbrev rZ:=@List.foldl_append
abbrev yj:=@List.take_append_drop
abbrev qF:=@List.map_append
abbrev qG:=@List.all_append
abbrev jH:=@info_parts
abbrev uD:=@Bool.or_false
abbrev vJ:=@List.append_assoc
abbrev vK:=@List.getElem?_drop
abbrev yk:=@Array.getElem?_eq_none
abbrev yl:=@List.take_succ_cons
abbrev od:=@Nat.lt_or_ge
abbrev oh:=@Nat.add_zero
abbrev vN:=@List.mem_flatMap
abbrev FH:=@Array.length_toList
abbrev yp:=@Int.toNat_natCast
abbrev qH:=@List.mem_map
abbrev vO:=@List.foldl_cons
abbrev Bo:=@heap_setCell_other
abbrev yq:=@Nat.lt_succ_self
abbrev DB:=@Nat.pow_le_pow_right
abbrev vP:=@decide_eq_true
abbrev DE:=@beq_eq_false_iff_ne
abbrev yr:=@List.length_nil
abbrev yt:=@List.append_nil
abbrev DF:=@Nat.eq_zero_or_pos
abbrev FI:=@List.mem_of_mem_take
abbrev FJ:=@List.contains_eq_mem
abbrev DH:=@of_decide_eq_true
abbrev abe:=@ByteArray.size_extract
abbrev yu:=@underlying222
abbrev yv:=@underlying207
abbrev DI:=@List.cons_append
abbrev nt:=@ntmps216
abbrev Bp:=@List.drop_zero
abbrev FK:=@List.filter_append
abbrev vQ:=@underlying27
abbrev yw:=@Nat.le_of_lt
abbrev FL:=@List.flatten_cons
abbrev FM:=@List.ext_getElem?
abbrev FN:=@List.all_eq_false
abbrev Bq:=@underlying251
abbrev pk:=@ntmps209
abbrev DJ:=@List.mem_range
abbrev FO:=@List.getElem_mem
abbrev nu:=@func216
abbrev DK:=@underlying234
abbrev DL:=@List.map_cons
abbrev DM:=@ByteArray.ext
abbrev Qp:=@ByteArray.data_append
abbrev Qq:=@Bool.eq_false_iff
abbrev mr:=@congrArg
abbrev vR:=@cell_of_row
abbrev CC:=@heap_alloc_new
abbrev Ni:=@Int.tmod_eq_emod_of_nonneg
abbrev kj:=@func209
abbrev vS:=@Nat.succ_mul
abbrev CD:=@List.any_eq_true
abbrev FP:=@World.grownBy.trans
abbrev FQ:=@List.flatten_append
abbrev Nj:=@List.countP_cons_of_pos
abbrev zz:=@Nat.add_comm
abbrev CE:=@Nat.mul_le_mul
abbrev CF:=@List.take_zero
abbrev Nk:=@Option.map_eq_some_iff
abbrev Nl:=@Array.getElem?_extract
abbrev CH:=@frozen_of_row
abbrev zA:=@underlying9
abbrev vT:=@Nat.mul_one
abbrev Nn:=@Nat.mul_le_mul_right
abbrev FR:=@List.range_succ
abbrev FT:=@List.length_set
abbrev Np:=@List.drop_succ_cons
abbrev Nq:=@ByteArray.toList_eq
abbrev Nr:=@Array.toList_append
abbrev CI:=@underlying22
abbrev CJ:=@Nat.sub_self
abbrev CK:=@Nat.le_of_eq
abbrev Ns:=@List.find?_eq_none
abbrev Tv:=@List.mem_of_find?_eq_some
abbrev Tw:=@List.getLastD_eq_getLast?
abbrev Nt:=@List.findIdx_cons
abbrev Nu:=@Bool.not_eq_true'
abbrev Nv:=@List.prefix_refl
abbrev Tx:=@List.countP_cons_of_neg
abbrev FU:=@bodyPost_end
abbrev Nw:=@Bool.or_eq_true
abbrev Nx:=@Bool.eq_iff_iff
abbrev Ty:=@List.set_append_right
abbrev Tz:=@List.mem_iff_getElem?
abbrev FV:=@underlying4
abbrev FW:=@underlying3
abbrev TA:=@List.getElem?_of_mem
abbrev vU:=@ntmps20
abbrev vV:=@Ne.symm
abbrev TC:=@List.getElem_of_mem
abbrev Ny:=@underlying183
abbrev Nz:=@Nat.add_assoc
abbrev NA:=@List.sum_cons
abbrev TD:=@UInt8.toNat_ofNat'
abbrev TE:=@List.set_cons_succ
abbrev TF:=@Int.emod_lt_of_pos
abbrev NB:=@underlying41
abbrev NC:=@underlying25
abbrev ND:=@Nat.zero_mul
abbrev NF:=@Nat.ne_of_gt
abbrev NG:=@List.map_map
abbrev TH:=@heap_setCell_same
abbrev TI:=@Nat.le_succ_of_le
abbrev TJ:=@List.take_add_one
abbrev TK:=@List.length_range
abbrev abf:=@List.takeWhile_append_dropWhile
abbrev vW:=@func20
abbrev TL:=@List.take_append
abbrev TM:=@List.not_mem_nil
abbrev TN:=@List.drop_append
abbrev TP:=@Below.heap_alloc
abbrev NH:=@underlying5
abbrev abg:=@List.getLast?_eq_some_getLast
abbrev TQ:=@run_loadVar_row
abbrev TR:=@Option.map_some
abbrev TS:=@List.sum_append
abbrev TT:=@List.cons.injEq
abbrev TU:=@Int.emod_nonneg
abbrev abh:=@Array.getElem?_setIfInBounds
theorem yx {P:Prop} (h:P:=by rw [<-Qa];exact HY.u w' q z aa):P:=h
theorem re {P:Prop} (h:P:=by have h1:=HZ.u;have h2:=pn oH.u;have h3:=pn DN.u;unfold Hid;omega):P:=h
theorem yy {P:Prop} (h:P:=by have h1:=HZ.u;have h2:=pn Ez.u;have h3:=pn LQ.u;unfold Hid;omega):P:=h
theorem ik {P:Prop} (h:P:=by rw [HLE.u];exact qw):P:=h
theorem yA {P:Prop} (h:P:=by unfold Hid;rw [<-ht];exact lK (HZ.u _) (by decide)):P:=h
theorem yB {P:Prop} (h:P:=by have:=DD.u.len_;have:=HKZ.u;show xs.length<=_;omega):P:=h
theorem yC {P:Prop} (h:P:=by unfold Hid;show (w1.alloc _).heap.size=_;simp):P:=h
theorem mK {P:Prop} (h:P:=by rw [ky,HN9.u];exact iD.u):P:=h
theorem mL {P:Prop} (h:P:=by unfold Hid;simp):P:=h
theorem yD {P:Prop} (h:P:=by rw [eT,TV.u];exact aj mf.u (EWG.u.trans fP.u)):P:=h
theorem yE {P:Prop} (h:P:=by rw [eT,TV.u];exact aj mf.u (fP.u.trans EWG.u)):P:=h
theorem yF {P:Prop} (h:P:=by unfold Hid;rw [<-dw];exact lK (HZ.u _) (by decide)):P:=h
theorem yG {P:Prop} (h:P:=by rw [<-dw];exact HY.u _ D1.u.x 1 (by omega)):P:=h
theorem yH {P:Prop} (h:P:=by rw [oZ] at hx;subst hx;exact ⟨q0,q4⟩):P:=h
theorem rf {P:Prop} (h:P:=by rw [lA,Qb.u];exact t1):P:=h
theorem jS {P:Prop} (h:P:=by rw [cT.u];omega):P:=h
theorem rh {P:Prop} (h:P:=by intro b o e;injection e with e;injection e with e1;have:=HD.u.cu.lt;omega):P:=h
theorem ri {P:Prop} (h:P:=by simp [results,results55,go_sem,q0,q1,q2,q3,p0,p1]):P:=h
theorem rj {P:Prop} (h:P:=by rw [HLE.u];exact abj):P:=h
theorem yI {P:Prop} (h:P:=by obtain ⟨A',c',rfl,hr⟩:=ak bj;exact hr.len (by intro x;rfl) (by omega)):P:=h
theorem yJ {P:Prop} (h:P:=by unfold Hid;rw [cT.u];exact aC bj cH.u.size):P:=h
theorem yK {P:Prop} (h:P:=by have:=(VG i hi).2;rw [lM] at this;exact (q.cell (p:=(aA b i)) hb).trans this):P:=h
theorem yL {P:Prop} (h:P:=by have:=uE.u.1;have:=uE.u.2.1;unfold wrap64;omega):P:=h
theorem rk {P:Prop} (h:P:=by injection e with e;exact e.symm):P:=h
theorem yM {P:Prop} (h:P:=by unfold Hid;rw [Qr.u,HO.u,vJ,HOP.u]):P:=h
theorem fQ {P:Prop} (h:P:=by simp [bne,Qs]):P:=h
theorem yN {P:Prop} (h:P:=by unfold Hid vC;rw [lZ (p:=x.ops.length<=1200) (by omega)];simp):P:=h
theorem rm {P:Prop} (h:P:=by injection e1 with e1;exact e1.symm):P:=h
theorem mM {P:Prop} (h:P:=by simp [bne,hne]):P:=h
theorem yO {P:Prop} (h:P:=by rw [oY (by rw [h.1];exact FX)];exact e1):P:=h
theorem yP {P:Prop} (h:P:=by intro u' hu';rw [oZ] at hu';subst hu';exact hu):P:=h
theorem mN {P:Prop} (h:P:=by unfold Hid Ext;exact xx):P:=h
theorem yQ {P:Prop} (h:P:=by rw [yi (by omega)];exact hi):P:=h
theorem mO {P:Prop} (h:P:=by rw [EW];exact om _ w'):P:=h
theorem il {P:Prop} (h:P:=by rw [cT.u];exact lI _):P:=h
theorem yR {P:Prop} (h:P:=by unfold Hid alike;simp only [e1,e2,e3,e4,e6,e7,oc,ku,pb,ic,pj,ma,ju,uD]):P:=h
theorem yS {P:Prop} (h:P:=by unfold Hid alike;simp only [e1,e2,e3,e4,e5,e6,e7,oc,ku,pb,ic,pj,ma,ju,uD]):P:=h
theorem yT {P:Prop} (h:P:=by unfold Hid alike;simp only [e1,e2,e4,e6,e7,oc,ku,pb,ic,pj,ma,ju,uD]):P:=h
theorem yU {P:Prop} (h:P:=by unfold Hid alike;simp only [e1,e2,e4,e5,e6,e7,oc,ku,pb,ic,pj,ma,ju,uD]):P:=h
theorem bY {P:Prop} (h:P:=by simp only [lL,jT,es1,es2,es3,es4];omega):P:=h
theorem rp {P:Prop} (h:P:=by rw [NI hv h9];exact hc):P:=h
theorem im {P:Prop} (h:P:=by rw [hs];exact lI _):P:=h
theorem mP {P:Prop} (h:P:=by unfold Hid;rw [HR.u,hv];simp [Br,FY,Oq.g1]):P:=h
theorem mQ {P:Prop} (h:P:=by unfold Hid;rw [FZ VH.u VI.u rfl];simp [Br,FY,Oq.g1,vX]):P:=h
theorem yV {P:Prop} (h:P:=by unfold Hid;rw [HR.u];simp [Br,FY,Oq.g2]):P:=h
theorem dz {P:Prop} (h:P:=by unfold Hid;rw [Ga VH.u VI.u rfl];simp [Br,FY,Oq.g2,vX]):P:=h
theorem yX {P:Prop} (h:P:=by unfold Hid;rw [HR.u];simp [Br,FY,Oq.g3]):P:=h
theorem cM {P:Prop} (h:P:=by unfold Hid;rw [Gb VH.u VI.u rfl];simp [Br,FY,Oq.g3,vX]):P:=h
theorem mR {P:Prop} (h:P:=by rw [abk];exact HA.u.2):P:=h
theorem jU {P:Prop} (h:P:=by rw [HO.u];rfl):P:=h
theorem yY {P:Prop} (h:P:=by unfold Hid eU se;rw [hv,ha,Yt,h9,h11];rfl):P:=h
theorem mS {P:Prop} (h:P:=by have:=h.2.2.1;show _≠q;omega):P:=h
theorem fR {P:Prop} (h:P:=by simp [hk]):P:=h
theorem rq {P:Prop} (h:P:=by unfold Hid uT;rw [hv];simp):P:=h
theorem yZ {P:Prop} (h:P:=by rw [<-hiz];exact qI g p.n k true w' lu Qt HB.u.1.1 HB.u.1.2 HB.u.2.1.1 HB.u.2.1.2 HC.u HB.u.2.2):P:=h
theorem zd {P:Prop} (h:P:=by unfold Hid;rw [af8 NJ,<-hmz,<-hiz];rfl):P:=h
theorem rr {P:Prop} (h:P:=by rw [Pt.aG];omega):P:=h
theorem ru {P:Prop} (h:P:=by have:=HP.u;unfold wrap64;omega):P:=h
theorem ze {P:Prop} (h:P:=by rw [bne,show (y.c==0)=true by simpa using mg];rfl):P:=h
theorem zf {P:Prop} (h:P:=by rw [bne,show (y.c==0)=false by simpa using mg];rfl):P:=h
theorem fS {P:Prop} (h:P:=by simp at hz;omega):P:=h
theorem zg {P:Prop} (h:P:=by rw [<-hh];exact qy p w'):P:=h
theorem mT {P:Prop} (h:P:=by rw [<-hc];exact sZ x p w' HVX.u HVP.u):P:=h
theorem zh {P:Prop} (h:P:=by rw [<-hv];exact bn g n w'):P:=h
theorem iq {P:Prop} (h:P:=by have:=aK.size;simpa using this):P:=h
theorem zi {P:Prop} (h:P:=by rw [Lc];exact ((au.newAt (b:=w2.heap.size+1) (by simp)).ext bO)):P:=h
theorem rz {P:Prop} (h:P:=by rw [show a+b - q=b by omega];exact lH _ (by omega)):P:=h
theorem rA {P:Prop} (h:P:=by rw [show a+b - q=a by omega];exact lH _ (by omega)):P:=h
theorem ir {P:Prop} (h:P:=by rw [fx];exact hne (by decide)):P:=h
theorem mU {P:Prop} (h:P:=by simp [Af.cells]):P:=h
theorem fT {P:Prop} (h:P:=by unfold Hid;exact xx):P:=h
theorem dA {P:Prop} (h:P:=by unfold Hid fo;rw [aM (by rw [ha];simp)];rfl):P:=h
theorem mV {P:Prop} (h:P:=by rw [ha];simp):P:=h
theorem fU {P:Prop} (h:P:=by cases e):P:=h
theorem dB {P:Prop} (h:P:=by injection e):P:=h
theorem dT {P:Prop} (h:P:=by rw [mW];exact bj.alloc _):P:=h
theorem iu {P:Prop} (h:P:=by intro b o e;injection e with e;injection e with e1;omega):P:=h
theorem mX {P:Prop} (h:P:=by rw [bne,hn];rfl):P:=h
theorem fV {P:Prop} (h:P:=by rw [h];decide):P:=h
theorem eV {P:Prop} (h:P:=by simp [Pa.cells]):P:=h
theorem rB {P:Prop} (h:P:=by have:=(gu.1 h).1;simpa [qs] using this):P:=h
theorem mY {P:Prop} (h:P:=by simp [bne,fc]):P:=h
theorem aw {P:Prop} (h:P:=by exact xx):P:=h
theorem zj {P:Prop} (h:P:=by unfold Hid zB;rw [i0,i1,i2,i3,i4]<;>simp):P:=h
theorem aL {P:Prop} (h:P:=by assumption):P:=h
theorem mZ {P:Prop} (h:P:=by rw [HL.u];omega):P:=h
theorem zk {P:Prop} (h:P:=by unfold Hid;rw [Qu _ HG.u VJ.u,HQ.u,hq];rfl):P:=h
theorem rC {P:Prop} (h:P:=by rw [bne_iff_ne];omega):P:=h
theorem eW {P:Prop} (h:P:=by simp [Oq.cells]):P:=h
theorem rD {P:Prop} (h:P:=by simp [Gt.cells,g1,hU]):P:=h
theorem ah {P:Prop} (h:P:=by rfl):P:=h
theorem rE {P:Prop} (h:P:=by rw [lH _ (by omega)];omega):P:=h
theorem na {P:Prop} (h:P:=by rw [abe];omega):P:=h
theorem rF {P:Prop} (h:P:=by rw [FH];rfl):P:=h
theorem dU {P:Prop} (h:P:=by rw [e]):P:=h
theorem ay {P:Prop} (h:P:=by injection hk;omega):P:=h
theorem cN {P:Prop} (h:P:=by have:=aK (by omega);omega):P:=h
theorem rG {P:Prop} (h:P:=by unfold Hid wrap64;omega):P:=h
theorem bN {P:Prop} (h:P:=by unfold Hid;omega):P:=h
theorem eX {P:Prop} (h:P:=by simp [Ed.cells]):P:=h
theorem zl {P:Prop} (h:P:=by unfold fC;split<;>(try split)<;>(try split)<;>omega):P:=h
theorem aZ {P:Prop} (h:P:=by simp [h]):P:=h
theorem eY {P:Prop} (h:P:=by simp [h2]):P:=h
theorem az {P:Prop} (h:P:=by go_num):P:=h
theorem bQ {P:Prop} (h:P:=by rw [hlen.u];omega):P:=h
theorem iw {P:Prop} (h:P:=by unfold ar;omega):P:=h
theorem dV {P:Prop} (h:P:=by rw [lS];omega):P:=h
theorem dW {P:Prop} (h:P:=by simp [Gt.cells]):P:=h
theorem ae {P:Prop} (h:P:=by decide):P:=h
theorem jV {P:Prop} (h:P:=by simp [Bs]):P:=h
theorem af {P:Prop} (h:P:=by kernel_rfl):P:=h
theorem aa {P:Prop} (h:P:=by omega):P:=h
theorem ag {P:Prop} (h:P:=by simp):P:=h
theorem fW {P:Prop} (h:P:=by rw [lT];omega):P:=h
theorem dC {P:Prop} (h:P:=by simp [h1]):P:=h
theorem dX {P:Prop} (h:P:=by simp at h):P:=h
theorem rH {P:Prop} (h:P:=by simpa [World.setCell] using h.size):P:=h
theorem nc {P:Prop} (h:P:=by unfold maxLen;omega):P:=h
theorem ai {P:Prop} (h:P:=by simp;omega):P:=h
theorem bk {P:Prop} (h:P:=by unfold wrap64;omega):P:=h
theorem oM {A P:Prop} (a:A) (h:A->P:=by intro;omega):P:=h a
theorem oN {A B P:Prop} (a:A) (b:B) (h:A->B->P:=by intro _ _;omega):P:=h a b
theorem sU {A P:Prop} (a:A) (h:A->P:=by intro a;simpa using a):P:=h a
abbrev iI (x:Int):Value:=.int .i64 x
abbrev OA:=Option Addr
abbrev cO (a:Array Value) (t:TypeId):Obj:=.cells a t
abbrev nS:Value:=.slice none 0 0
abbrev jG:Array Value:=#[iI 0,iI 0,nS,nS,nS]
abbrev jB:Array Value:=#[iI 0,iI 0,nS,nS]
abbrev jC:Array Value:=#[iI 0,nS]
abbrev zO:Array Value:=#[iI 0,iI 0,iI 0,iI 0]
abbrev jD:Array Value:=#[nS,iI 0,nS]
abbrev aA (b o:Nat):Addr:=⟨b,o,none⟩
theorem hY {p:Prop} (h:p):RowKit.Hid p:=h
abbrev lA:=@List.length_append
abbrev lB:=@List.getElem?_eq_getElem
abbrev lC:=@List.getElem?_eq_some_iff
abbrev lD:=@Int.eq_ofNat_of_zero_le
abbrev lE:=@List.take_of_length_le
abbrev lF:=@Bool.and_eq_true
abbrev lG:=@List.mem_of_getElem?
abbrev lH:=@IntWalk.i64_in
abbrev lI:=@Nat.le_refl
abbrev lJ:=@Nat.zero_le
abbrev lK:=@Nat.le_trans
abbrev lL:=@ByteArray.size_append
abbrev lM:=@Nat.zero_add
abbrev lN:=@List.nil_append
abbrev lO:=@List.all_eq_true
abbrev lP:=@List.getD_eq_getElem?_getD
abbrev lQ:=@And.intro
abbrev lR:=@List.flatMap_append
abbrev lS:=@beq_eq_false_iff_ne
abbrev lT:=@List.length_take
abbrev lU:=@List.length_drop
theorem own:ownKnob prog.godebug=none:=af
theorem laidOut:laidOutB prog=true:=af
theorem aoh:mapsRowed prog=true:=af
theorem Qv:prog.cellsOf 3=1:=af
theorem kids:Kids prog (fun t=>t<prog.types.size):=kids_rows laidOut aoh
theorem Gc:∀t e,t<prog.types.size->prog.underlying t=some (.slice e)->0<prog.cellsOf e:=slices_full_of _ af
abbrev Ext (w w':World):Prop:=Below w.heap.size w w'
theorem xZ (w:World):Ext w w:=Below.refl _ _
abbrev aO (o:Oper) (s x:Operand) (t:TypeId):Prop:=o.op=.call {callee:=.builtin .append,args:=#[s,x],argTypes:=#[t,t]}
abbrev aH (w0 w:World) (v:Value) (e:TypeId) (z n:Nat) (ys:List Value) (X:Act->World->Prop) (a:Act) (o:Oper):Prop:=∀v' w',w'.ownsRow w0.heap.size e z v' n ys->Ext w0 w'->w.grownBy w' v.ownBlock->(v'.ownBlock=v.ownBlock\/v'.ownBlock=some w.heap.size)->X (a.put o.dst v') w'
theorem Ext.trans {a b c:World} (h:Ext a b) (k:Ext b c):Ext a c:=Below.trans h (k.mono h.size)
theorem Ext.alloc {w w':World} (h:Ext w w') (o:Obj):Ext w (w'.alloc o):=Below.alloc h h.size o
theorem Ext.drew {w w':World} (h:Ext w w'):Ext w w'.drew:=Below.drew h
theorem Ext.drewN {w w':World} (h:Ext w w') (n:Nat):Ext w (w'.drewN n):=⟨h.os,h.tape,h.output,h.size,h.block⟩
theorem Ext.setCell {w w':World} (h:Ext w w') {p:Addr} (hp:w.heap.size<=p.block) (u:Value):Ext w (w'.setCell p u):=Below.setCell h hp u
theorem eB {k:IntKind} {a b:Int} (h:a=b):Ending.returned (.int k a)=.returned (.int k b):=by rw [h]
theorem aI {a b:Bool} (h:a=b):Ending.returned (.bool a)=.returned (.bool b):=by rw [h]
def szF (l:Int) (n:Nat):Int:=if l<n then -1 else l - n
theorem atl {l:Int} {n:Nat} (h:l<n):szF l n= -1:=aY h
theorem atm {l:Int} {n:Nat} (h:¬l<n):szF l n=l - n:=aM h
theorem aS {α:Type} {l:List α} {k:Nat} {g:α} (h:l[k]?=some g):l.take (k+1)=l.take k++[g]:=by
 obtain ⟨hk,rfl⟩:=gu.1 h;rw [List.take_succ_eq_append_getElem hk]
section
variable {w w':World} {B B' size n:Nat} {A:OA} {xs:List Value}
def Rd (w:World) (B size:Nat) (A:OA) (n:Nat) (xs:List Value):Prop:=
 xs.length=n*size/\(0<n->∃b o,A=some ⟨b,o,none⟩/\b<B/\∀j u,xs[j]?=some u->w.cell? (aA b (o+j))=some u)
theorem Rd.keep (h:Rd w B size A n xs) (hk:∀p:Addr,p.block<B->w'.cell? p=w.cell? p):Rd w' B size A n xs:=
 ⟨h.1,fun hn=>by
  obtain ⟨b,o,e,hb,hc⟩:=h.2 hn
  exact ⟨b,o,e,hb,fun j u hu=>(hk _ hb).trans (hc j u hu)⟩⟩
theorem Rd.more (h:Rd w B size A n xs) (hB:B<=B'):Rd w B' size A n xs:=
 ⟨h.1,fun hn=>by
  obtain ⟨b,o,e,hb,hc⟩:=h.2 hn
  exact ⟨b,o,e,aa,hc⟩⟩
theorem Rd.below (h:Rd w B size A n xs) (hb:Below B w w'):Rd w' B size A n xs:=h.keep fun _ hp=>hb.cell hp
theorem Rd.ext (h:Rd w w.heap.size size A n xs) (hb:Ext w w'):Rd w' w'.heap.size size A n xs:=(h.below hb).more hb.size
theorem Rd.own {base:Nat} {e:TypeId} {c:Nat} (h:w.ownsRow base e size (.slice A n c) n xs):Rd w w.heap.size size A n xs:=by
 refine ⟨h.1,fun hn=>?_⟩;rcases h.2 with ⟨_,h0⟩|⟨g,cap,cur,hv,_,hh,LR,_,hs,hx⟩
 ·omega
 ·have hA:A=some ⟨g,0,none⟩:=by injection hv
  subst hA;refine ⟨g,0,rfl,?_,fun j u hu=>?_⟩
  ·rcases od g w.heap.size with ba|uU
   ·exact ba
   ·rw [yk uU] at hh;cases hh
  ·rw [vR w g _ cur e (0,0) hh];rw [<-hx] at hu;have hj:j<n*size:=by
    have h2:=(gu.1 hu).1;rw [lT] at h2;omega
   rw [yi hj] at hu;simpa using hu
end
section
variable {α:Type} {f:α->List Value} {m:Nat}
theorem gB (hf:∀x,(f x).length=m) (xs:List α):(xs.flatMap f).length=xs.length*m:=by
 induction xs with
 |nil=>simp
 |cons x xs ih=>rw [jQ,lA,ih,hf,ki,vS,zz]
theorem xt (hf:∀x,(f x).length=m) (xs:List α) (i:Nat) (x:α) (h:xs[i]?=some x) (j:Nat) (hj:j<m):(xs.flatMap f)[i*m+j]?=(f x)[j]?:=by
 induction xs generalizing i with
 |nil=>simp at h
 |cons y xs ih=>
  cases i with
  |zero=>
   simp at h;subst h;rw [jQ,oY (by rw [hf];omega),ND,lM]
  |succ i=>
   simp at h;rw [jQ,uS (by rw [hf,vS];omega),<-ih i h,hf];congr 1;rw [vS];omega
theorem kQ {w:World} {B n i:Nat} {A:OA} {xs:List α} (hf:∀x,(f x).length=m) (hm:0<m) (h:Rd w B m A n (xs.flatMap f)) (hi:i<n):
  ∃b o x,A=some ⟨b,o,none⟩/\b<B/\xs[i]?=some x/\∀j u,(f x)[j]?=some u->w.cell? (aA b (o+i*m+j))=some u:=by
 obtain ⟨b,o,rfl,hb,hc⟩:=h.2 aa;have hl:=h.1;rw [gB hf] at hl;have hi':i<xs.length:=qD hi (Nat.le_of_mul_le_mul_right (CK hl.symm) hm);refine ⟨b,o,xs[i],rfl,hb,ag,fun j u hu=>?_⟩;have hj:j<m:=by rw [<-hf xs[i]];exact (gu.1 hu).1
 rw [Nz]
 exact hc _ u (by rw [xt hf xs i xs[i] ag j hj];exact hu)
theorem Rd.len {w:World} {B n:Nat} {A:OA} {xs:List α} (hf:∀x,(f x).length=m) (hm:0<m) (h:Rd w B m A n (xs.flatMap f)):xs.length=n:=by
 have hl:=h.1;rw [gB hf] at hl
 exact Nat.eq_of_mul_eq_mul_right hm hl
end
def Part (w:World) (g:Nat) (e:TypeId) (N k:Nat) (xs:List Value):Prop:=
 ∃cur:Array Value,w.heap[g]?=some (.cells cur e (0,0))/\cur.size=N/\∀j,j<k->cur[j]?=xs[j]?
section
variable {w w':World} {g N k:Nat} {e:TypeId} {xs:List Value}
theorem Part.start (w:World) (cur:Array Value) (e:TypeId) (xs:List Value) (h:cur.size=N):Part (w.alloc (.cells cur e)) w.heap.size e N 0 xs:=
 ⟨cur,CC w _,h,fun j hj=>absurd hj aa⟩
theorem Part.lt (h:Part w g e N k xs):g<w.heap.size:=by
 obtain ⟨cur,hc,_,_⟩:=h;rcases od g w.heap.size with ba|uU
 ·exact ba
 ·rw [yk uU] at hc;cases hc
theorem Part.ext (h:Part w g e N k xs) (hx:Ext w w'):Part w' g e N k xs:=by
 have hl:=h.lt;obtain ⟨cur,hc,hs,hj⟩:=h
 exact ⟨cur,(hx.block g hl).trans hc,hs,hj⟩
theorem Part.cell (h:Part w g e N k xs) {j:Nat} (hj:j<N):∃u,w.cell? (aA g j)=some u:=by
 obtain ⟨cur,hc,hs,_⟩:=h;rw [vR w g j cur e (0,0) hc]
 exact ⟨cur[j],Array.getElem?_eq_getElem aa⟩
theorem Part.frozen (h:Part w g e N k xs) (j:Nat):w.frozen? (aA g j)=false:=by
 obtain ⟨cur,hc,_,_⟩:=h
 exact CH w g j cur e hc
theorem Part.aU (h:Part w g e N k xs) {u:Value} (hu:xs[k]?=some u) (hk:k<N):Part (w.setCell (aA g k) u) g e N (k+1) xs:=by
 obtain ⟨cur,hc,hs,hj⟩:=h;refine ⟨cur.setIfInBounds k u,TH w g k cur e u hc,sU hs,fun j hjk=>?_⟩;rw [abh]
 by_cases e1:k=j
 ·subst e1;rw [aY rfl,aY aa,hu]
 ·rw [aM e1]
  exact hj j aa
theorem Part.own {B n size:Nat} (h:Part w g e (n*size) (n*size) xs) (hl:xs.length=n*size) (hB:B<=g) (hn:n<=maxLen):w.ownsRow B e size (.slice (some ⟨g,0,none⟩) n n) n xs:=by
 obtain ⟨cur,hc,hs,hj⟩:=h;refine ⟨hl,.inr ⟨g,n,cur,rfl,hB,hc,lI _,hn,hs,?_⟩⟩;apply FM;intro j;rcases od j (n*size) with ba|uU
 ·rw [yi ba,<-hj j ba];simp
 ·rw [rW fW,rW aa]
end
theorem af9 {P:Program} (t e:TypeId) (i:TypeInfo) (z:Value) (ht:P.underlying t=some (.slice e)) (hi:P.info? e=some i) (hz:i.zero=some z) (n:Nat) (hb:i.bytes<=1000) (hn:n<=1048576) (w:World):
  (Instr.makeSlice t (iI (n:Int)) (iI (n:Int))).run P w=.ok (.slice (some ⟨w.heap.size,0,none⟩) n n) (w.alloc (cO (madeCells z.cells (n*i.size)) e)):=by
 have h2:i.bytes*n<=1000*1048576:=CE hb hn;have h3:((i.bytes:Int)*(n:Int))<=281474976710656:=by
  have h4:((i.bytes*n:Nat):Int)<=281474976710656:=aa
  rwa [Int.natCast_mul] at h4
 have hr:=run_make (P:=P) w t e i z ht hi hz .i64 .i64 n n aa aa h3 aa;simp only [yp] at hr
 exact hr
theorem ato {α:Type} {l:List α} (h:l.length=1):∃a,l=[a]:=List.length_eq_one_iff.1 h
theorem Ld {α:Type} {l:List α} {n:Nat} (h:l.length=n+1):∃a t,l=a::t/\t.length=n:=by
 cases l with
 |nil=>simp at h
 |cons a t=>exact ⟨a,t,rfl,sU h⟩
theorem aoi {α:Type} {l:List α} (h:l.length=2):∃a b,l=[a,b]:=by
 obtain ⟨a,t,rfl,ht⟩:=Ld h;obtain ⟨b,rfl⟩:=ato ht
 exact ⟨a,b,rfl⟩
theorem atp {α:Type} {l:List α} (h:l.length=3):∃a b c,l=[a,b,c]:=by
 obtain ⟨a,t,rfl,ht⟩:=Ld h;obtain ⟨b,c,rfl⟩:=aoi ht
 exact ⟨a,b,c,rfl⟩
theorem atq {α:Type} {l:List α} (h:l.length=4):∃a b c d,l=[a,b,c,d]:=by
 obtain ⟨a,t,rfl,ht⟩:=Ld h;obtain ⟨b,c,d,rfl⟩:=atp ht
 exact ⟨a,b,c,d,rfl⟩
theorem atr {α:Type} {l:List α} (h:l.length=5):∃a b c d e,l=[a,b,c,d,e]:=by
 obtain ⟨a,t,rfl,ht⟩:=Ld h;obtain ⟨b,c,d,e,rfl⟩:=atq ht
 exact ⟨a,b,c,d,e,rfl⟩
theorem len8 {α:Type} {l:List α} (h:l.length=8):∃a b c d e f g i,l=[a,b,c,d,e,f,g,i]:=by
 obtain ⟨a,t,rfl,ha⟩:=Ld h;obtain ⟨b,t,rfl,hb⟩:=Ld ha;obtain ⟨c,t,rfl,hc⟩:=Ld hb;obtain ⟨d,e,f,g,i,rfl⟩:=atr hc
 exact ⟨a,b,c,d,e,f,g,i,rfl⟩
theorem wf_i64 {n:Int} (h:(Lit.int .i64 n).wf=true): -9223372036854775808<=n/\n<=9223372036854775807:=by
 simpa [Lit.wf,IntKind.min,IntKind.max,IntKind.signed,IntKind.bits] using h
theorem wf_u8 {n:Int} (h:(Lit.int .u8 n).wf=true):0<=n/\n<=255:=by
 simpa [Lit.wf,IntKind.min,IntKind.max,IntKind.signed,IntKind.bits] using h
def po (n:Int):Prop:= -9223372036854775808<=n/\n<=9223372036854775807
section
variable {H:Type} {enc:TypeId ×Value->H} {P:Program} {w:World} {spare:Nat->Bool} {held:Bool} {α:Type}
theorem open_row {f:α->List Value} {m:Nat} {Pg:α->Prop} (hf:∀x,(f x).length=m) (hm:0<m) {t e:TypeId} (ht:P.underlying t=some (.slice e)) (hC:P.cellsOf e=m)
  (hel:∀n cs x,DataW.trod enc P w 0 spare held n e cs=some x->∃g,cs=f g/\Pg g) {n:Nat} {cs:List Value} {x:DataW H ×List MemPlace} (h:DataW.trod enc P w 0 spare held n t cs=some x):
  ∃(A:OA) (n c:Nat) (gs:List α),cs=[.slice A n c]/\n<=c/\c<=maxLen/\Rd w w.heap.size m A n (gs.flatMap f)/\∀g∈gs,Pg g:=by
 rcases open_slice ht h with ⟨rfl,_⟩|⟨a,len,cap,M,n,D,Pl,rfl,_,hl,hmx,hM,Tj,hi⟩
 ·exact ⟨none,0,0,[],rfl,lI _,lJ _,⟨ag,fun h=>absurd h aa⟩,ag⟩
 ·have hle:len<=M:=by rw [hM];split<;>omega
  have aga:∀i,i<len->∃g,Pg g/\∀j,j<m->w.cell? ((a.add (i*m)).add j)=(f g)[j]?:=by
   intro i hil;obtain ⟨cs',hc,htr⟩:=hi i aa;obtain ⟨g,rfl,hg⟩:=hel _ _ _ htr;rw [hC] at hc
   exact ⟨g,hg,(World.cells?_some hc).2.2⟩
  have fA:∃gs:List α,gs.length=len/\(∀g∈gs,Pg g)/\∀i g,gs[i]?=some g->∀j,j<m->w.cell? ((a.add (i*m)).add j)=(f g)[j]?:=by
   clear hM hl hmx hle hi h Tj
   induction len with
   |zero=>exact ⟨[],rfl,ag,ag⟩
   |succ len ih=>
    obtain ⟨gs,h1,h2,h3⟩:=ih (fun i hi=>aga i aa);obtain ⟨g,hg,hc⟩:=aga len aa;refine ⟨gs++[g],dC,?_,?_⟩
    ·intro x hx;rcases iT.1 hx with hx|hx
     ·exact h2 x hx
     ·simp at hx;subst hx;exact hg
    ·intro i x hx;rcases od i gs.length with hil|hil
     ·rw [oY hil] at hx
      exact h3 i x hx
     ·rw [uS hil] at hx;have TW:i=gs.length:=by
       have:=(gu.1 hx).1;simp at this;omega
      subst TW;simp at hx;subst hx;rw [h1];exact hc
  obtain ⟨gs,di,hgp,hgc⟩:=fA;refine ⟨some a,len,cap,gs,rfl,hl,hmx,⟨by rw [gB hf,di],fun h0=>?_⟩,hgp⟩;have Yu:a.spot=none/\a.block<w.heap.size:=by
   have hg0:gs[0]?=some (gs[0]' aa):=lB aa;have rV:=hgc 0 _ hg0 0 hm;have e0:(a.add (0*m)).add 0=a:=by simp [Addr.add]
   have hs:(f (gs[0]' aa))[0]?=some ((f (gs[0]' aa))[0]'(by rw [hf];exact hm)):=lB _;rw [e0,hs] at rV;refine ⟨?_,block_lt_of_cell rV⟩;unfold World.cell? at rV;split at rV
   ·cases Yu:a.spot with
    |none=>rfl
    |some _=>rw [Yu] at rV;simp at rV
   ·cases rV
  obtain ⟨ab,ao,asp⟩:=a;simp only at Yu;obtain ⟨rfl,ba⟩:=Yu;refine ⟨ab,ao,rfl,ba,fun j u hu=>?_⟩;have hj:j<len*m:=by
   have:=(gu.1 hu).1;rwa [gB hf,di] at this
  have hdm:j / m*m+j % m=j:=by rw [Nat.mul_comm];exact Nat.div_add_mod j m
  have KP:j / m<len:=Nat.div_lt_of_lt_mul (by rw [Nat.mul_comm];exact hj);have oI:j % m<m:=Nat.mod_lt _ hm;have hg0:gs[j / m]?=some (gs[j / m]' aa):=lB aa;have sW:=hgc (j / m) _ hg0 (j % m) oI;have hfa:=xt hf gs (j / m) _ hg0 (j % m) oI;rw [hdm,hu] at hfa;rw [<-hfa] at sW;rw [<-sW,add_add,hdm]
  by_cases hz:j=0
  ·subst hz;rfl
  ·simp [Addr.add,hz]
theorem aoj {fs:Array Field} {cs:List Value} {ys:List (DataW H ×List MemPlace)} {n:Nat}
  (hf:∀(i:Nat) (f:Field),fs[i]?=some f->DataW.trod enc P w 0 spare held n f.type ((cs.drop f.offset).take (P.cellsOf f.type))=ys[i]?) (hyl:ys.length=fs.size)
  (i:Nat) (f:Field) (hi:fs[i]?=some f) (t:TypeId) (off k:Nat) (ht:f.type=t) (ho:f.offset=off) (hk:P.cellsOf t=k):
  ∃y,DataW.trod enc P w 0 spare held n t ((cs.drop off).take k)=some y:=by
 have h:=hf i f hi;rw [ht,ho,hk] at h;have ba:i<fs.size:=(Array.getElem?_eq_some_iff.1 hi).1
 exact ⟨ys[i]' aa,h.trans (lB aa)⟩
theorem Le {t:TypeId} (ht:P.underlying t=some (.int .i64)) {n:Nat} {cs:List Value} {x:DataW H ×List MemPlace} (h:DataW.trod enc P w 0 spare held n t cs=some x):
  ∃k,cs=[iI k]/\po k:=by
 obtain ⟨k,h1,_,h2⟩:=DataW.trod_int ht h
 exact ⟨k,h1,wf_i64 h2⟩
end
def vY {α:Type} (f:α->α->Bool):List α->List α->Bool
 |[],[]=>true
 |x::xs,y::ys=>f x y && vY f xs ys
 |_,_=>false
theorem EY {α:Type} (f:α->α->Bool):∀(xs ys:List α),xs.length≠ys.length->vY f xs ys=false
 |[],[],h=>absurd rfl h
 |[],_::_,_=>rfl
 |_::_,[],_=>rfl
 |x::xs,y::ys,h=>by
  rw [vY,EY f xs ys (sU h),ic]
theorem xu {α:Type} (f:α->α->Bool):∀{xs ys:List α} {k:Nat} {x y:α},xs[k]?=some x->ys[k]?=some y->f x y=false->vY f xs ys=false
 |[],_,_,_,_,h,_,_=>dX
 |_::_,[],_,_,_,_,h,_=>dX
 |a::xs,b::ys,0,x,y,h,h',hf=>by
  simp at h h';subst h h';rw [vY,hf,ku]
 |a::xs,b::ys,k+1,x,y,h,h',hf=>by
  simp at h h';rw [vY,xu f h h' hf,ic]
theorem Qu {α:Type} (f:α->α->Bool):∀{xs ys:List α} {k:Nat} {x y:α},xs[k]?=some x->ys[k]?=some y->vY f (xs.take (k+1)) (ys.take (k+1))=(vY f (xs.take k) (ys.take k) && f x y)
 |[],_,_,_,_,h,_=>dX
 |_::_,[],_,_,_,_,h=>dX
 |a::xs,b::ys,0,x,y,h,h'=>by
  simp at h h';subst h h';simp [vY]
 |a::xs,b::ys,k+1,x,y,h,h'=>by
  simp at h h';rw [yl,yl,vY,Qu f h h',yl,yl,vY,Bool.and_assoc]
theorem sf {α:Type} (f:α->α->Bool) (hf:∀x,f x x=true):∀xs:List α,vY f xs xs=true
 |[]=>rfl
 |x::xs=>by rw [vY,hf,sf f hf xs,pb]
theorem ak {w:World} {B e size n:Nat} {v:Value} {xs:List Value} (h:w.ownsRow B e size v n xs):∃A c,v=.slice A n c/\Rd w w.heap.size size A n xs:=by
 rcases h.2 with ⟨rfl,rfl⟩|⟨g,cap,cur,rfl,_⟩
 ·exact ⟨none,0,rfl,Rd.own h⟩
 ·exact ⟨_,_,rfl,Rd.own h⟩
theorem aw9 {W w1:World} (hb:Ext W w1):(∀b o,b<W.heap.size->w1.cell? (aA b o)=W.cell? (aA b o))/\(∀b o,b<W.heap.size->w1.frozen? (aA b o)=W.frozen? (aA b o)):=
 ⟨fun b o h=>hb.cell (p:=(aA b o)) h,fun b o h=>hb.frozen (p:=(aA b o)) h⟩
def mkd (s N:Nat):List Value:=(List.range N).map fun j=> iI ((s+j:Nat):Int)
theorem arX (s N:Nat):(mkd s N).length=N:=by simp [mkd]
theorem att (s N j:Nat) (x:Int) (hj:j<N) (hx:x=((s+j:Nat):Int)):(mkd s N)[j]?=some (iI x):=by
 subst hx;simp [mkd,hj]
section
variable {w w':World} {B e size n c:Nat} {A:OA} {xs:List Value}
theorem abm (h:w.ownsRow B e size (.slice A n c) n xs) {g:Nat} (hg:A=some ⟨g,0,none⟩) (ys:List Value):B<=g/\Part w g e (c*size) (0*size) ys:=by
 subst hg;rcases h.2 with ⟨h0,_⟩|⟨g',cap,cur,hv,hB,hc,_,_,hs,_⟩
 ·cases h0
 ·injection hv with h1 _ h3;injection h1 with h1;injection h1 with h1;subst h1 h3
  exact ⟨hB,cur,hc,hs,fun j hj=>absurd hj aa⟩
theorem ny (h:w.ownsRow B e size (.slice A n c) n xs) (hn:0<n):∃g,A=some ⟨g,0,none⟩/\n<=c:=by
 rcases h.2 with ⟨_,h0⟩|⟨g',cap,cur,hv,hB,hc,LR,_,hs,_⟩
 ·omega
 ·injection hv with h1 _ h3;subst h1 h3
  exact ⟨g',rfl,LR⟩
theorem aj0 (h:w.ownsRow B e size (.slice A n c) n xs) (ys:List Value) (hl:ys.length=n*size) (hP:∀g,A=some ⟨g,0,none⟩->B<=g/\Part w' g e (c*size) (n*size) ys):w'.ownsRow B e size (.slice A n c) n ys:=by
 refine ⟨hl,?_⟩;rcases h.2 with h0|⟨g',cap,cur,hv,hB,hc,LR,hmx,hs,_⟩
 ·exact .inl h0
 ·injection hv with h1 _ h3;subst h1 h3;obtain ⟨_,abn,uF,hs',hj⟩:=hP g' rfl;refine .inr ⟨g',c,abn,rfl,hB,uF,LR,hmx,hs',?_⟩;apply FM;intro j;have hle:n*size<=c*size:=Nn _ LR;rcases od j (n*size) with ba|uU
  ·rw [yi ba,<-hj j ba];simp
  ·rw [rW fW,rW aa]
theorem grownBy_setCell {g o:Nat} {sp:Option Nat} (h:w.grownBy w' (Value.slice (some ⟨g,o,sp⟩) n c).ownBlock) {off:Nat} (u:Value):w.grownBy (w'.setCell (aA g off) u) (Value.slice (some ⟨g,o,sp⟩) n c).ownBlock:=
 ⟨h.os,h.tape,h.output,rH,fun i hi hne=>(pa w' ⟨g,off,none⟩ u i (fun e=>hne (by subst e;rfl))).trans (h.block i hi hne)⟩
end
section
variable {P:Program} {w0 w:World}
theorem agc (t ty e:TypeId) (i:TypeInfo) (z:Value) (size bytes:Nat) (ht:P.underlying t=some (.slice e)) (hi:P.info? e=some i) (hz:i.zero=some z)
  (Gd:i.size=size) (hby:i.bytes=bytes) (EZ:z.cells.size=size) (jm:0<size) (zC:bytes<=70)
  (v:Value) (n:Nat) (xs:List Value) (bj:w.ownsRow w0.heap.size e size v n xs) (cD:Ext w0 w)
  (A:OA) (m c:Nat) (news:List Value) (hr:Rd w w.heap.size size A m news) (h1:∀u∈news,u.oneCell'=true) (hn:n+m<=2000000000000):
  ∃v' w',(Builtin.append_ #[t,t] ty #[v,.slice A m c]).run P w=.ok v' w'/\w'.ownsRow w0.heap.size e size v' (n+m) (xs++news)/\Ext w0 w'/\w.grownBy w' v.ownBlock/\
   (v'.ownBlock=v.ownBlock\/v'.ownBlock=some w.heap.size):=by
 have aj1:(n+m)*bytes<=140737488355328:=lK (CE hn zC) aa;have fin:∀w',w.grownBy w' v.ownBlock->Ext w0 w':=fun w' hg=>Below.grown cD hg cD.size (fun k hk=>(bj.lt k hk).1)
 rcases A with _|ad
 ·have hm:m=0:=by
   rcases DF m with h0|h0
   ·exact h0
   ·obtain ⟨b,o,h,_⟩:=hr.2 h0
    cases h
  subst hm;have Tk:news=[]:=Bm (sU hr.1);subst Tk;refine ⟨v,w,?_,sU bj,cD,kO w _,.inl rfl⟩;rcases bj.2 with ⟨rfl,rfl⟩|⟨g,cap,cur,rfl,_,_,LR,_⟩
  ·simp [Builtin.append_,run_underlying ht,sizeOf,typeInfo,hi,Builtin.lenOf,Builtin.firstCells]
  ·simp [Builtin.append_,run_underlying ht,sizeOf,typeInfo,hi,Builtin.lenOf,Builtin.firstCells,LR,storeCells]
 ·have NK:∀j u,news[j]?=some u->w.cell? (ad.add j)=some u:=by
   intro j u hu;rcases DF m with h0|h0
   ·subst h0;have Tk:news=[]:=Bm (sU hr.1);subst Tk;simp at hu
   ·obtain ⟨b,o,h,_,hc⟩:=hr.2 h0;injection h with h;subst h;have:=hc j u hu
    by_cases hj:j=0
    ·subst hj;exact this
    ·simpa [Addr.add,hj] using this
  obtain ⟨v',w',abo,h2,h3,_,h5⟩:=run_append_own_at (P:=P) w w0.heap.size t ty e i z size bytes ht hi hz Gd hby EZ jm v n xs bj ad m c news hr.1 NK h1 nc aj1 cD.size
  exact ⟨v',w',abo,h2,fin w' h3,h3,h5⟩
theorem abp {o:Oper} {a:Act} {K:Act->World->Prop} {Q:Exit->Act->World->Prop} (s x:Operand) (t:TypeId)
  (ho:aO o s x t)
  (e:TypeId) (i:TypeInfo) (z:Value) (size bytes:Nat) (ht:P.underlying t=some (.slice e)) (hi:P.info? e=some i) (hz:i.zero=some z)
  (Gd:i.size=size) (hby:i.bytes=bytes) (EZ:z.cells.size=size) (jm:0<size) (zC:bytes<=70)
  (v:Value) (n:Nat) (xs:List Value) (hs:a.eval s=v) (bj:w.ownsRow w0.heap.size e size v n xs) (cD:Ext w0 w)
  (A:OA) (m c:Nat) (news:List Value) (hx:a.eval x=.slice A m c) (hr:Rd w w.heap.size size A m news) (h1:∀u∈news,u.oneCell'=true) (hn:n+m<=2000000000000)
  (h:aH w0 w v e size (n+m) (xs++news) K a o):o.wp P a w K Q:=by
 obtain ⟨v',w',abo,h2,h3,h4,h5⟩:=agc (P:=P) t o.type e i z size bytes ht hi hz Gd hby EZ jm zC v n xs bj cD A m c news hr h1 hn;unfold Oper.wp execOp;simp only [ho,resolve,invoke,builtin,Sem.run_bind,Sem.run_pure,Result.andThen_ok,List.map_toArray,DL,List.map_nil,hs,hx,abo]
 exact h v' w' h2 h3 h4 h5
theorem fp {ops:Array Oper} {rest:List Oper} {o:Oper} {a:Act} {Q:Exit->Act->World->Prop} (fX:o.guard=none) (s x:Operand) (t:TypeId)
  (ho:aO o s x t)
  (e:TypeId) (i:TypeInfo) (z:Value) (size bytes:Nat) (ht:P.underlying t=some (.slice e)) (hi:P.info? e=some i) (hz:i.zero=some z)
  (Gd:i.size=size) (hby:i.bytes=bytes) (EZ:z.cells.size=size) (jm:0<size) (zC:bytes<=70)
  (v:Value) (n:Nat) (xs:List Value) (hs:a.eval s=v) (bj:w.ownsRow w0.heap.size e size v n xs) (cD:Ext w0 w)
  (A:OA) (m c:Nat) (news:List Value) (hx:a.eval x=.slice A m c) (hr:Rd w w.heap.size size A m news) (h1:∀u∈news,u.oneCell'=true) (hn:n+m<=2000000000000)
  (h:aH w0 w v e size (n+m) (xs++news) (wpList P ops Q rest) a o):wpList P ops Q (o::rest) a w:=
 wpList_plain fX fun _ hK=>abp s x t ho e i z size bytes ht hi hz Gd hby EZ jm zC v n xs hs bj cD A m c news hx hr h1 hn fun v' w' h2 h3 h4 h5=>hK _ _ (h v' w' h2 h3 h4 h5)
theorem nz {ops:Array Oper} {o:Oper} {a:Act} {K:Act->World->Prop} {Q:Exit->Act->World->Prop} {E:Prop} (fX:o.guard=none) (s x:Operand) (t:TypeId)
  (ho:aO o s x t)
  (e:TypeId) (i:TypeInfo) (z:Value) (size bytes:Nat) (ht:P.underlying t=some (.slice e)) (hi:P.info? e=some i) (hz:i.zero=some z)
  (Gd:i.size=size) (hby:i.bytes=bytes) (EZ:z.cells.size=size) (jm:0<size) (zC:bytes<=70)
  (v:Value) (n:Nat) (xs:List Value) (hs:a.eval s=v) (bj:w.ownsRow w0.heap.size e size v n xs) (cD:Ext w0 w)
  (A:OA) (m c:Nat) (news:List Value) (hx:a.eval x=.slice A m c) (hr:Rd w w.heap.size size A m news) (h1:∀u∈news,u.oneCell'=true) (hn:n+m<=2000000000000)
  (h:aH w0 w v e size (n+m) (xs++news) K a o):
  if Region.wanted o (yielded ops a.tmps)=true then Oper.wp P o a w K Q else E:=by
 have hw:Region.wanted o (yielded ops a.tmps)=true:=by simp [Region.wanted,fX]
 rw [aY hw]
 exact abp s x t ho e i z size bytes ht hi hz Gd hby EZ jm zC v n xs hs bj cD A m c news hx hr h1 hn h
theorem Ge {P:Prop} (h:P:=by
 rw [vR _ W.heap.size _ cs e (0,0) (CC W _)]
 simpa using hu):P:=h
theorem dZ (W:World) (cs:Array Value) (e:TypeId) (size:Nat) (news:List Value) (hc:cs.toList=news) (hl:news.length=size):Rd (W.alloc (.cells cs e)) (W.alloc (.cells cs e)).heap.size size (some ⟨W.heap.size,0,none⟩) 1 news:=by
 subst hc;refine ⟨aa,fun _=>⟨W.heap.size,0,rfl,ag,fun j u hu=>?_⟩⟩
 exact Ge
theorem bS {w0 W:World} (h:Ext w0 W) (b e size n:Nat) (cs:Array Value) (xs:List Value) (hb:b=W.heap.size) (hc:cs.toList=xs) (hs:cs.size=n*size) (hn:n<=1000):(W.alloc (.cells cs e)).ownsRow w0.heap.size e size (.slice (some ⟨b,0,none⟩) n n) n xs:=by
 subst hc hb
 exact ⟨sU hs,.inr ⟨W.heap.size,n,cs,rfl,h.size,CC W _,lI _,nc,hs,by rw [lE ai]⟩⟩
theorem eC (W:World) (cs:Array Value) (b e n size:Nat) (news:List Value) (hb:b=W.heap.size) (hc:cs.toList=news) (hl:news.length=n*size):Rd (W.alloc (.cells cs e)) (W.alloc (.cells cs e)).heap.size size (some ⟨b,0,none⟩) n news:=by
 subst hc hb;refine ⟨hl,fun _=>⟨W.heap.size,0,rfl,ag,fun j u hu=>?_⟩⟩
 exact Ge
theorem aN (w0 W:World) (e:TypeId) (size:Nat) (h:Ext w0 W):(W.alloc (cO #[] e)).ownsRow w0.heap.size e size (.slice (some ⟨W.heap.size,0,none⟩) 0 0) 0 []:=
 ⟨ag,.inr ⟨W.heap.size,0,#[],rfl,h.size,CC W _,lI _,lJ _,ag,ag⟩⟩
end
section
variable {w w':World} {B size n:Nat} {A:OA} {xs:List Value} {row:Option Nat}
theorem Rd.grown (h:Rd w B size A n xs) (hg:w.grownBy w' row) (hB:B<=w.heap.size) (hr:∀g,row=some g->B<=g):Rd w' B size A n xs:=
 h.keep fun p hp=>uB (hg.block p.block aa (fun e=>by have:=hr _ e.symm;omega))
theorem Rd.up (h:Rd w B size A n xs) (hx:Ext w w') (hB:B<=w.heap.size):Rd w' B size A n xs:=h.below (hx.mono hB)
theorem Rd.bd {w0:World} {B':Nat} {ys:List Value} (h:Rd w B' size A n xs) (h0:Rd w0 B size A n ys) (_:True):Rd w B size A n xs:=
 ⟨h.1,fun hn=>by
  obtain ⟨b,o,e,hb,hc⟩:=h.2 hn;obtain ⟨b',o',e',rJ,_⟩:=h0.2 hn;rw [e] at e';injection e' with e';injection e' with e1
  exact ⟨b,o,e,aa,hc⟩⟩
theorem Rd.bdl {w:World} {B B' c:Nat} (h:Rd w B' size A n xs) (hl:∀g,(Value.slice A n c).ownBlock=some g->g<B):Rd w B size A n xs:=
 ⟨h.1,fun hn=>by
  obtain ⟨b,o,e,_,hc⟩:=h.2 hn
  exact ⟨b,o,e,hl b (by rw [e];rfl),hc⟩⟩
theorem dk {base e:Nat} {v:Value} (h:w.ownsRow base e size v n xs) (hg:w.grownBy w' row) (hr:∀g,row=some g->g<base):w'.ownsRow base e size v n xs:=by
 refine h.kept hg ?_
 cases hv:v.ownBlock with
 |none=>exact .inl rfl
 |some k=>
  right;intro e1;have h1:=(h.lt k hv).1;have h2:=hr k e1.symm;omega
theorem aj {base e:Nat} {v:Value} (h:w.ownsRow base e size v n xs) (hx:Ext w w'):w'.ownsRow base e size v n xs:=
 h.kept (row:=none) ⟨hx.os,hx.tape,hx.output,hx.size,fun k hk _=>hx.block k hk⟩ (by cases hv:v.ownBlock<;>simp)
theorem Ext.grown {w0:World} (h:Ext w0 w) (hg:w.grownBy w' row) (hr:∀g,row=some g->w0.heap.size<=g):Ext w0 w':=Below.grown h hg h.size hr
end
theorem aC {w:World} {base base' e size n:Nat} {v:Value} {xs:List Value} (h:w.ownsRow base e size v n xs) (hb:base'<=base):w.ownsRow base' e size v n xs:=by
 refine ⟨h.1,?_⟩;rcases h.2 with h0|⟨g,cap,cur,hv,hB,r⟩
 ·exact .inl h0
 ·exact .inr ⟨g,cap,cur,hv,lK hb hB,r⟩
theorem bo {w:World} {base e size n:Nat} {v:Value} {xs:List Value} (h:w.ownsRow base e size v n xs) {p:Addr} (hp:p.block<base) (u:Value):(w.setCell p u).ownsRow base e size v n xs:=ownsRow_setCell_below h hp u
theorem aj2 {P:Program} {f:FuncId} {args:Array Value} {w:World} {n:Nat} {v:Value}
  (h:Calls P f args (w.drewN n) fun e w'=>e=.returned v/\w.drewN n=w'):Calls P f args (w.drewN n) fun e w''=>e=.returned v/\∃m,w''=w.drewN m:=
 h.mono fun _ _ ⟨he,hm⟩=>⟨he,n,hm.symm⟩
theorem fY {P:Program} {f:FuncId} {args:Array Value} {w:World} {a n:Nat} {v:Value}
  (h:Calls P f args (w.drewN (a+n)) fun e w'=>e=.returned v/\w.drewN (a+n)=w'):Calls P f args (w.drewN (a+n)) fun e w''=>e=.returned v/\∃m,w''=w.drewN (a+m):=
 h.mono fun _ _ ⟨he,hm⟩=>⟨he,n,hm.symm⟩
def au (w:World) (g:Nat) (t:TypeId) (cs:Array Value):Prop:=w.heap[g]?=some (.cells cs t (0,0))
section
variable {w w':World} {g t:Nat} {cs:Array Value}
theorem au.new (w:World) (t:TypeId) (cs:Array Value):au (w.alloc (.cells cs t)) w.heap.size t cs:=CC w _
theorem au.newAt {w:World} {t:TypeId} {cs:Array Value} {b:Nat} (hb:b=w.heap.size):au (w.alloc (.cells cs t)) b t cs:=by subst hb;exact CC w _
theorem au.aU (h:au w g t cs) (i:Nat) (u:Value):au (w.setCell (aA g i) u) g t (cs.setIfInBounds i u):=TH w g i cs t u h
theorem au.cB (h:au w g t cs) {p:Addr} (hp:g≠p.block) (u:Value):au (w.setCell p u) g t cs:=(pa w p u g hp).trans h
theorem au.lt (h:au w g t cs):g<w.heap.size:=by
 rcases od g w.heap.size with ba|uU
 ·exact ba
 ·unfold au at h;rw [yk uU] at h;cases h
theorem au.cell (h:au w g t cs) (i:Nat):w.cell? (aA g i)=cs[i]?:=vR w g i cs t (0,0) h
theorem au.frozen (h:au w g t cs) (i:Nat):w.frozen? (aA g i)=false:=CH w g i cs t h
theorem au.ext (h:au w g t cs) (hx:Ext w w'):au w' g t cs:=(hx.block g h.lt).trans h
theorem au.drew (h:au w g t cs):au w.drew g t cs:=h
theorem au.alloc (h:au w g t cs) (o:Obj):au (w.alloc o) g t cs:=(TP w o g h.lt).trans h
theorem au.grown {row:Option Nat} (h:au w g t cs) (hg:w.grownBy w' row) (hne:∀k,row=some k->g≠k):au w' g t cs:=(hg.block g h.lt (fun e=>hne g e.symm rfl)).trans h
end
theorem rL {H:Type} {enc:TypeId ×Value->H} {P:Program} {W W':World} {base:Nat} {sp:Nat->Bool} {held:Bool}:∀{ts:List TypeId} {vs:List Value} {ds:List (DataW H)} {ps:List MemPlace},
  DataW.TrodAll enc P W base sp held ts vs ds ps->(∀p∈ps,W.sameAt W' p)->DataW.TrodAll enc P W' base sp held ts vs ds ps
 |[],[],[],_,h,_=>h
 |_::_,_::_,_::_,_,⟨p,q,⟨n,h1⟩,h2,e⟩,hs=>⟨p,q,⟨n,DataW.trod_carry n _ _ _ h1 (fun x hx=>hs x (by rw [e];exact List.mem_append_left _ hx))⟩,rL h2 (fun x hx=>hs x (by rw [e];exact List.mem_append_right _ hx)),e⟩
theorem aok {H:Type} {enc:TypeId ×Value->H} {f:Func} {s:ChangeSpec} {W W':World} {args:Array Value} {ds gs:List (DataW H)} {before:List MemPlace}
  (hv:s.vars=[]) (NL:∀t∈f.params.toList,t<prog.types.size) (hrt:f.resultTypes=#[4])
  (hW:DataW.Whole enc prog f.params.toList s.vars false W args.toList ds gs before)
  (bD:(s.fn H ds).results=[.lit (.bool true)]) (VK:(s.fn H ds).args=ds) (abq:(s.fn H ds).vars=[])
  (hb:Ext W W'):s.post enc prog f false true false false W args (.bool true) W':=by
 have hW':=hW;obtain ⟨p,q,hA,hV,DO,VL,hnd⟩:=hW;rw [hv] at hV;obtain ⟨rfl,rfl⟩:=trodVars_none hV;rw [yt] at DO;subst DO;have ba:∀x∈before,x.block<W.heap.size:=hA.lt;have hA2:DataW.TrodAll enc prog W' 0 (fun b=>decide (b<W.heap.size)) true f.params.toList args.toList ds before:=
  rL (DataW.TrodAll.respare (T:=fun t=>t<prog.types.size) kids Gc NL hA (fun x hx=>by simpa using ba x hx)) (fun x hx=>hb.same (ba x hx))
 have hk:W.keptBut W' (fun p=>p∈before/\(p∈([]:List MemPlace)\/p∈before\/p∈([]:List MemPlace))):=
  World.keptBut_mono (may:=(·∈before)) (fun x hx=>lQ hx (Or.inr (Or.inl hx))) (hb.frame (·∈before))
 refine ⟨ds,[],before,[],before,[],hW',?_,?_,?_,hk,fun h=>Bool.noConfusion h⟩
 ·rw [hrt,yt,bD]
  exact trodAll_cons_mk (shut_bool FV _) trodAll_mk0
 ·rw [yt,VK]
  exact hA2
 ·rw [hv,yt,abq];rfl
theorem L1 {α:Type} {xs:List α} {i:Nat} (h:i<xs.toArray.size):xs.toArray[i]'h=xs[i]'h:=rfl
theorem L2 {α:Type} {a:α} {l:List α} (h:0<(a::l).length):(a::l)[0]'h=a:=rfl
theorem L3 {α:Type} {a:α} {l:List α} {n:Nat} (h:n+1<(a::l).length):(a::l)[n+1]'h=l[n]'(Nat.lt_of_succ_lt_succ h):=rfl
theorem L4 {α:Type} {l:List α} {i:Nat} {x:α}:l.toArray.setIfInBounds i x=(l.set i x).toArray:=List.setIfInBounds_toArray ..
theorem L5 {α:Type} {x b:α} {l:List α}:(x::l).set 0 b=b::l:=rfl
theorem L6 {α:Type} {x b:α} {l:List α} {n:Nat}:(x::l).set (n+1) b=x::l.set n b:=rfl
section
variable {P:Program} {ops:Array Oper} {Q:Exit->Act->World->Prop} {md:Region.Mode} {S:World->Prop}
theorem tk (i:Nat) {oi:Oper} {v:Value} {fuel:Nat} {listed:Array Bool} {a:Act} {w:World} (hy:∀w,S w->(execOp a.eval oi).run P w=.ok (.value v) w) (h:wpAnyH P md ops Q S fuel (listed.setIfInBounds i true) (a.put oi.dst v) w)
  (hi:ops[i]?=some oi:=by rfl) (hs:Region.noSelect ops=true:=by kernel_rfl) (hf:Region.free md ops listed i=true:=by kernel_rfl) (hr:(Region.ready md ops listed).contains i=true:=by kernel_rfl)
  (hQ:∀c a w,Q (.panic c) (a.put oi.dst v) w->Q (.panic c) a w:=by exact fun _ _ _ h=>h) (hw:Region.wanted oi (yielded ops a.tmps)=true:=by rfl) (hS:S w:=by assumption):wpAnyH P md ops Q S (fuel+1) listed a w:=
 jz hi hs hf hr hQ (Or.inl ⟨hw,hy⟩) hS h
end
theorem xx {w w':World} (h:Ext w w':=by repeat (first|exact xZ _|assumption|refine Ext.alloc ?_ _|refine Ext.drewN ?_ _|refine Ext.drew ?_)):Ext w w':=h
section
variable {P:Program} {ops:Array Oper} {Q:Exit->Act->World->Prop} {md:Region.Mode} {S:World->Prop} {fuel:Nat} {listed l':Array Bool} {a a':Act} {w:World}
theorem tq (i:Nat) {oi:Oper} {v:Value} (h:wpAnyH P md ops Q S fuel l' a' w) (hi:ops[i]?=some oi:=by rfl) (hw:Region.wanted oi (yielded ops a.tmps)=true:=by rfl)
    (hy:∀w,S w->(execOp a.eval oi).run P w=.ok (.value v) w:=by intro w hSw;(try dsimp only at hSw);go_simp;all_goals with_reducible rfl)
    (hl:listed.setIfInBounds i true=l':=by (try simp only [L4,L5,L6]);rfl) (ha:a.put oi.dst v=a':=by (try simp only [Act.put,L1,L2,L3,L4,L5,L6]);rfl)
    (hs:Region.noSelect ops=true:=by kernel_rfl) (hf:Region.free md ops listed i=true:=by kernel_rfl) (hr:(Region.ready md ops listed).contains i=true:=by kernel_rfl)
    (hQ:∀c a w,Q (.panic c) (a.put oi.dst v) w->Q (.panic c) a w:=by exact fun _ _ _ h=>h) (hS:S w:=by assumption):wpAnyH P md ops Q S (fuel+1) listed a w:=by
  subst hl ha
  exact jz hi hs hf hr hQ (Or.inl ⟨hw,hy⟩) hS h
theorem sk (i:Nat) {oi:Oper} (h:wpAnyH P md ops Q S fuel l' a' w) (hi:ops[i]?=some oi:=by rfl) (hw:Region.wanted oi (yielded ops a.tmps)=false:=by first|kernel_rfl|rfl)
    (hl:listed.setIfInBounds i true=l':=by (try simp only [L4,L5,L6]);rfl) (ha:a.put oi.dst undef=a':=by (try simp only [Act.put,L1,L2,L3,L4,L5,L6]);rfl)
    (hs:Region.noSelect ops=true:=by kernel_rfl) (hf:Region.free md ops listed i=true:=by kernel_rfl) (hr:(Region.ready md ops listed).contains i=true:=by kernel_rfl)
    (hQ:∀c a w,Q (.panic c) (a.put oi.dst undef) w->Q (.panic c) a w:=by exact fun _ _ _ h=>h) (hS:S w:=by assumption):wpAnyH P md ops Q S (fuel+1) listed a w:=by
  subst hl ha
  exact jz hi hs hf hr hQ (Or.inr ⟨hw,rfl⟩) hS h
theorem pt (h:wpAnyH P md ops Q S fuel l' a' w) (hl:listed=l':=by (try simp only [L4,L5,L6]);rfl) (ha:a=a':=by (try simp only [Act.put,L1,L2,L3,L4,L5,L6]);rfl):wpAnyH P md ops Q S fuel listed a w:=by
  subst hl ha
  exact h
theorem o1 (i:Nat) {o:Oper} (h:∀K:Act->World->Prop,Shut (∀a w,S w->(S w->wpAnyH P md ops Q S fuel (listed.setIfInBounds i true) a w)->K a w)->if Region.wanted o (yielded ops a.tmps)=true then Oper.wp P o a w K Q else K (a.put o.dst undef) w)
    (ho:ops[i]?=some o:=by rfl) (hr:Region.ready md ops listed=[i]:=by kernel_rfl):wpAnyH P md ops Q S (fuel+1) listed a w:=
  jy hr ag (iU ho h jx)
theorem o2 (i j:Nat) {o p:Oper} (h:∀K:Act->World->Prop,Shut (∀a w,S w->(S w->wpAnyH P md ops Q S fuel (listed.setIfInBounds i true) a w)->K a w)->if Region.wanted o (yielded ops a.tmps)=true then Oper.wp P o a w K Q else K (a.put o.dst undef) w)
    (k:∀K:Act->World->Prop,Shut (∀a w,S w->(S w->wpAnyH P md ops Q S fuel (listed.setIfInBounds j true) a w)->K a w)->if Region.wanted p (yielded ops a.tmps)=true then Oper.wp P p a w K Q else K (a.put p.dst undef) w)
    (ho:ops[i]?=some o:=by rfl) (hp:ops[j]?=some p:=by rfl) (hr:Region.ready md ops listed=[i,j]:=by kernel_rfl):wpAnyH P md ops Q S (fuel+1) listed a w:=
  jy hr ag (iU ho h (iU hp k jx))
theorem dn (h:Q .normal a w) (hr:Region.ready md ops listed=[]:=by kernel_rfl):wpAnyH P md ops Q S fuel listed a w:=wpAnyH_done hr h _
end
theorem au.ck {w:World} {g:Nat} {t:TypeId} {cs:Array Value} {v:Value} (h:au w g t cs) (i:Nat) (hv:cs[i]?=some v:=by rfl):w.cell? (aA g i)=some v:=(h.cell i).trans hv
theorem au.cv {w:World} {g:Nat} {t:TypeId} {cs:Array Value} (h:au w g t cs) (i:Nat) {a b:Int} (e:a=b) (hv:cs[i]?=some (iI a):=by rfl):w.cell? (aA g i)=some (iI b):=by subst e;exact (h.cell i).trans hv
theorem wA (k:Nat) (h:(k:Int)+1<9223372036854775808):IntKind.i64.wrap ((k:Int)+1)=((k+1:Nat):Int):=by rw [lH _ aa];rfl
theorem wB (k:Nat) (h:(k:Int)+1<9223372036854775808):wrap64 ((k:Int)+1)=((k+1:Nat):Int):=bk
theorem wC (k:Nat) (h:(k:Int)+1<9223372036854775808):IntKind.i64.wrap ((k:Int)+1)=((k+1:Nat):Int)/\wrap64 ((k:Int)+1)=((k+1:Nat):Int):=⟨wA k h,wB k h⟩
section
variable {P:Program} {ops:Array Oper} {Q:Exit->Act->World->Prop} {md:Region.Mode} {S:World->Prop} {fuel:Nat} {listed l':Array Bool} {a a':Act} {w:World}
theorem ov {K:Act->World->Prop} (hK:Shut (∀a w,S w->(S w->wpAnyH P md ops Q S fuel listed a w)->K a w)) (hS:S w) (h:S w->wpAnyH P md ops Q S fuel l' a' w) (hl:listed=l':=by (try simp only [L4,L5,L6]);rfl) (ha:a=a':=by (try simp only [Act.put,L1,L2,L3,L4,L5,L6]);rfl):K a w:=by
  subst hl ha
  exact hK a w hS h
end
theorem ex {α:Type} (a:α):∃x,a=x:=⟨a,rfl⟩
theorem ey {α:Type} (a:α):∃x,x=a:=⟨a,rfl⟩
def Bs (x:Int):List Value:=[iI x]
abbrev aD (xs:List Int):List Value:=xs.flatMap Bs
theorem bG (x:Int):(Bs x).length=1:=rfl
theorem du {w:World} {B n i:Nat} {A:OA} {xs:List Int} (h:Rd w B 1 A n (aD xs)) (hi:i<n):
  ∃b o x,A=some ⟨b,o,none⟩/\b<B/\xs[i]?=some x/\w.cell? (aA b (o+i))=some (iI x):=by
 obtain ⟨b,o,x,rfl,hb,hx,hc⟩:=kQ bG aa h hi;have:=hc 0 _ rfl;rw [vT,oh] at this
 exact ⟨b,o,x,rfl,hb,hx,this⟩
def VM (x y:Int):Bool:=x==y
theorem abr (x:Int):VM x x=true:=by simp [VM]
theorem Yv {H:Type} {enc:TypeId ×Value->H} {w:World} {spare:Nat->Bool} {held:Bool} (n:Nat) (cs:List Value) (x:DataW H ×List MemPlace) (h:DataW.trod enc prog w 0 spare held n 3 cs=some x):
  ∃g:Int,cs=Bs g/\po g:=Le FW h
theorem Qw {H:Type} {enc:TypeId ×Value->H} {w:World} {spare:Nat->Bool} {held:Bool} {n:Nat} {cs:List Value} {x:DataW H ×List MemPlace} (h:DataW.trod enc prog w 0 spare held n 25 cs=some x):
  ∃(A:OA) (n c:Nat) (gs:List Int),cs=[.slice A n c]/\n<=c/\c<=maxLen/\Rd w w.heap.size 1 A n (aD gs)/\∀g∈gs,po g:=
 open_row bG aa NC Qv Yv h
theorem aj3 {H:Type} {enc:TypeId ×Value->H} {w:World} {spare:Nat->Bool} {held:Bool} {base:Nat} {v:Value} {d:DataW H} {p:List MemPlace} (hv:Value.okWide prog w .any base 25 v)
  (h:DataW.Trod enc prog w 0 spare held 25 v d p):
  ∃(A:OA) (n c:Nat) (gs:List Int),v=.slice A n c/\n<=c/\c<=maxLen/\Rd w w.heap.size 1 A n (aD gs)/\∀g∈gs,po g:=by
 obtain ⟨a,len,cap,rfl⟩:=okWide_slice NC hv;obtain ⟨n,hn⟩:=h;obtain ⟨A,n,c,gs,e,r⟩:=Qw hn;simp [Value.cells] at e;obtain ⟨rfl,rfl,rfl⟩:=e
 exact ⟨_,_,_,gs,rfl,r⟩
theorem VN (xs:List Int):∀u∈aD xs,u.oneCell'=true:=by
 intro u hu;obtain ⟨x,_,hx⟩:=vN.1 hu;simp [Bs] at hx;subst hx;rfl
theorem VO:(prog.info? 3).map (fun i=>(i.zero,i.size,i.bytes))=some (some (iI 0),1,8):=af
theorem oJ {w0 w:World} {ops:Array Oper} {rest:List Oper} {o:Oper} {a:Act} {Q:Exit->Act->World->Prop} (fX:o.guard=none) (s x:Operand)
  (ho:aO o s x 25) (v:Value) (n:Nat) (xs:List Int) (hs:a.eval s=v)
  (bj:w.ownsRow w0.heap.size 3 1 v n (aD xs)) (cD:Ext w0 w) (A:OA) (m c:Nat) (ys:List Int) (hx:a.eval x=.slice A m c) (hr:Rd w w.heap.size 1 A m (aD ys)) (hn:n+m<=2000000000000)
  (h:aH w0 w v 3 1 (n+m) (aD (xs++ys)) (wpList prog ops Q rest) a o):wpList prog ops Q (o::rest) a w:=by
 obtain ⟨i0,hi,fH,iV,kz⟩:=jH VO
 exact fp fX s x _ ho 3 i0 _ 1 8 NC hi fH iV kz rfl ae ae v n _ hs bj cD A m c _ hx hr (VN ys) hn (fun v' w' h1=>h v' w' (by unfold aD;rw [lR];exact h1))
theorem nA {w0 w:World} {ops:Array Oper} {o:Oper} {a:Act} {K:Act->World->Prop} {Q:Exit->Act->World->Prop} {E:Prop} (fX:o.guard=none) (s x:Operand)
  (ho:aO o s x 25) (v:Value) (n:Nat) (xs:List Int) (hs:a.eval s=v)
  (bj:w.ownsRow w0.heap.size 3 1 v n (aD xs)) (cD:Ext w0 w) (A:OA) (m c:Nat) (ys:List Int) (hx:a.eval x=.slice A m c) (hr:Rd w w.heap.size 1 A m (aD ys)) (hn:n+m<=2000000000000)
  (h:aH w0 w v 3 1 (n+m) (aD (xs++ys)) K a o):if Region.wanted o (yielded ops a.tmps)=true then Oper.wp prog o a w K Q else E:=by
 obtain ⟨i0,hi,fH,iV,kz⟩:=jH VO
 exact nz fX s x _ ho 3 i0 _ 1 8 NC hi fH iV kz rfl ae ae v n _ hs bj cD A m c _ hx hr (VN ys) hn (fun v' w' h1=>h v' w' (by unfold aD;rw [lR];exact h1))
theorem pq {w0 w:World} {ops:Array Oper} {rest:List Oper} {o:Oper} {a:Act} {Q:Exit->Act->World->Prop} (fX:o.guard=none) (s x:Operand)
  (ho:aO o s x 25) (v:Value) (n:Nat) (xs:List Int) (hs:a.eval s=v)
  (bj:w.ownsRow w0.heap.size 3 1 v n (aD xs)) (cD:Ext w0 w) (y:Int) (e:TypeId) (b:Nat) (hx:a.eval x=.slice (some ⟨b,0,none⟩) 1 1) (sg:b=w.heap.size) (hn:n<=1800000000000)
  (h:∀v' w',w'.ownsRow w0.heap.size 3 1 v' (n+1) (aD (xs++[y]))->Ext w0 w'->(w.alloc (cO #[iI y] e)).grownBy w' v.ownBlock->(v'.ownBlock=v.ownBlock\/v'.ownBlock=some (w.heap.size+1))->wpList prog ops Q rest (a.put o.dst v') w'):wpList prog ops Q (o::rest) a (w.alloc (cO #[iI y] e)):=by
 subst sg;refine oJ fX s x ho v n xs hs (bj.alloc _) (cD.alloc _) _ 1 1 [y] hx (dZ w _ e 1 _ jV jV) aa ?_;intro v' w' h1 h2 h3 h4
 exact h v' w' h1 h2 h3 (sU h4)
structure Gt where
 k:Int
 a:Int
 b:Int
 c:Int
abbrev gA (x:Gt):Array Value:=#[iI x.k,iI x.a,iI x.b,iI x.c]
def FY (x y:Gt):Bool:=x.k==y.k && x.a==y.a && x.b==y.b && x.c==y.c
def Gt.ok (g:Gt):Prop:=po g.k/\po g.a/\po g.b/\po g.c
abbrev Gt.val (x:Gt):Value:=.agg #[iI x.k,iI x.a,iI x.b,iI x.c]
def Gt.cells (x:Gt):List Value:=[iI x.k,iI x.a,iI x.b,iI x.c]
abbrev aq (xs:List Gt):List Value:=xs.flatMap Gt.cells
theorem Gt.aG (x:Gt):x.cells.length=4:=rfl
theorem bT {w:World} {B n i:Nat} {A:OA} {xs:List Gt} (h:Rd w B 4 A n (aq xs)) (hi:i<n):
  ∃b o x,A=some ⟨b,o,none⟩/\b<B/\xs[i]?=some x/\w.cell? (aA b (o+i*4))=some (iI x.k)/\w.cell? (aA b (o+i*4+1))=some (iI x.a)/\w.cell? (aA b (o+i*4+2))=some (iI x.b)/\w.cell? (aA b (o+i*4+3))=some (iI x.c):=by
 obtain ⟨b,o,x,rfl,hb,hx,hc⟩:=kQ Gt.aG aa h hi
 exact ⟨b,o,x,rfl,hb,hx,hc 0 _ rfl,hc 1 _ rfl,hc 2 _ rfl,hc 3 _ rfl⟩
theorem Qx:(prog.info? 39).map (fun i=>(i.zero,i.size,i.bytes))=some (some (.agg zO),4,32):=af
theorem Gt.one (xs:List Gt):∀u∈aq xs,u.oneCell'=true:=by
 intro u hu;obtain ⟨x,_,hx⟩:=vN.1 hu;simp [Gt.cells] at hx;rcases hx with rfl|rfl|rfl|rfl<;>rfl
theorem dm {w0 w:World} {ops:Array Oper} {rest:List Oper} {o:Oper} {a:Act} {Q:Exit->Act->World->Prop} (fX:o.guard=none) (s x:Operand)
  (ho:aO o s x 112) (v:Value) (n:Nat) (xs:List Gt) (hs:a.eval s=v)
  (bj:w.ownsRow w0.heap.size 39 4 v n (aq xs)) (cD:Ext w0 w) (A:OA) (m c:Nat) (ys:List Gt) (hx:a.eval x=.slice A m c) (hr:Rd w w.heap.size 4 A m (aq ys)) (hn:n+m<=2000000000000)
  (h:aH w0 w v 39 4 (n+m) (aq (xs++ys)) (wpList prog ops Q rest) a o):wpList prog ops Q (o::rest) a w:=by
 obtain ⟨i0,hi,fH,iV,kz⟩:=jH Qx
 exact fp fX s x _ ho 39 i0 _ 4 32 underlying112 hi fH iV kz rfl ae ae v n _ hs bj cD A m c _ hx hr (Gt.one ys) hn (fun v' w' h1=>h v' w' (by unfold aq;rw [lR];exact h1))
theorem fe {w0 w:World} {ops:Array Oper} {o:Oper} {a:Act} {K:Act->World->Prop} {Q:Exit->Act->World->Prop} {E:Prop} (fX:o.guard=none) (s x:Operand)
  (ho:aO o s x 112) (v:Value) (n:Nat) (xs:List Gt) (hs:a.eval s=v)
  (bj:w.ownsRow w0.heap.size 39 4 v n (aq xs)) (cD:Ext w0 w) (A:OA) (m c:Nat) (ys:List Gt) (hx:a.eval x=.slice A m c) (hr:Rd w w.heap.size 4 A m (aq ys)) (hn:n+m<=2000000000000)
  (h:aH w0 w v 39 4 (n+m) (aq (xs++ys)) K a o):if Region.wanted o (yielded ops a.tmps)=true then Oper.wp prog o a w K Q else E:=by
 obtain ⟨i0,hi,fH,iV,kz⟩:=jH Qx
 exact nz fX s x _ ho 39 i0 _ 4 32 underlying112 hi fH iV kz rfl ae ae v n _ hs bj cD A m c _ hx hr (Gt.one ys) hn (fun v' w' h1=>h v' w' (by unfold aq;rw [lR];exact h1))
theorem fJ {w0 w:World} {ops:Array Oper} {rest:List Oper} {o:Oper} {a:Act} {Q:Exit->Act->World->Prop} (fX:o.guard=none) (s x:Operand)
  (ho:aO o s x 112) (v:Value) (n:Nat) (xs:List Gt) (hs:a.eval s=v)
  (bj:w.ownsRow w0.heap.size 39 4 v n (aq xs)) (cD:Ext w0 w) (y:Gt) (e:TypeId) (b:Nat) (hx:a.eval x=.slice (some ⟨b,0,none⟩) 1 1) (sg:b=w.heap.size) (hn:n<=1800000000000)
  (h:∀v' w',w'.ownsRow w0.heap.size 39 4 v' (n+1) (aq (xs++[y]))->Ext w0 w'->(w.alloc (cO (gA y) e)).grownBy w' v.ownBlock->(v'.ownBlock=v.ownBlock\/v'.ownBlock=some (w.heap.size+1))->wpList prog ops Q rest (a.put o.dst v') w'):wpList prog ops Q (o::rest) a (w.alloc (cO (gA y) e)):=by
 subst sg;refine dm fX s x ho v n xs hs (bj.alloc _) (cD.alloc _) _ 1 1 [y] hx (dZ w _ e 4 _ dW dW) aa ?_;intro v' w' h1 h2 h3 h4
 exact h v' w' h1 h2 h3 (sU h4)
theorem abt (x:Gt):FY x x=true:=by simp [FY]
end Go.Proofs.YtodhjgngkkcjgaaGreatDoor
