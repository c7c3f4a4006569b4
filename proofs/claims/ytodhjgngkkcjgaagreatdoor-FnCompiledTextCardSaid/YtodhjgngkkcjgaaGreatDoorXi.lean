import Derived.Test.YtodhjgngkkcjgaaGreatDoorXe
import Derived.Test.YtodhjgngkkcjgaaGreatDoorXb
import Derived.Test.YtodhjgngkkcjgaaGreatDoorXc
namespace Go.Proofs.YtodhjgngkkcjgaaGreatDoor
open Go.ChangeShapes Go.WideShapes Go.ChangeAt Go.RowKit Go.Deep Go.Proofs.Tryz
set_option linter.unusedVariables false
set_option linter.unusedSimpArgs false
set_option maxRecDepth 100000
set_option maxHeartbeats 16000000
theorem YN:prog.stoodInHeld 130=false:=af
theorem agD:prog.eqGuardType prog.depth 130=false:=af
theorem Mf (x y:Ed) (w:World):(Op.equalIn 10000 130 x.val y.val).run prog w=.ok (Qc x y) w:=by
 have h1:=YN;unfold Qc
 by_cases e1:x.a=y.a<;>by_cases e2:x.b=y.b<;>(go_simp<;>simp [*])
theorem Mg (s:ByteArray) (a b:Nat):(s.extract a b).data.toList=(s.data.toList.drop a).take (b - a):=by
 rw [Lib.extract_data]
theorem ab5 (s:ByteArray) (k:Nat) (h:k<s.size):s.data.toList[k]?=some s[k]:=by
 rw [lB (by rw [FH];exact h),Array.getElem_toList];rfl
theorem Hg (xs:List ByteArray):xs.map Value.string=df xs:=by
 induction xs with
 |nil=>rfl
 |cons x r ih=>
  show Value.string x::r.map Value.string=LV x++df r;rw [ih];rfl
theorem Uq (xs:List ByteArray):(df xs).length=xs.length:=by rw [<-Hg,jK]
def Rb (w:World):Prop:=∃g m,prog.globalNamed "internal/bytealg.MaxLen" =some g/\w.cell? ⟨g,0,none⟩=some (.int .i64 m)
theorem Rb.ext {w w':World} (h:Rb w) (hx:Ext w w'):Rb w':=by
 obtain ⟨g,m,hg,hc⟩:=h
 exact ⟨g,m,hg,(hx.cell (p:=(aA g 0)) (World.block_lt_of_cell? _ _ hc)).trans hc⟩
theorem CU {name:String} {g k:Nat} {w:World} {v:Value} (hg:prog.globalNamed name=some g) (hc:w.cell? (aA g 0)=some v) (hk:prog.globalNamed name=some k):w.cell? (aA k 0)=some v:=by
 obtain rfl:=kx (hg.symm.trans hk)
 exact hc
theorem gX (s:ByteArray) (c:UInt8) (n:Int) (hn:(c.toNat:Int)=n) (w:World) (hw:Rb w) (hs:s.size<=2000000000):
  Calls prog 28 #[.string s,.int .u8 n] w fun e w'=>∃b,e=.returned (.slice (some ⟨b,0,none⟩) (cut c s).length (cut c s).length)/\Rd w' w'.heap.size 1 (some ⟨b,0,none⟩) (cut c s).length (df (cut c s))/\Ext w w':=by
 have hcv:=ou n c hn;have HC:Hid (∀w',Ext w w'->Calls prog 48 #[.string s,.string ⟨[c].toArray⟩] w' fun e w''=>∃b,e=.returned (.slice (some ⟨b,0,none⟩) (cut c s).length (cut c s).length)/\Rd w'' w''.heap.size 1 (some ⟨b,0,none⟩) (cut c s).length (df (cut c s))/\Ext w' w''):=by
  intro w' hx;obtain ⟨g,m,hg,hc⟩:=hw.ext hx;refine (strings_Split s ⟨[c].toArray⟩ m w' aa (CU hg hc af) (lI 1)).mono ?_;rintro e w'' ⟨rfl,rfl⟩;have hl:Lib.countB s ⟨[c].toArray⟩+1=(cut c s).length:=by
   rw [<-Gh,Lib.splitB_all ⟨#[c]⟩ (lI 1) 0 _ s rfl]
  have hp:Lib.splitB ⟨[c].toArray⟩ 0 (Lib.countB s ⟨[c].toArray⟩) s=cut c s:=Gh c s;rw [hl,hp]
  exact ⟨_,rfl,eC w' _ _ _ _ 1 _ rfl (by rw [<-Hg]) (by rw [Uq,vT]),(xZ _).alloc _⟩
 clear hw;subst hn;go_enter func28,ntmps28;go_wp2_with (go_at_call 48;(with_reducible refine (HC.u _ xx).mono ?_);rintro e w2 ⟨b,rfl,hr,hx⟩)
 go_ret
 exact ⟨b,rfl,hr,Ext.trans ((xZ w).alloc _) hx⟩
theorem fq (s:ByteArray) (c:UInt8) (n:Int) (hn:(c.toNat:Int)=n) (w:World) (hs:s.size<=2000000):
  Calls prog 33 #[.string s,.int .u8 n] w fun e w'=>∃v,e=.returned v/\w'.ownsRow w.heap.size 9 1 v (cut c s).length (df (cut c s))/\Ext w w':=by
 go_enter func33,ntmps33;go_wp2
 go_loopw [5,6,7] (fun v fv iv wr=>∃(ys:List ByteArray) (k:Nat),iv=iI k/\ys.length<=k/\wr.ownsRow w.heap.size 9 1 v ys.length (df ys)/\Ext w wr/\((∃f:Nat,fv=iI f/\f<=k/\k<=s.size/\Hid (pz c s.data.toList (ys.map (·.data.toList)) f k))\/(k=s.size+1/\(∃f,fv=iI f)/\Hid (cut c s=ys)))) (fun _ _ i _=>s.size+1 - (intOf i).toNat)
 case atStart=>exact ⟨[],0,rfl,lI _,aN w w _ _ (xZ _),xx,.inl ⟨0,rfl,lI _,lJ _,pz.start _ _⟩⟩
 case round=>
  obtain ⟨ys,k,rfl,hyk,bj,hx,⟨f,rfl,hf,hks,HA⟩|⟨rfl,⟨f,rfl⟩,HF⟩⟩:=hrel
  ·have lu:(0:Int)<=(k:Int):=aa
   have jJ:(k:Int)<=(s.size:Int):=aa
   have KX:(0:Int)<=(f:Int):=aa
   have hfk:(f:Int)<=(k:Int):=aa
   by_cases ba:k<s.size
   ·have hne:((k:Int)==(s.size:Int))=false:=ai
    have NP:(k:Int)<(s.size:Int):=aa
    have HB:=hY (ab5 s k ba);have VG:ys.length<=2000001:=aa
    by_cases hb:s[k]=c
    ·have hbq:((s[k].toNat:Int)==(c.toNat:Int))=true:=by rw [hb];simp
     rw [hb] at HB;clear hb;go_wp2_with (at_builtin;refine Gv rfl _ _ rfl _ ys.length ys rfl bj hx (s.extract f k) _ _ rfl rfl aa ?_;intro v1 w1 ox aK Be ky)
     go_roundw
     case rel=>exact ⟨ys++[s.extract f k],k+1,az,ai,sU ox,aK,.inl ⟨k+1,az,lI _,aa,by
      have:=HA.u.cut HB.u;rw [qF];show pz _ _ (_++[(s.extract f k).data.toList]) _ _;rw [Mg]
      exact this⟩⟩
     case measure=>simp [intOf];omega
    ·have hbq:((s[k].toNat:Int)==(c.toNat:Int))=false:=by
      simp;intro h
      exact hb (UInt8.toNat_inj.1 aa)
     have HNE:=hY hb;clear hb;go_wp2;go_roundw
     case rel=>exact ⟨ys,k+1,az,aa,bj,hx,.inl ⟨f,rfl,aa,aa,HA.u.skip HB.u HNE.u⟩⟩
     case measure=>simp [intOf];omega
   ·have hke:k=s.size:=aa
    subst hke;have hne:((s.size:Int)==(s.size:Int))=true:=ag
    go_wp2_with (at_builtin;refine Gv rfl _ _ rfl _ ys.length ys rfl bj hx (s.extract f s.size) _ _ rfl rfl aa ?_;intro v1 w1 ox aK Be ky)
    go_roundw
    case rel=>exact ⟨ys++[s.extract f s.size],s.size+1,az,ai,sU ox,aK,.inr ⟨rfl,⟨_,az⟩,by
      have h1:=HA.u.atw rF;refine (TZ ?_).symm;rw [qF,h1];show _++[(s.extract f s.size).data.toList]=_
      rw [Mg]⟩⟩
    case measure=>simp [intOf]
  ·have EW:¬(((s.size+1:Nat):Int)<=(s.size:Int)):=aa
   rw [<-HF.u] at bj;go_wp2;go_ret
   exact ⟨_,rfl,bj,hx⟩
def Mh (name:String) (w:World):Prop:=∃g v,prog.globalNamed name=some g/\w.cell? (aA g 0)=some v/\(v=.nilIface\/∃te pe,v=.iface te pe)
theorem Mh.ext {name:String} {w w':World} (h:Mh name w) (hx:Ext w w'):Mh name w':=by
 obtain ⟨g,v,hg,hc,hv⟩:=h
 exact ⟨g,v,hg,(hx.cell (p:=(aA g 0)) (World.block_lt_of_cell? _ _ hc)).trans hc,hv⟩
theorem BL {name:String} {g:Nat} {tp:TypeId} {p:Value} {w:World} (hg:prog.globalNamed name=some g) (aj8:w.var? prog name=some #[.iface tp p]):Mh name w:=
 ⟨g,.iface tp p,hg,by have h0:=World.var?_cell hg aj8 0;simpa using h0,.inr ⟨tp,p,rfl⟩⟩
structure PW (w:World):Prop where
 gn:GN w
 pow:Pow w
 max:Rb w
 es:Mh "strconv.ErrSyntax" w
 er:Mh "strconv.ErrRange" w
theorem Wh {w w':World} (h:Pow w) (hx:Ext w w'):Pow w':=h.ext hx _ (by kernel_rfl:prog.globalNamed "internal/strconv.uint64pow10" =some 1)
theorem PW.ext {w w':World} (h:PW w) (hx:Ext w w'):PW w':=⟨h.gn.ext hx,Wh h.pow hx,h.max.ext hx,h.es.ext hx,h.er.ext hx⟩
theorem wy (w:World) (e:TypeId) (s:ByteArray):Ext w (Lib.bytesWorld w e s):=Lib.bytesWorld_below w e s
def Wi (e:Ending):Prop:=∃(n:Int) (er:Value),e=.returned (.tuple #[iI n,er])/\ -9223372036854775808<=n/\n<=9223372036854775807/\(er=.nilIface\/∃t p,er=.iface t p)
theorem ab6 (s:ByteArray) (hs:s.size<=2000000000000) (w:World) (hw:PW w):Calls prog 99 #[.string s] w fun e w'=>Wi e/\Ext w w':=by
 cases h:Lib.atoiAll s.data.toList
 case ok v=>
  obtain ⟨b0,b1⟩:=Lib.atoiAll_bounds h;refine (strconv_Atoi_ok s aa v h w).mono ?_;rintro e w' ⟨rfl,hw'⟩;refine ⟨⟨v,.nilIface,rfl,b0,b1,.inl rfl⟩,?_⟩;rcases hw' with rfl|⟨t,rfl⟩
  ·exact xZ _
  ·exact wy _ _ _
 case range=>
  obtain ⟨g,v,hg,hc,hv⟩:=hw.er;obtain ⟨b0,b1⟩:=Lib.atoiSat_bounds s.data.toList;refine (strconv_Atoi_range s aa h v w (CU hg hc af) hv).mono ?_;rintro e w' ⟨N,rfl,_,_,hb⟩
  exact ⟨⟨_,_,rfl,b0,b1,.inr ⟨_,_,rfl⟩⟩,hb⟩
 obtain ⟨g,v,hg,hc,hv⟩:=hw.es;refine (strconv_Atoi_syntax s aa h v w (CU hg hc af) hv).mono ?_;rintro e w' ⟨N,rfl,_,_,hb⟩
 exact ⟨⟨0,_,rfl,aa,aa,.inr ⟨_,_,rfl⟩⟩,hb⟩
theorem pJ {P:Prop} (h:P:=by
 go_enter func49,ntmps49;go_wp2_with (go_at_call 71;refine (HL.u _).mono ?_;rintro e w5 ⟨rfl,cf⟩)
 go_ret2
 exact ⟨rfl,cf⟩):P:=h
theorem pK {P:Prop} (h:P:=by
 go_wp2_with (go_at_call 40;(with_reducible refine (HI.u _).mono ?_);rintro e w3 ⟨rfl,bO⟩)
 go_ret2
 exact ⟨rfl,hx.trans bO⟩):P:=h
theorem pL {P:Prop} (h:P:=by
 rintro e w'' ⟨rfl,rfl⟩
 exact ⟨kR (by rw [dec_lt ae];rfl),xZ _⟩):P:=h
theorem pM {P:Prop} (h:P:=by
 rintro e w'' ⟨rfl,t,rfl⟩
 exact ⟨rfl,wy _ _ _⟩):P:=h
theorem wz (d:Int) (h0:0<=d) (h4:d<=4) (w:World):Calls prog 49 #[.string (cP d)] w fun e w'=>e=.returned (.tuple #[iI d,.bool true])/\Ext w w':=by
 rcases (aa:d=0\/d=1\/d=2\/d=3\/d=4) with rfl|rfl|rfl|rfl|rfl
 ·have HA:Hid (∀w',Calls prog 99 #[.string (cP 0)] w' fun e w''=>e=.returned (.tuple #[iI 0,.nilIface])/\Ext w' w''):=by
   intro w';refine (strconv_Atoi (cP 0) 0 ae ah w').mono ?_
   exact pM
  have HI:Hid (∀w',Calls prog 40 #[iI 0] w' fun e w''=>e=.returned (.string (cP 0))/\Ext w' w''):=by
   intro w';refine (strconv_Itoa_small 0 ae w').mono ?_
   exact pL
  have HL:Hid (∀w',Calls prog 71 #[.string (cP 0),iI 0,iI 999999] w' fun e w''=>e=.returned (.tuple #[iI 0,.bool true])/\Ext w' w''):=by
   intro w';go_enter func71,ntmps71;go_wp2_with fail;refine (HA.u _).mono ?_;rintro e w2 ⟨rfl,hx⟩;have hq:((cP 0).toList==(cP 0).toList)=true:=ag
   exact pK
  exact pJ
 ·have HA:Hid (∀w',Calls prog 99 #[.string (cP 1)] w' fun e w''=>e=.returned (.tuple #[iI 1,.nilIface])/\Ext w' w''):=by
   intro w';refine (strconv_Atoi (cP 1) 1 ae ah w').mono ?_
   exact pM
  have HI:Hid (∀w',Calls prog 40 #[iI 1] w' fun e w''=>e=.returned (.string (cP 1))/\Ext w' w''):=by
   intro w';refine (strconv_Itoa_small 1 ae w').mono ?_
   exact pL
  have HL:Hid (∀w',Calls prog 71 #[.string (cP 1),iI 0,iI 999999] w' fun e w''=>e=.returned (.tuple #[iI 1,.bool true])/\Ext w' w''):=by
   intro w';go_enter func71,ntmps71;go_wp2_with fail;refine (HA.u _).mono ?_;rintro e w2 ⟨rfl,hx⟩;have hq:((cP 1).toList==(cP 1).toList)=true:=ag
   exact pK
  exact pJ
 ·have HA:Hid (∀w',Calls prog 99 #[.string (cP 2)] w' fun e w''=>e=.returned (.tuple #[iI 2,.nilIface])/\Ext w' w''):=by
   intro w';refine (strconv_Atoi (cP 2) 2 ae ah w').mono ?_
   exact pM
  have HI:Hid (∀w',Calls prog 40 #[iI 2] w' fun e w''=>e=.returned (.string (cP 2))/\Ext w' w''):=by
   intro w';refine (strconv_Itoa_small 2 ae w').mono ?_
   exact pL
  have HL:Hid (∀w',Calls prog 71 #[.string (cP 2),iI 0,iI 999999] w' fun e w''=>e=.returned (.tuple #[iI 2,.bool true])/\Ext w' w''):=by
   intro w';go_enter func71,ntmps71;go_wp2_with fail;refine (HA.u _).mono ?_;rintro e w2 ⟨rfl,hx⟩;have hq:((cP 2).toList==(cP 2).toList)=true:=ag
   exact pK
  exact pJ
 ·have HA:Hid (∀w',Calls prog 99 #[.string (cP 3)] w' fun e w''=>e=.returned (.tuple #[iI 3,.nilIface])/\Ext w' w''):=by
   intro w';refine (strconv_Atoi (cP 3) 3 ae ah w').mono ?_
   exact pM
  have HI:Hid (∀w',Calls prog 40 #[iI 3] w' fun e w''=>e=.returned (.string (cP 3))/\Ext w' w''):=by
   intro w';refine (strconv_Itoa_small 3 ae w').mono ?_
   exact pL
  have HL:Hid (∀w',Calls prog 71 #[.string (cP 3),iI 0,iI 999999] w' fun e w''=>e=.returned (.tuple #[iI 3,.bool true])/\Ext w' w''):=by
   intro w';go_enter func71,ntmps71;go_wp2_with fail;refine (HA.u _).mono ?_;rintro e w2 ⟨rfl,hx⟩;have hq:((cP 3).toList==(cP 3).toList)=true:=ag
   exact pK
  exact pJ
 ·have HA:Hid (∀w',Calls prog 99 #[.string (cP 4)] w' fun e w''=>e=.returned (.tuple #[iI 4,.nilIface])/\Ext w' w''):=by
   intro w';refine (strconv_Atoi (cP 4) 4 ae ah w').mono ?_
   exact pM
  have HI:Hid (∀w',Calls prog 40 #[iI 4] w' fun e w''=>e=.returned (.string (cP 4))/\Ext w' w''):=by
   intro w';refine (strconv_Itoa_small 4 ae w').mono ?_
   exact pL
  have HL:Hid (∀w',Calls prog 71 #[.string (cP 4),iI 0,iI 999999] w' fun e w''=>e=.returned (.tuple #[iI 4,.bool true])/\Ext w' w''):=by
   intro w';go_enter func71,ntmps71;go_wp2_with fail;refine (HA.u _).mono ?_;rintro e w2 ⟨rfl,hx⟩;have hq:((cP 4).toList==(cP 4).toList)=true:=ag
   exact pK
  exact pJ
theorem zN {P:Prop} (h:P:=by
 go_wp2;go_ret2
 exact ⟨kT 0 false rfl ⟨aa,aa⟩,hx⟩):P:=h
theorem EE (s:ByteArray) (hs:s.size<=2000000000000) (w:World) (hw:PW w):Calls prog 71 #[.string s,iI 0,iI 999999] w fun e w'=>Gi (fun n _=>n<=999999/\0<=n) e/\Ext w w':=by
 have HC:Hid (∀w',Ext w w'->Calls prog 99 #[.string s] w' fun e w''=>Wi e/\Ext w' w''):=fun w' hx=>ab6 s hs w' (hw.ext hx)
 have HP:Hid (∀w',Ext w w'->Pow w'):=fun w' hx=>Wh hw.pow hx
 clear hw;go_enter func71,ntmps71;go_wp2_with fail;refine (HC.u _ xx).mono ?_;rintro e w2 ⟨⟨n,er,rfl,b0,b1,hr⟩,hx⟩;rcases hr with rfl|⟨t,p,rfl⟩
 ·by_cases hn:n<0
  ·exact zN
  by_cases h9:999999<n
  ·exact zN
  have HI:Hid (∀w',Ext w2 w'->Calls prog 40 #[iI n] w' fun e w''=>(∃t,e=.returned (.string t))/\Ext w' w''):=by
   intro w' sr;refine (strconv_Itoa n b0 b1 w' (HP.u _ (hx.trans sr))).mono ?_;rintro e w'' ⟨rfl,k,os,rfl⟩
   exact ⟨⟨_,rfl⟩,((xZ _).drewN _).aiG _⟩
  go_wp2_with (go_at_call 40;(with_reducible refine (HI.u _ (xZ _)).mono ?_);rintro e w3 ⟨⟨tt,rfl⟩,bO⟩;obtain ⟨q,hq⟩:∃q,(tt.toList==s.toList)=q:=⟨_,rfl⟩;cases q)
  ·go_ret2
   exact ⟨kT 0 false rfl ⟨aa,aa⟩,hx.trans bO⟩
  ·go_ret2
   exact ⟨kT n true rfl ⟨aa,aa⟩,hx.trans bO⟩
 ·exact zN
theorem bL (s:ByteArray) (hs:s.size<=2000000000000) (w:World) (hw:PW w):Calls prog 49 #[.string s] w fun e w'=>Gi (PN s) e/\Ext w w':=by
 by_cases hd:∃d:Int,0<=d/\d<=4/\s=cP d
 ·obtain ⟨d,h0,h4,rfl⟩:=hd;refine (wz d h0 h4 w).mono ?_;rintro e w' ⟨rfl,hx⟩
  exact ⟨kT d true rfl (aby d h0 h4),hx⟩
 ·have HD:Hid (∀n ok,0<=n->n<=999999->PN s n ok):=fun n ok h0 h9=>⟨h0,h9,fun d h0 h4 he=>absurd ⟨d,h0,h4,he⟩ hd⟩
  clear hd;go_enter func49,ntmps49;go_wp2_with fail;refine (EE s hs _ hw).mono ?_;rintro e w2 ⟨⟨n,ok,rfl,h9,h0⟩,hx⟩;go_wp2;go_ret2
  exact ⟨kT n ok rfl (HD.u _ _ aa aa),hx⟩
end Go.Proofs.YtodhjgngkkcjgaaGreatDoor
