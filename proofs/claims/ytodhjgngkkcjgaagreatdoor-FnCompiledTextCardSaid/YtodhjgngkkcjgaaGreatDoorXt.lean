import Derived.Test.YtodhjgngkkcjgaaGreatDoorXq
import Derived.Lib.Join
namespace Go.Proofs.YtodhjgngkkcjgaaGreatDoor
open Go.ChangeShapes Go.WideShapes Go.ChangeAt Go.RowKit Go.Deep Go.Proofs.Tryz
set_option linter.unusedVariables false
set_option linter.unusedSimpArgs false
set_option maxRecDepth 100000
set_option maxHeartbeats 16000000
def oa (k:Int):ByteArray:=
 if k=1 then ⟨#[120]⟩ else if k=2 then ⟨#[121]⟩ else if k=3 then ⟨#[122]⟩ else if k=4 then ⟨#[104]⟩ else if k=5 then ⟨#[115]⟩ else if k=6 then ⟨#[115,100]⟩
 else if k=7 then ⟨#[116]⟩ else if k=8 then ⟨#[116,100]⟩ else if k=9 then ⟨#[99,120]⟩ else if k=10 then ⟨#[99,122]⟩ else if k=11 then ⟨#[115,119,97,112]⟩ else if k=12 then ⟨#[99,99,120]⟩ else ⟨#[]⟩
theorem wP {k:Int} (h:k<1\/12<k):oa k=⟨#[]⟩:=by
 unfold oa
 repeat rw [aM aa]
theorem IX (k:Int):(oa k).size<=4:=by
 rcases (aa:k=1\/k=2\/k=3\/k=4\/k=5\/k=6\/k=7\/k=8\/k=9\/k=10\/k=11\/k=12\/(k<1\/12<k)) with rfl|rfl|rfl|rfl|rfl|rfl|rfl|rfl|rfl|rfl|rfl|rfl|h
 all_goals first|(rw [wP h];decide)|decide
theorem jT (q:Int):(cP q).size=1:=rfl
def ew (s:ByteArray) (l:List Int):ByteArray:=l.foldl (fun s q=>s++⟨#[32]⟩++cP q) s
theorem xI (s:ByteArray) {l:List Int} {k:Nat} {q:Int} (h:l[k]?=some q):ew s (l.take (k+1))=ew s (l.take k)++⟨#[32]⟩++cP q:=by
 unfold ew;rw [aS h,rZ];rfl
theorem fI (s:ByteArray) (l:List Int):(ew s l).size=s.size+2*l.length:=by
 unfold ew
 induction l generalizing s with
 |nil=>rfl
 |cons q l ih=>
  rw [vO,ih,lL,lL,jT];have:(⟨#[32]⟩:ByteArray).size=1:=rfl;rw [this,ki];omega
theorem RT (a b:ByteArray) (l:List Int):a++ew b l=ew (a++b) l:=by
 unfold ew
 induction l generalizing b with
 |nil=>rfl
 |cons q l ih=>rw [vO,vO,ih];simp only [ByteArray.append_assoc]
def iQ (g:Gt):ByteArray:=if vg g 4=true then ew (oa g.k) (kf g) else ⟨#[]⟩
theorem IY (g:Gt):(kf g).length<=3:=by
 rw [oL];have:=eL g.k;omega
theorem IZ (g:Gt):(iQ g).size<=10:=by
 unfold iQ;split
 ·rw [fI];have:=IX g.k;have:=IY g;omega
 ·exact lJ _
def apC:ByteArray:=⟨#[109,101,97,115,117,114,101,32]⟩
def apD:ByteArray:=⟨#[99,108,101,97,110,32]⟩
def wIf:ByteArray:=⟨#[105,102,32]⟩
def kC (o:Oq):ByteArray:=
 if dM o 4 3=true then
  (if o.k=2 then apC++cP o.q++⟨#[32]⟩++cP o.bit else if o.k=3 then apD++cP o.q else if 0<o.cond then wIf++cP (o.cond - 1)++⟨#[32]⟩++iQ o.g else iQ o.g)
 else ⟨#[]⟩
theorem RU (o:Oq):(kC o).size<=15:=by
 have hg:=IZ o.g;have e1:(⟨#[32]⟩:ByteArray).size=1:=rfl;have e2:apC.size=8:=rfl;have e3:apD.size=6:=rfl;have e4:wIf.size=3:=rfl;unfold kC
 repeat' split
 all_goals first|exact lJ _|(simp only [lL,jT,e1,e2,e3,e4];omega)|omega
def jn (sep:ByteArray):List ByteArray->ByteArray
 |[]=>⟨#[]⟩
 |x::r=>r.foldl (fun a y=>a++sep++y) x
theorem alf (sep:ByteArray) {xs:List ByteArray} {y:ByteArray} (h:xs[0]?=some y):jn sep (xs.take (0+1))=y:=by
 cases xs with
 |nil=>cases h
 |cons x r=>
  obtain rfl:=kx (show some x=some y from h);rfl
theorem aht (sep:ByteArray) {xs:List ByteArray} {k:Nat} {y:ByteArray} (h:xs[k]?=some y) (hk:0<k):jn sep (xs.take (k+1))=jn sep (xs.take k)++sep++y:=by
 rw [aS h]
 cases xs with
 |nil=>cases h
 |cons x r=>
  obtain ⟨j,rfl⟩:∃j,k=j+1:=⟨k - 1,aa⟩;rw [yl];show (r.take j++[y]).foldl (fun a y=>a++sep++y) x=(r.take j).foldl (fun a y=>a++sep++y) x++sep++y;rw [rZ];rfl
theorem OP (sep x:ByteArray) (r:List ByteArray):(r.foldl (fun a y=>a++sep++y) x).data.toList=x.data.toList++(r.map fun y=>sep.data.toList++y.data.toList).flatten:=by
 induction r generalizing x with
 |nil=>simp
 |cons y r ih=>
  rw [vO,ih,DL,FL,Qp,Qp,Nr,Nr];simp only [vJ]
theorem UP (sep x:List UInt8) (r:List (List UInt8)):sep.intercalate (x::r)=x++(r.map fun y=>sep++y).flatten:=by
 induction r generalizing x with
 |nil=>simp [List.intercalate]
 |cons y r ih=>
  have:=ih y;simp only [List.intercalate] at this |-;rw [List.intersperse_cons_cons,FL,FL,this];simp
theorem Xb (sep:ByteArray) (xs:List ByteArray):(⟨(Lib.join (xs.map (·.data.toList)) sep.data.toList).toArray⟩:ByteArray)=jn sep xs:=by
 apply DM
 cases xs with
 |nil=>rfl
 |cons x r=>
  show (Lib.join ((x::r).map (·.data.toList)) sep.data.toList).toArray=(r.foldl (fun a y=>a++sep++y) x).data;apply Array.ext';rw [OP];show Lib.join (x.data.toList::r.map (·.data.toList)) sep.data.toList=_;unfold Lib.join;rw [UP,NG];rfl
theorem Xe (sep:ByteArray) (xs:List ByteArray) (m:Nat) (h:∀x∈xs,x.size<=m):(jn sep xs).size<=xs.length*(m+sep.size):=by
 cases xs with
 |nil=>exact lJ _
 |cons x r=>
  have key:∀(r:List ByteArray) (x:ByteArray),(∀y∈r,y.size<=m)->(r.foldl (fun a y=>a++sep++y) x).size<=x.size+r.length*(m+sep.size):=by
   intro r
   induction r with
   |nil=>intro x _;simp
   |cons y r ih=>
    intro x hy;rw [vO];have h1:=ih (x++sep++y) (fun z hz=>hy z (nr _ hz));have h2:=hy y rX;rw [lL,lL] at h1;rw [ki,vS];omega
  have h1:=key r x (fun y hy=>h y (nr _ hy));have h2:=h x rX;show (r.foldl (fun a y=>a++sep++y) x).size<=_;rw [ki,vS];omega
theorem qQ (k:Int) (w:World):Calls prog 68 #[iI k] w fun e w'=>e=.returned (.string (oa k))/\Ext w w':=by
 by_cases hr:1<=k/\k<=12
 ·rcases (aa:k=1\/k=2\/k=3\/k=4\/k=5\/k=6\/k=7\/k=8\/k=9\/k=10\/k=11\/k=12) with rfl|rfl|rfl|rfl|rfl|rfl|rfl|rfl|rfl|rfl|rfl|rfl
  all_goals
   go_enter func68,ntmps68;go_wp2_with fail;refine (aF _ _ _ _ ae ae).mono ?_;rintro e w' ⟨rfl,rfl⟩;go_wp2;go_ret
   exact ⟨kR (by first|rfl|decide),xx⟩
 ·rw [wP aa];go_enter func68,ntmps68;go_wp2_with fail;refine (bP _ _ _ _ aa).mono ?_;rintro e w' ⟨rfl,rfl⟩;go_wp2;go_ret
  exact ⟨rfl,xZ _⟩
theorem eI {P:Prop} (h:P:=by
 clear hq;go_enter func62,ntmps62;go_wp2_with fail;refine (gS _ _ _ _ ae ae).mono ?_;rintro e w' ⟨rfl,rfl⟩;go_wp2;go_ret
 exact ⟨rfl,xZ _⟩):P:=h
theorem qR (k:Int) (w:World) (hg:GN w):Calls prog 62 #[iI k] w fun e w'=>e=.returned (.string (oa k))/\Ext w w':=by
 by_cases hr:1<=k/\k<=12
 ·obtain ⟨R,o,c,q0,hq⟩:=hg;rcases (aa:k=1\/k=2\/k=3\/k=4\/k=5\/k=6\/k=7\/k=8\/k=9\/k=10\/k=11\/k=12) with rfl|rfl|rfl|rfl|rfl|rfl|rfl|rfl|rfl|rfl|rfl|rfl
  ·have q1:w.cell? (aA R (o+1))=some (.string (oa 1)):=hq 1 ae
   exact eI
  ·have q1:w.cell? (aA R (o+2))=some (.string (oa 2)):=hq 2 ae
   exact eI
  ·have q1:w.cell? (aA R (o+3))=some (.string (oa 3)):=hq 3 ae
   exact eI
  ·have q1:w.cell? (aA R (o+4))=some (.string (oa 4)):=hq 4 ae
   exact eI
  ·have q1:w.cell? (aA R (o+5))=some (.string (oa 5)):=hq 5 ae
   exact eI
  ·have q1:w.cell? (aA R (o+6))=some (.string (oa 6)):=hq 6 ae
   exact eI
  ·have q1:w.cell? (aA R (o+7))=some (.string (oa 7)):=hq 7 ae
   exact eI
  ·have q1:w.cell? (aA R (o+8))=some (.string (oa 8)):=hq 8 ae
   exact eI
  ·have q1:w.cell? (aA R (o+9))=some (.string (oa 9)):=hq 9 ae
   exact eI
  ·have q1:w.cell? (aA R (o+10))=some (.string (oa 10)):=hq 10 ae
   exact eI
  ·have q1:w.cell? (aA R (o+11))=some (.string (oa 11)):=hq 11 ae
   exact eI
  ·have q1:w.cell? (aA R (o+12))=some (.string (oa 12)):=hq 12 ae
   exact eI
 ·rw [wP aa];clear hg;go_enter func62,ntmps62;go_wp2_with fail;refine (px _ _ _ _ aa).mono ?_;rintro e w' ⟨rfl,rfl⟩;go_wp2;go_ret
  exact ⟨rfl,xZ _⟩
theorem adm {g:Gt} {n:Int} (h:vg g n=true) {k:Nat} {q:Int} (hq:(kf g)[k]?=some q):0<=q/\q<=n - 1:=by
 have ba:k<(kf g).length:=(gu.1 hq).1;rw [oL] at ba;have Gl:(qs g)[k]?=some q:=by
  unfold kf at hq;rw [yi ba] at hq
  exact hq
 rcases (aa:(0<=q/\q<=n - 1)\/(q<0\/n - 1<q)) with h1|h1
 ·exact h1
 ·have:=GI Gl (VY (n:=n) (i:=k) aa h1);rw [this] at h
  cases h
theorem adn {g:Gt} (h:vg g 4=false):iQ g=⟨#[]⟩:=by unfold iQ;rw [aM fV]
theorem Fo {g:Gt} (h:vg g 4=true):iQ g=ew (oa g.k) (kf g):=by unfold iQ;rw [aY h]
theorem OS (s:ByteArray) (q:Int) (hs:s.size<=2000000000000):
  (∀w,(Op.stringOp .add s ⟨#[32]⟩).run prog w=.ok (.string (s++⟨#[32]⟩)) w)/\(∀w,(Op.stringOp .add (s++⟨#[32]⟩) (cP q)).run prog w=.ok (.string (s++⟨#[32]⟩++cP q)) w):=by
 have e1:(⟨#[32]⟩:ByteArray).size=1:=rfl
 exact ⟨fun w=>iR w _ _ (by rw [e1];omega),fun w=>iR w _ _ (by rw [lL,e1,jT];omega)⟩
theorem tP {P:Prop} (h:P:=by
 go_wp2;go_ret
 exact ⟨kR HF.u.symm,dN.trans aK⟩):P:=h
theorem Ja {P:Prop} (h:P:=by
 rw [lE (oM HL.u)];have uU:¬((k:Int)<(len:Int)):=aa
 go_wp2;go_ret
 exact ⟨kR (by rw [HF.u]),dN.trans (bO.trans hx)⟩):P:=h
theorem Jb {P:Prop} (h:P:=by
 rintro e w5 ⟨rfl,cf⟩;replace cf:=hx.trans cf;go_wp2;go_roundw
 case rel=>exact ⟨k+1,aa,az,by rw [HS.u],cf⟩
 case measure=>simp [intOf];omega):P:=h
theorem om (g:Gt) (w:World):Calls prog 45 #[g.val] w fun e w'=>e=.returned (.string (iQ g))/\Ext w w':=by
 go_enter func45,ntmps45;go_upto_region 1 with fail;have dx:au (w.alloc (cO (gA g) 39)) w.heap.size 39 (gA g):=au.new _ _ _;have dN:Ext w (w.alloc (cO (gA g) 39)):=(xZ w).alloc _;generalize (w.alloc (cO (gA g) 39))=Wb at*
 have bW:=hY dx;have d0:=dx.ck 0;have d1:=dx.ck 1;have d2:=dx.ck 2;have d3:=dx.ck 3;clear dx;go_wp2_with fail;refine (bn g 4 _).mono ?_;rintro e w1 ⟨rfl,aK⟩;clear d0 d1 d2 d3
 cases hv:vg g 4
 ·have HF:=hY (adn hv);clear hv
  exact tP
 have HF:=hY (Fo hv);have HV:=hY hv;clear hv;have d0:=(bW.u.ext aK).ck 0;have d1:=(bW.u.ext aK).ck 1;have d2:=(bW.u.ext aK).ck 2;have d3:=(bW.u.ext aK).ck 3;go_wp2_with fail;refine (qQ g.k _).mono ?_;rintro e w2 ⟨rfl,bz⟩;replace bz:=aK.trans bz;clear d0 d1 d2 d3;clear aK;have d0:=(bW.u.ext bz).ck 0;have d1:=(bW.u.ext bz).ck 1;have d2:=(bW.u.ext bz).ck 2;have d3:=(bW.u.ext bz).ck 3;go_wp2_with fail;refine (eM g _).mono ?_;rintro e w3 ⟨v3,rfl,ie,bO⟩;obtain ⟨A3,c3,rfl,To⟩:=ak ie;clear ie;replace bO:=bz.trans bO;clear d0 d1 d2 d3;clear bz;have CQ:=IY g;have hns:=IX g.k;have HQ:Hid (∀{k:Nat} {q:Int},(kf g)[k]?=some q->0<=q/\q<=4):=fun {k q} h=>⟨(adm HV.u h).1,oM ((adm HV.u h).2)⟩
 generalize hqs:kf g=qq at*
 generalize QK:oa g.k=nm at*
 have HQS:=hY hqs;have HNM:=hY QK;clear hqs QK;obtain ⟨len,hlen⟩:=ey (qq.length);rw [<-hlen] at CQ To |-;have HL:=hY hlen;have HR:=hY To;clear hlen To;go_wp2
 go_loopw [3,5] (fun s i wr=>∃k:Nat,k<=len/\i=iI k/\s=.string (ew nm (qq.take k))/\Ext w3 wr) (fun _ i _=>len - (intOf i).toNat)
 case atStart=>exact ⟨0,lJ _,rfl,rfl,xZ _⟩
 case round=>
  obtain ⟨k,hk,rfl,rfl,hx⟩:=hrel
  by_cases ba:k<len
  ·obtain ⟨b,o,q,rfl,hb,hq,r0⟩:=du (HR.u.ext hx) ba;have HS:=hY (xI nm hq);obtain ⟨q0,q4⟩:=HQ.u hq;clear hq;have lu:(0:Int)<=(k:Int):=aa
   have jJ:(k:Int)<(len:Int):=aa
   have jm:=fI nm (qq.take k);have UK:(qq.take k).length<=k:=qE _ _;generalize YA:ew nm (qq.take k)=ss at*
   clear YA;obtain ⟨j1,j2⟩:=OS ss q aa;clear jm UK;go_wp2_with fail;refine (bA q ⟨aa,aa⟩ _).mono ?_
   exact Jb
  ·exact Ja
theorem oD (g:Gt) (w:World) (hg:GN w):Calls prog 42 #[g.val] w fun e w'=>e=.returned (.string (iQ g))/\Ext w w':=by
 have HGN:=hY hg;clear hg;go_enter func42,ntmps42;go_upto_region 1 with fail;have dx:au (w.alloc (cO (gA g) 39)) w.heap.size 39 (gA g):=au.new _ _ _;have dN:Ext w (w.alloc (cO (gA g) 39)):=(xZ w).alloc _;generalize (w.alloc (cO (gA g) 39))=Wb at*
 have bW:=hY dx;have d0:=dx.ck 0;have d1:=dx.ck 1;have d2:=dx.ck 2;have d3:=dx.ck 3;clear dx;go_wp2_with fail;refine (iX g 4 _).mono ?_;rintro e w1 ⟨rfl,aK⟩;clear d0 d1 d2 d3
 cases hv:vg g 4
 ·have HF:=hY (adn hv);clear hv
  exact tP
 have HF:=hY (Fo hv);have HV:=hY hv;clear hv;have d0:=(bW.u.ext aK).ck 0;have d1:=(bW.u.ext aK).ck 1;have d2:=(bW.u.ext aK).ck 2;have d3:=(bW.u.ext aK).ck 3;go_wp2_with fail;refine (qR g.k _ (HGN.u.ext (dN.trans aK))).mono ?_;rintro e w2 ⟨rfl,bz⟩;replace bz:=aK.trans bz;clear d0 d1 d2 d3;clear aK;have d0:=(bW.u.ext bz).ck 0;have d1:=(bW.u.ext bz).ck 1;have d2:=(bW.u.ext bz).ck 2;have d3:=(bW.u.ext bz).ck 3;go_wp2_with fail;refine (xS g _).mono ?_;rintro e w3 ⟨A3,c3,rfl,To,bO⟩;replace bO:=bz.trans bO;clear d0 d1 d2 d3;clear bz;have CQ:=IY g;have hns:=IX g.k;have HQ:Hid (∀{k:Nat} {q:Int},(kf g)[k]?=some q->0<=q/\q<=4):=fun {k q} h=>⟨(adm HV.u h).1,oM ((adm HV.u h).2)⟩
 generalize hqs:kf g=qq at*
 generalize QK:oa g.k=nm at*
 have HQS:=hY hqs;have HNM:=hY QK;clear hqs QK;obtain ⟨len,hlen⟩:=ey (qq.length);rw [<-hlen] at CQ To |-;have HL:=hY hlen;have HR:=hY To;clear hlen To;go_wp2
 go_loopw [3,15] (fun s i wr=>∃k:Nat,k<=len/\i=iI k/\s=.string (ew nm (qq.take k))/\Ext w3 wr) (fun _ i _=>len - (intOf i).toNat)
 case atStart=>exact ⟨0,lJ _,rfl,rfl,xZ _⟩
 case round=>
  obtain ⟨k,hk,rfl,rfl,hx⟩:=hrel
  by_cases ba:k<len
  ·obtain ⟨b,o,q,rfl,hb,hq,r0⟩:=du (HR.u.ext hx) ba;have HS:=hY (xI nm hq);obtain ⟨q0,q4⟩:=HQ.u hq;clear hq;have lu:(0:Int)<=(k:Int):=aa
   have jJ:(k:Int)<(len:Int):=aa
   have jm:=fI nm (qq.take k);have UK:(qq.take k).length<=k:=qE _ _;generalize YA:ew nm (qq.take k)=ss at*
   clear YA;obtain ⟨j1,j2⟩:=OS ss q aa;clear jm UK;go_wp2_with fail;refine (cK q ⟨aa,aa⟩ _).mono ?_
   exact Jb
  ·exact Ja
theorem xJ {x lo hi:Int} (h:lX x lo hi=true):lo<=x/\x<=hi:=by
 unfold lX at h;simp at h
 exact h
theorem mG {o:Oq} {n bits:Int} (h:dM o n bits=true):(o.k=1/\vg o.g n=true/\0<=o.cond/\o.cond<=bits)\/(o.k=2/\(0<=o.q/\o.q<=n - 1)/\0<=o.bit/\o.bit<=bits - 1)\/(o.k=3/\0<=o.q/\o.q<=n - 1):=by
 have hn:lX n 1 4=true:=by
  cases e:lX n 1 4
  ·rw [WU e] at h;cases h
  ·rfl
 have hb:lX bits 0 3=true:=by
  cases e:lX bits 0 3
  ·rw [WV e] at h;cases h
  ·rfl
 by_cases h1:o.k=1
 ·rw [FZ hn hb h1] at h;simp only [lF] at h;have:=xJ h.2
  exact .inl ⟨h1,h.1.2,this.1,this.2⟩
 by_cases h2:o.k=2
 ·rw [Ga hn hb h2] at h;simp only [lF] at h
  exact .inr (.inl ⟨h2,xJ h.1.2,xJ h.2⟩)
 by_cases h3:o.k=3
 ·rw [Gb hn hb h3] at h;simp only [lF] at h
  exact .inr (.inr ⟨h3,xJ h.2⟩)
 ·rw [ac6 h1 h2 h3] at h;cases h
theorem UQ {o:Oq} (h:dM o 4 3=false):kC o=⟨#[]⟩:=by unfold kC;rw [aM fV]
theorem Xh {o:Oq} (h:dM o 4 3=true) (hk:o.k=2):kC o=⟨#[109,101,97,115,117,114,101,32]⟩++cP o.q++⟨#[32]⟩++cP o.bit:=by unfold kC;rw [aY h,aY hk];rfl
theorem Xi {o:Oq} (h:dM o 4 3=true) (hk:o.k=3):kC o=⟨#[99,108,101,97,110,32]⟩++cP o.q:=by unfold kC;rw [aY h,aM aa,aY hk];rfl
theorem OT {o:Oq} (h:dM o 4 3=true) (hk:o.k=1) (hc:0<o.cond):kC o=⟨#[105,102,32]⟩++cP (o.cond - 1)++⟨#[32]⟩++iQ o.g:=by unfold kC;rw [aY h,aM aa,aM aa,aY hc];rfl
theorem Jc {o:Oq} (h:dM o 4 3=true) (hk:o.k=1) (hc:¬0<o.cond):kC o=iQ o.g:=by unfold kC;rw [aY h,aM aa,aM aa,aM hc]
theorem jd {P:Prop} (h:P:=by
 go_wp2;go_ret
 exact ⟨kR HF.u.symm,dN.trans (aK.trans qB)⟩):P:=h
theorem qT (o:Oq) (w:World):Calls prog 21 #[o.val] w fun e w'=>e=.returned (.string (kC o))/\Ext w w':=by
 have es1:(⟨#[32]⟩:ByteArray).size=1:=rfl;have es2:(⟨#[109,101,97,115,117,114,101,32]⟩:ByteArray).size=8:=rfl;have es3:(⟨#[99,108,101,97,110,32]⟩:ByteArray).size=6:=rfl;have es4:(⟨#[105,102,32]⟩:ByteArray).size=3:=rfl;go_enter func21,ntmps21;go_upto_region 1 with fail;have dx:au (w.alloc (cO (jE o) 41)) w.heap.size 41 (jE o):=au.new _ _ _;have dN:Ext w (w.alloc (cO (jE o) 41)):=(xZ w).alloc _;generalize (w.alloc (cO (jE o) 41))=Wb at*
 have bW:=hY dx;have d0:=dx.ck 0;have d1:=dx.ck 1;have d2:=dx.ck 2;have d3:=dx.ck 3;have d4:=dx.ck 4;have d5:=dx.ck 5;have d6:=dx.ck 6;have d7:=dx.ck 7;clear dx;go_wp2_with fail;refine (kq o 4 3 _).mono ?_;rintro e w1 ⟨rfl,aK⟩;clear d0 d1 d2 d3 d4 d5 d6 d7
 cases hv:dM o 4 3
 ·have HF:=hY (UQ hv);clear hv es1 es2 es3 es4
  exact tP
 rcases mG hv with ⟨hk,mo,rV,hc3⟩|⟨hk,⟨fc,eO⟩,eT,iP⟩|⟨hk,fc,eO⟩
 ·have hz:=IZ o.g;have HFG:Hid (∀w',Ext w1 w'->Calls prog 45 #[o.g.val] w' fun e w''=>e=.returned (.string (iQ o.g))/\Ext w' w''):=fun w' q=>om o.g _
  by_cases hc:0<o.cond
  ·have HF:=hY (OT hv hk hc);generalize iQ o.g=gt at*
   clear hv mo;have HCM:Hid (0<=o.cond - 1/\o.cond - 1<=4):=⟨aa,aa⟩;have HWR:Hid (IntKind.i64.wrap (o.cond - 1)=o.cond - 1):=lH _ aa;have j1:∀w',(Op.stringOp .add ((⟨#[105,102,32]⟩:ByteArray)) (cP (o.cond - 1))).run prog w'=.ok (.string (((⟨#[105,102,32]⟩:ByteArray))++(cP (o.cond - 1)))) w':=fun w'=>iR w' _ _ bY
   have j2:∀w',(Op.stringOp .add (((⟨#[105,102,32]⟩:ByteArray))++cP (o.cond - 1)) ((⟨#[32]⟩:ByteArray))).run prog w'=.ok (.string ((((⟨#[105,102,32]⟩:ByteArray))++cP (o.cond - 1))++((⟨#[32]⟩:ByteArray)))) w':=fun w'=>iR w' _ _ bY
   have j3:∀w',(Op.stringOp .add (((⟨#[105,102,32]⟩:ByteArray))++cP (o.cond - 1)++((⟨#[32]⟩:ByteArray))) gt).run prog w'=.ok (.string ((((⟨#[105,102,32]⟩:ByteArray))++cP (o.cond - 1)++((⟨#[32]⟩:ByteArray)))++gt)) w':=fun w'=>iR w' _ _ bY
   have d0:=(bW.u.ext aK).ck 0;have d1:=(bW.u.ext aK).ck 1;have d2:=(bW.u.ext aK).ck 2;have d3:=(bW.u.ext aK).ck 3;have d4:=(bW.u.ext aK).ck 4;have d7:=(bW.u.ext aK).ck 7;clear es1 es2 es3 es4 hz;have HK:Hid (∀w',Ext w1 w'->w'.cell? (aA w.z 1)=some (iI o.g.k)/\w'.cell? (aA w.z 2)=some (iI o.g.a)/\w'.cell? (aA w.z 3)=some (iI o.g.b)/\w'.cell? (aA w.z 4)=some (iI o.g.c)/\w'.cell? (aA w.z 7)=some (iI o.cond)):=fun w' q=>⟨(bW.u.ext (aK.trans q)).cell 1,(bW.u.ext (aK.trans q)).cell 2,(bW.u.ext (aK.trans q)).cell 3,(bW.u.ext (aK.trans q)).cell 4,(bW.u.ext (aK.trans q)).cell 7⟩
   go_wp2
   go_region_held3 (fun w'=>w'.cell? (aA w.z 1)=some (iI o.g.k)/\w'.cell? (aA w.z 2)=some (iI o.g.a)/\w'.cell? (aA w.z 3)=some (iI o.g.b)/\w'.cell? (aA w.z 4)=some (iI o.g.c)/\w'.cell? (aA w.z 7)=some (iI o.cond))
    (first|go_keep|exact HK.u _ aL)
    (first
     |(go_at_call 20;rw [HWR.u];(with_reducible refine (bA (o.cond - 1) HCM.u _).mono ?_);rintro e w5 ⟨rfl,cf⟩;replace cf:Ext w1 w5:=Ext.trans (xZ w1).drew cf)
     |(go_at_call 45;(with_reducible refine (HFG.u _ cf).mono ?_);rintro e w6 ⟨rfl,qB⟩;replace qB:Ext w1 w6:=cf.trans qB))
   exact jd
  ·have HF:=hY (Jc hv hk hc);generalize iQ o.g=gt at*
   clear hv mo es1 es2 es3 es4;have d0:=(bW.u.ext aK).ck 0;have d1:=(bW.u.ext aK).ck 1;have d2:=(bW.u.ext aK).ck 2;have d3:=(bW.u.ext aK).ck 3;have d4:=(bW.u.ext aK).ck 4;have d7:=(bW.u.ext aK).ck 7;go_wp2_with fail;refine (HFG.u _ (xZ _)).mono ?_;rintro e w6 ⟨rfl,qB⟩
   exact jd
 ·have HF:=hY (Xh hv hk);clear hv;have j1:∀w',(Op.stringOp .add ((⟨#[109,101,97,115,117,114,101,32]⟩:ByteArray)) (cP o.q)).run prog w'=.ok (.string (((⟨#[109,101,97,115,117,114,101,32]⟩:ByteArray))++(cP o.q))) w':=fun w'=>iR w' _ _ bY
  have j2:∀w',(Op.stringOp .add (((⟨#[109,101,97,115,117,114,101,32]⟩:ByteArray))++cP o.q) ((⟨#[32]⟩:ByteArray))).run prog w'=.ok (.string ((((⟨#[109,101,97,115,117,114,101,32]⟩:ByteArray))++cP o.q)++((⟨#[32]⟩:ByteArray)))) w':=fun w'=>iR w' _ _ bY
  have j3:∀w',(Op.stringOp .add (((⟨#[109,101,97,115,117,114,101,32]⟩:ByteArray))++cP o.q++((⟨#[32]⟩:ByteArray))) (cP o.bit)).run prog w'=.ok (.string ((((⟨#[109,101,97,115,117,114,101,32]⟩:ByteArray))++cP o.q++((⟨#[32]⟩:ByteArray)))++(cP o.bit))) w':=fun w'=>iR w' _ _ bY
  have d0:=(bW.u.ext aK).ck 0;have d5:=(bW.u.ext aK).ck 5;have d6:=(bW.u.ext aK).ck 6;clear es1 es2 es3 es4;have HK:Hid (∀w',Ext w1 w'->w'.cell? (aA w.z 5)=some (iI o.q)/\w'.cell? (aA w.z 6)=some (iI o.bit)):=fun w' q=>⟨(bW.u.ext (aK.trans q)).cell 5,(bW.u.ext (aK.trans q)).cell 6⟩
  go_wp2
  go_region_held3 (fun w'=>w'.cell? (aA w.z 5)=some (iI o.q)/\w'.cell? (aA w.z 6)=some (iI o.bit))
   (first|go_keep|exact HK.u _ aL)
   (first
    |(go_at_call 20;(with_reducible refine (bA o.q ⟨aa,aa⟩ _).mono ?_);rintro e w5 ⟨rfl,cf⟩;replace cf:Ext w1 w5:=Ext.trans (xZ w1).drew cf)
    |(go_at_call 20;(with_reducible refine (bA o.bit ⟨aa,aa⟩ _).mono ?_);rintro e w6 ⟨rfl,qB⟩;replace qB:Ext w1 w6:=cf.trans qB))
  exact jd
 ·have HF:=hY (Xi hv hk);clear hv;have j1:∀w',(Op.stringOp .add ((⟨#[99,108,101,97,110,32]⟩:ByteArray)) (cP o.q)).run prog w'=.ok (.string (((⟨#[99,108,101,97,110,32]⟩:ByteArray))++(cP o.q))) w':=fun w'=>iR w' _ _ bY
  have d0:=(bW.u.ext aK).ck 0;have d5:=(bW.u.ext aK).ck 5;clear es1 es2 es3 es4;go_wp2_with fail;refine (bA o.q ⟨aa,aa⟩ _).mono ?_;rintro e w6 ⟨rfl,qB⟩
  exact jd
theorem qU (o:Oq) (w:World) (hg:GN w):Calls prog 17 #[o.val] w fun e w'=>e=.returned (.string (kC o))/\Ext w w':=by
 have HGN:=hY hg;clear hg;have es1:(⟨#[32]⟩:ByteArray).size=1:=rfl;have es2:(⟨#[109,101,97,115,117,114,101,32]⟩:ByteArray).size=8:=rfl;have es3:(⟨#[99,108,101,97,110,32]⟩:ByteArray).size=6:=rfl;have es4:(⟨#[105,102,32]⟩:ByteArray).size=3:=rfl;go_enter func17,ntmps17;go_upto_region 1 with fail;have dx:au (w.alloc (cO (jE o) 41)) w.heap.size 41 (jE o):=au.new _ _ _;have dN:Ext w (w.alloc (cO (jE o) 41)):=(xZ w).alloc _;generalize (w.alloc (cO (jE o) 41))=Wb at*
 have bW:=hY dx;have d0:=dx.ck 0;have d1:=dx.ck 1;have d2:=dx.ck 2;have d3:=dx.ck 3;have d4:=dx.ck 4;have d5:=dx.ck 5;have d6:=dx.ck 6;have d7:=dx.ck 7;clear dx;go_wp2_with fail;refine (pW o 4 3 _).mono ?_;rintro e w1 ⟨rfl,aK⟩;clear d0 d1 d2 d3 d4 d5 d6 d7
 cases hv:dM o 4 3
 ·have HF:=hY (UQ hv);clear hv es1 es2 es3 es4
  exact tP
 rcases mG hv with ⟨hk,mo,rV,hc3⟩|⟨hk,⟨fc,eO⟩,eT,iP⟩|⟨hk,fc,eO⟩
 ·have hz:=IZ o.g;have HFG:Hid (∀w',Ext w1 w'->Calls prog 42 #[o.g.val] w' fun e w''=>e=.returned (.string (iQ o.g))/\Ext w' w''):=fun w' q=>oD o.g _ (HGN.u.ext (dN.trans (aK.trans q)))
  by_cases hc:0<o.cond
  ·have HF:=hY (OT hv hk hc);generalize iQ o.g=gt at*
   clear hv mo;have HCM:Hid (0<=o.cond - 1/\o.cond - 1<=4):=⟨aa,aa⟩;have HWR:Hid (IntKind.i64.wrap (o.cond - 1)=o.cond - 1):=lH _ aa;have j1:∀w',(Op.stringOp .add ((⟨#[105,102,32]⟩:ByteArray)) (cP (o.cond - 1))).run prog w'=.ok (.string (((⟨#[105,102,32]⟩:ByteArray))++(cP (o.cond - 1)))) w':=fun w'=>iR w' _ _ bY
   have j2:∀w',(Op.stringOp .add (((⟨#[105,102,32]⟩:ByteArray))++cP (o.cond - 1)) ((⟨#[32]⟩:ByteArray))).run prog w'=.ok (.string ((((⟨#[105,102,32]⟩:ByteArray))++cP (o.cond - 1))++((⟨#[32]⟩:ByteArray)))) w':=fun w'=>iR w' _ _ bY
   have j3:∀w',(Op.stringOp .add (((⟨#[105,102,32]⟩:ByteArray))++cP (o.cond - 1)++((⟨#[32]⟩:ByteArray))) gt).run prog w'=.ok (.string ((((⟨#[105,102,32]⟩:ByteArray))++cP (o.cond - 1)++((⟨#[32]⟩:ByteArray)))++gt)) w':=fun w'=>iR w' _ _ bY
   have d0:=(bW.u.ext aK).ck 0;have d1:=(bW.u.ext aK).ck 1;have d2:=(bW.u.ext aK).ck 2;have d3:=(bW.u.ext aK).ck 3;have d4:=(bW.u.ext aK).ck 4;have d7:=(bW.u.ext aK).ck 7;clear es1 es2 es3 es4 hz;have HK:Hid (∀w',Ext w1 w'->w'.cell? (aA w.z 1)=some (iI o.g.k)/\w'.cell? (aA w.z 2)=some (iI o.g.a)/\w'.cell? (aA w.z 3)=some (iI o.g.b)/\w'.cell? (aA w.z 4)=some (iI o.g.c)/\w'.cell? (aA w.z 7)=some (iI o.cond)):=fun w' q=>⟨(bW.u.ext (aK.trans q)).cell 1,(bW.u.ext (aK.trans q)).cell 2,(bW.u.ext (aK.trans q)).cell 3,(bW.u.ext (aK.trans q)).cell 4,(bW.u.ext (aK.trans q)).cell 7⟩
   go_wp2
   go_region_held3 (fun w'=>w'.cell? (aA w.z 1)=some (iI o.g.k)/\w'.cell? (aA w.z 2)=some (iI o.g.a)/\w'.cell? (aA w.z 3)=some (iI o.g.b)/\w'.cell? (aA w.z 4)=some (iI o.g.c)/\w'.cell? (aA w.z 7)=some (iI o.cond))
    (first|go_keep|exact HK.u _ aL)
    (first
     |(go_at_call 16;rw [HWR.u];(with_reducible refine (cK (o.cond - 1) HCM.u _).mono ?_);rintro e w5 ⟨rfl,cf⟩;replace cf:Ext w1 w5:=Ext.trans (xZ w1).drew cf)
     |(go_at_call 42;(with_reducible refine (HFG.u _ cf).mono ?_);rintro e w6 ⟨rfl,qB⟩;replace qB:Ext w1 w6:=cf.trans qB))
   exact jd
  ·have HF:=hY (Jc hv hk hc);generalize iQ o.g=gt at*
   clear hv mo es1 es2 es3 es4;have d0:=(bW.u.ext aK).ck 0;have d1:=(bW.u.ext aK).ck 1;have d2:=(bW.u.ext aK).ck 2;have d3:=(bW.u.ext aK).ck 3;have d4:=(bW.u.ext aK).ck 4;have d7:=(bW.u.ext aK).ck 7;go_wp2_with fail;refine (HFG.u _ (xZ _)).mono ?_;rintro e w6 ⟨rfl,qB⟩
   exact jd
 ·have HF:=hY (Xh hv hk);clear hv;have j1:∀w',(Op.stringOp .add ((⟨#[109,101,97,115,117,114,101,32]⟩:ByteArray)) (cP o.q)).run prog w'=.ok (.string (((⟨#[109,101,97,115,117,114,101,32]⟩:ByteArray))++(cP o.q))) w':=fun w'=>iR w' _ _ bY
  have j2:∀w',(Op.stringOp .add (((⟨#[109,101,97,115,117,114,101,32]⟩:ByteArray))++cP o.q) ((⟨#[32]⟩:ByteArray))).run prog w'=.ok (.string ((((⟨#[109,101,97,115,117,114,101,32]⟩:ByteArray))++cP o.q)++((⟨#[32]⟩:ByteArray)))) w':=fun w'=>iR w' _ _ bY
  have j3:∀w',(Op.stringOp .add (((⟨#[109,101,97,115,117,114,101,32]⟩:ByteArray))++cP o.q++((⟨#[32]⟩:ByteArray))) (cP o.bit)).run prog w'=.ok (.string ((((⟨#[109,101,97,115,117,114,101,32]⟩:ByteArray))++cP o.q++((⟨#[32]⟩:ByteArray)))++(cP o.bit))) w':=fun w'=>iR w' _ _ bY
  have d0:=(bW.u.ext aK).ck 0;have d5:=(bW.u.ext aK).ck 5;have d6:=(bW.u.ext aK).ck 6;clear es1 es2 es3 es4;have HK:Hid (∀w',Ext w1 w'->w'.cell? (aA w.z 5)=some (iI o.q)/\w'.cell? (aA w.z 6)=some (iI o.bit)):=fun w' q=>⟨(bW.u.ext (aK.trans q)).cell 5,(bW.u.ext (aK.trans q)).cell 6⟩
  go_wp2
  go_region_held3 (fun w'=>w'.cell? (aA w.z 5)=some (iI o.q)/\w'.cell? (aA w.z 6)=some (iI o.bit))
   (first|go_keep|exact HK.u _ aL)
   (first
    |(go_at_call 16;(with_reducible refine (cK o.q ⟨aa,aa⟩ _).mono ?_);rintro e w5 ⟨rfl,cf⟩;replace cf:Ext w1 w5:=Ext.trans (xZ w1).drew cf)
    |(go_at_call 16;(with_reducible refine (cK o.bit ⟨aa,aa⟩ _).mono ?_);rintro e w6 ⟨rfl,qB⟩;replace qB:Ext w1 w6:=cf.trans qB))
  exact jd
 ·have HF:=hY (Xi hv hk);clear hv;have j1:∀w',(Op.stringOp .add ((⟨#[99,108,101,97,110,32]⟩:ByteArray)) (cP o.q)).run prog w'=.ok (.string (((⟨#[99,108,101,97,110,32]⟩:ByteArray))++(cP o.q))) w':=fun w'=>iR w' _ _ bY
  have d0:=(bW.u.ext aK).ck 0;have d5:=(bW.u.ext aK).ck 5;clear es1 es2 es3 es4;go_wp2_with fail;refine (cK o.q ⟨aa,aa⟩ _).mono ?_;rintro e w6 ⟨rfl,qB⟩
  exact jd
theorem ni {a b:ByteArray}:(a.toList==b.toList)=true ↔ a=b:=by
 rw [Nq,Nq];constructor
 ·intro h;have:=eq_of_beq h;apply DM
  exact Array.ext' this
 ·rintro rfl;simp
theorem asv {a b:ByteArray} (h:a≠b):(a.toList==b.toList)=false:=by
 cases e:(a.toList==b.toList)
 ·rfl
 ·exact absurd (ni.1 e) h
theorem hH (a:ByteArray):(a.toList==a.toList)=true:=ni.2 rfl
theorem RV (c:UInt8) (a X:List UInt8) (ha:c ∉ a):iE c (a++X)=vZ a (iE c X):=by
 induction a with
 |nil=>exact (Gf (xv _ _)).symm
 |cons b a ih=>
  have h1:b≠c:=fun e=>ha (by rw [e];exact rX)
  rw [DI,iE,aM h1,ih (fun h=>ha (nr _ h)),LU];rfl
theorem ZB (c:UInt8) (a:List UInt8) (ps:List (List UInt8)) (ha:c ∉ a) (hp:∀p∈ps,c ∉ p):iE c (a++(ps.map fun p=>[c]++p).flatten)=a::ps:=by
 induction ps generalizing a with
 |nil=>rw [RV c a _ ha];simp [iE,vZ]
 |cons p ps ih=>
  rw [RV c a _ ha,DL,FL,vJ,List.singleton_append,iE,aY rfl,ih p (hp p rX) (fun q hq=>hp q (nr _ hq))];simp [vZ]
theorem OU (c:UInt8) (x:ByteArray) (r:List ByteArray) (h:∀y∈x::r,c ∉ y.data.toList):cut c (jn ⟨#[c]⟩ (x::r))=x::r:=by
 refine (TZ ?_).symm;show _=iE c (r.foldl (fun a y=>a++⟨#[c]⟩++y) x).data.toList;rw [OP];have e:(r.map fun y:ByteArray=>(⟨#[c]⟩:ByteArray).data.toList++y.data.toList)=(r.map (·.data.toList)).map fun p=>[c]++p:=by
  rw [NG];rfl
 rw [e,ZB]
 ·rfl
 ·exact h x rX
 ·intro p hp;obtain ⟨y,hy,rfl⟩:=qH.1 hp
  exact h y (nr _ hy)
def gw (g:Gt):List ByteArray:=oa g.k::(kf g).map cP
theorem Xj (sep x:ByteArray) (l:List Int):jn sep (x::l.map cP)=l.foldl (fun s q=>s++sep++cP q) x:=by
 show (l.map cP).foldl (fun a y=>a++sep++y) x=_;rw [List.foldl_map]
theorem OV {g:Gt} (h:vg g 4=true):iQ g=jn ⟨#[32]⟩ (gw g):=by
 rw [Fo h]
 exact (Xj _ _ _).symm
theorem Dg (k:Int):k=1\/k=2\/k=3\/k=4\/k=5\/k=6\/k=7\/k=8\/k=9\/k=10\/k=11\/k=12\/(k<1\/12<k):=aa
theorem Jd {P:Prop} (h:P:=by
 rcases Dg k with rfl|rfl|rfl|rfl|rfl|rfl|rfl|rfl|rfl|rfl|rfl|rfl|h
 all_goals first|(rw [wP h];decide)|decide):P:=h
theorem ZC (k:Int):(32:UInt8) ∉ (oa k).data.toList:=by
 exact Jd
theorem oV {q:Int} (h0:0<=q) (h4:q<=4):(32:UInt8) ∉ (cP q).data.toList:=by
 rcases (aa:q=0\/q=1\/q=2\/q=3\/q=4) with rfl|rfl|rfl|rfl|rfl<;>decide
theorem Fp {g:Gt} (h:vg g 4=true) {q:Int} (hq:q∈kf g):0<=q/\q<=3:=by
 obtain ⟨k,hk⟩:=TA hq;have:=adm h hk;omega
theorem Je {g:Gt} (h:vg g 4=true):∀y∈gw g,(32:UInt8) ∉ y.data.toList:=by
 intro y hy;rcases jw.1 hy with rfl|hy
 ·exact ZC _
 ·obtain ⟨q,hq,rfl⟩:=qH.1 hy;have:=Fp h hq
  exact oV this.1 aa
theorem Xk {g:Gt} (h:vg g 4=true):cut 32 (iQ g)=gw g:=by
 rw [OV h]
 exact OU 32 _ _ (Je h)
theorem ahu {g:Gt} (h:vg g 4=true):1<=g.k/\g.k<=12:=by
 have h1:0<ar g.k:=by
  unfold vg at h;simp only [lF,kh] at h
  exact h.1.1.1.2
 rcases (aa:(1<=g.k/\g.k<=12)\/(g.k<1\/12<g.k)) with h2|h2
 ·exact h2
 ·rw [ar0 h2] at h1;omega
theorem ZD {k:Int} (h:1<=k/\k<=12):0<(oa k).size:=by
 rcases Dg k with rfl|rfl|rfl|rfl|rfl|rfl|rfl|rfl|rfl|rfl|rfl|rfl|h'
 all_goals first|omega|decide
theorem ahv {j k:Int} (hj:1<=j/\j<=12) (hk:1<=k/\k<=12) (h:oa j=oa k):j=k:=by
 have key:∀a b:Fin 12,(oa ((a.val+1:Nat):Int)).data.toList=(oa ((b.val+1:Nat):Int)).data.toList->a=b:=by decide+kernel
 have:=key ⟨(j - 1).toNat,aa⟩ ⟨(k - 1).toNat,aa⟩ (by
  rw [show (((j - 1).toNat+1:Nat):Int)=j by omega,show (((k - 1).toNat+1:Nat):Int)=k by omega,h])
 have:=mr Fin.val this;simp at this;omega
theorem Dh {g:Gt} (h:vg g 4=true):0<(iQ g).size:=by
 rw [Fo h,fI];have:=ZD (ahu h);omega
theorem ahw {g:Gt} (h:vg g 4=true):(ar g.k<=0->g.a=0)/\(ar g.k<=1->g.b=0)/\(ar g.k<=2->g.c=0):=by
 unfold vg at h;simp only [lF] at h;obtain ⟨⟨⟨_,h0⟩,h1⟩,h2⟩:=h;refine ⟨fun ha=>?_,fun ha=>?_,fun ha=>?_⟩
 ·unfold DS at h0;rw [aY aa] at h0;simpa using h0
 ·unfold DS at h1;rw [aY aa] at h1;simpa using h1
 ·unfold DS at h2;rw [aY aa] at h2;simpa using h2
def ZE:ByteArray:=⟨#[109,101,97,115,117,114,101]⟩
def Xl:ByteArray:=⟨#[99,108,101,97,110]⟩
def wI:ByteArray:=⟨#[105,102]⟩
def ow (o:Oq):List ByteArray:=
 if o.k=2 then [ZE,cP o.q,cP o.bit] else if o.k=3 then [Xl,cP o.q] else if 0<o.cond then wI::cP (o.cond - 1)::gw o.g else gw o.g
theorem ZF (sep a x:ByteArray) (r:List ByteArray):a++r.foldl (fun s y=>s++sep++y) x=r.foldl (fun s y=>s++sep++y) (a++x):=by
 induction r generalizing x with
 |nil=>rfl
 |cons y r ih=>rw [vO,vO,ih];simp only [ByteArray.append_assoc]
theorem ado {o:Oq} (h:dM o 4 3=true):kC o=jn ⟨#[32]⟩ (ow o):=by
 unfold ow;rcases mG h with ⟨hk,mo,rV,hc3⟩|⟨hk,⟨fc,eO⟩,eT,iP⟩|⟨hk,fc,eO⟩
 ·rw [aM aa,aM aa]
  by_cases hc:0<o.cond
  ·rw [OT h hk hc,aY hc,OV mo];show _=((gw o.g)).foldl _ (wI++⟨#[32]⟩++cP (o.cond - 1));show _++(((kf o.g).map cP).foldl (fun s y=>s++⟨#[32]⟩++y) (oa o.g.k))=_;rw [ZF];rfl
  ·rw [Jc h hk hc,aM hc,OV mo]
 ·rw [aY hk,Xh h hk];rfl
 ·rw [aM aa,aY hk,Xi h hk];rfl
theorem adp {o:Oq} (h:dM o 4 3=true):∀y∈ow o,(32:UInt8) ∉ y.data.toList:=by
 have e1:(32:UInt8) ∉ ZE.data.toList:=ae
 have e2:(32:UInt8) ∉ Xl.data.toList:=ae
 have e3:(32:UInt8) ∉ wI.data.toList:=ae
 intro y hy;unfold ow at hy;rcases mG h with ⟨hk,mo,rV,hc3⟩|⟨hk,⟨fc,eO⟩,eT,iP⟩|⟨hk,fc,eO⟩
 ·rw [aM aa,aM aa] at hy;split at hy
  ·rcases jw.1 hy with rfl|hy
   ·exact e3
   rcases jw.1 hy with rfl|hy
   ·exact oV aa aa
   ·exact Je mo y hy
  ·exact Je mo y hy
 ·rw [aY hk] at hy;simp at hy;rcases hy with rfl|rfl|rfl
  ·exact e1
  ·exact oV aa aa
  ·exact oV aa aa
 ·rw [aM aa,aY hk] at hy;simp at hy;rcases hy with rfl|rfl
  ·exact e2
  ·exact oV aa aa
theorem OX {o:Oq} (h:dM o 4 3=true):cut 32 (kC o)=ow o:=by
 rw [ado h];have hb:=adp h
 cases he:ow o with
 |nil=>
  exfalso;unfold ow gw at he
  repeat' split at he
  all_goals cases he
 |cons x r=>rw [he] at hb;exact OU 32 x r hb
theorem tQ (k:Int):oa k≠ZE/\oa k≠Xl/\oa k≠wI:=by
 have key:∀k:Int,(oa k).data.toList≠ZE.data.toList/\(oa k).data.toList≠Xl.data.toList/\(oa k).data.toList≠wI.data.toList:=by
  intro k
  exact Jd
 have:=key k
 exact ⟨fun e=>this.1 dU,fun e=>this.2.1 dU,fun e=>this.2.2 dU⟩
theorem Jf {o:Oq} (h:dM o 4 3=true) (hk:o.k=1) (hc:0<o.cond):(kC o).extract 5 (kC o).size=iQ o.g/\(kC o).size=5+(iQ o.g).size:=by
 rw [OT h hk hc];generalize hp:(⟨#[105,102,32]⟩:ByteArray)++cP (o.cond - 1)++⟨#[32]⟩=p;have hps:p.size=5:=by rw [<-hp];rfl
 refine ⟨?_,by rw [lL,hps]⟩;apply DM;apply Array.ext';rw [Lib.extract_data,Qp,Nr];have h5:p.data.toList.length=5:=by rw [FH];exact hps
 rw [List.drop_append_of_le_length aa,vI aa,lN,lE];rw [lL,hps,FH];show (iQ o.g).size<=_;omega
theorem adq (c:UInt8) (ws:List ByteArray):(jn ⟨#[c]⟩ ws).size<=(ws.map fun x=>x.size+1).sum:=by
 cases ws with
 |nil=>exact lJ _
 |cons x r=>
  show (r.foldl (fun a y=>a++⟨#[c]⟩++y) x).size<=_;have key:∀(r:List ByteArray) (x:ByteArray),(r.foldl (fun a y=>a++⟨#[c]⟩++y) x).size=x.size+(r.map fun x=>x.size+1).sum:=by
   intro r
   induction r with
   |nil=>intro x;simp
   |cons y r ih=>
    intro x;have e1:(⟨#[c]⟩:ByteArray).size=1:=rfl;rw [vO,ih,lL,lL,e1,DL,NA];omega
  rw [key,DL,NA];omega
theorem adr (l:List Nat) (k:Nat):(l.drop k).sum<=l.sum:=by
 have:=mr List.sum (yj k l);rw [TS] at this;omega
theorem Lv (c:UInt8) (s:ByteArray) (k:Nat):(jn ⟨#[c]⟩ ((cut c s).drop k)).size<=s.size+1:=by
 refine lK (adq c _) ?_;rw [List.map_drop];refine lK (adr _ k) ?_;have:=abw c s.data.toList;rw [FH] at this;unfold cut;rw [NG];have e:((fun x:ByteArray=>x.size+1) ∘ fun l:List UInt8=>(⟨l.toArray⟩:ByteArray))=fun l:List UInt8=>l.length+1:=by
  funext l;show l.toArray.size+1=_;simp
 rw [e,this]
 exact lI _
def OY (s:ByteArray) (e:Ending):Prop:=∃k:Int,e=.returned (iI k)/\0<=k/\k<=12/\∀j,1<=j->j<=12->s=oa j->k=j
theorem Xm {s:ByteArray} {e:Ending} (k:Int) (h:e=.returned (iI k)) (h0:0<=k) (h12:k<=12) (hj:∀j,1<=j->j<=12->s=oa j->k=j):OY s e:=⟨k,h,h0,h12,hj⟩
theorem Jg {P:Prop} (h:P:=by
 rintro e w2 ⟨rfl,bz⟩;replace bz:=hx.trans bz;obtain ⟨q,hq⟩:=ex (((oa (k:Int)).toList==s.toList))
 cases q
 ·have HN:Hid (∀j:Int,1<=j->j<((k+1:Nat):Int)->oa j≠s):=by
   intro j h1 h2 he;rcases (aa:j<k\/j=k) with h3|rfl
   ·exact HJ.u j h1 h3 he
   ·rw [ni.2 he] at hq;cases hq
  generalize oa (k:Int)=nm at*
  go_wp2;go_roundw
  case rel=>exact ⟨k+1,az,aa,aa,HN,bz⟩
  case measure=>simp [intOf];omega
 ·have HN:Hid (oa (k:Int)=s):=ni.1 hq;generalize QK:oa (k:Int)=nm at*
  have HM:=hY QK;clear QK;go_wp2;go_ret
  exact ⟨Xm k rfl aa aa (fun j h1 h12 he=>ahv ⟨aa,aa⟩ ⟨h1,h12⟩ (by rw [HM.u,HN.u,he])),bz⟩):P:=h
theorem Jh {P:Prop} (h:P:=by
 have NP:¬((k:Int)<=12):=aa
 have HN:Hid (∀j:Int,1<=j->j<=12->s≠oa j):=fun j h1 h12 he=>HJ.u j h1 aa he.symm
 go_wp2;go_ret
 exact ⟨Xm 0 rfl aa aa (fun j h1 h12 he=>absurd he (HN.u j h1 h12)),hx⟩):P:=h
theorem BX (s:ByteArray) (w:World):Calls prog 75 #[.string s] w fun e w'=>OY s e/\Ext w w':=by
 skip;go_enter func75,ntmps75;go_wp2
 go_loopw [3] (fun iv wr=>∃k:Nat,iv=iI k/\1<=k/\k<=13/\Hid (∀j:Int,1<=j->j<k->oa j≠s)/\Ext w wr) (fun i _=>13 - (intOf i).toNat)
 case atStart=>exact ⟨1,rfl,lI _,aa,fun j h1 h2=>aa,xZ _⟩
 case round=>
  obtain ⟨k,rfl,et,auN,HJ,hx⟩:=hrel
  by_cases hk:k<=12
  ·have NP:(k:Int)<=12:=aa
   go_wp2_with fail;refine (qQ k _).mono ?_
   exact Jg
  ·exact Jh
theorem Ca (s:ByteArray) (w:World) (hg:GN w):Calls prog 72 #[.string s] w fun e w'=>OY s e/\Ext w w':=by
 have HGN:=hY hg;go_enter func72,ntmps72;go_wp2
 go_loopw [3] (fun iv wr=>∃k:Nat,iv=iI k/\1<=k/\k<=13/\Hid (∀j:Int,1<=j->j<k->oa j≠s)/\Ext w wr) (fun i _=>13 - (intOf i).toNat)
 case atStart=>exact ⟨1,rfl,lI _,aa,fun j h1 h2=>aa,xZ _⟩
 case round=>
  obtain ⟨k,rfl,et,auN,HJ,hx⟩:=hrel
  by_cases hk:k<=12
  ·have NP:(k:Int)<=12:=aa
   go_wp2_with fail;refine (qR k _ (HGN.u.ext hx)).mono ?_
   exact Jg
  ·exact Jh
end Go.Proofs.YtodhjgngkkcjgaaGreatDoor
