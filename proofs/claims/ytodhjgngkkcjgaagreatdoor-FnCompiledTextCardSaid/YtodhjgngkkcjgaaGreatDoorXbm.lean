import Derived.Test.YtodhjgngkkcjgaaGreatDoorXbi
import Derived.Test.YtodhjgngkkcjgaaGreatDoorXbj
namespace Go.Proofs.YtodhjgngkkcjgaaGreatDoor
open Go.ChangeShapes Go.WideShapes Go.ChangeAt Go.RowKit Go.Deep Go.Proofs.Tryz
set_option linter.unusedVariables false
set_option linter.unusedSimpArgs false
set_option maxRecDepth 100000
set_option maxHeartbeats 16000000
theorem KD {g:Gt} {n:Int} {i:Nat} {q:Int} (hn:n<=4) (h:DS g n i q=true):DS g 4 i q=true:=by
 unfold DS at h |-;split
 ·rename_i hc;rw [aY hc] at h
  exact h
 ·rename_i hc;rw [aM hc] at h;simp only [lF,kh] at h |-
  exact ⟨⟨h.1.1,aa⟩,h.2⟩
theorem ain {g:Gt} {n:Int} (h:vg g n=true):vg g 4=true:=by
 unfold vg at h |-;simp only [lF,kh] at h |-;obtain ⟨⟨⟨⟨⟨h1,h2⟩,h3⟩,h4⟩,h5⟩,h6⟩:=h
 exact ⟨⟨⟨⟨⟨aa,aa⟩,h3⟩,KD h2 h4⟩,KD h2 h5⟩,KD h2 h6⟩
theorem PR {x lo hi:Int} (h:lo<=x/\x<=hi):lX x lo hi=true:=by
 unfold lX;simp only [lF,kh]
 exact h
theorem ae6 {o:Oq} {n bits:Int} (hn:n<=4) (hb:bits<=3) (h:dM o n bits=true):dM o 4 3=true:=by
 have h44:lX 4 1 4=true:=ae
 have h33:lX 3 0 3=true:=ae
 have zG:lX n 1 4=true:=by
  cases e:lX n 1 4
  ·rw [WU e] at h;cases h
  ·rfl
 have hib:lX bits 0 3=true:=by
  cases e:lX bits 0 3
  ·rw [WV e] at h;cases h
  ·rfl
 rcases mG h with ⟨hk,mo,rV,hc3⟩|⟨hk,⟨fc,eO⟩,eT,iP⟩|⟨hk,fc,eO⟩
 ·rw [FZ zG hib hk] at h;rw [FZ h44 h33 hk];simp only [lF] at h |-
  exact ⟨⟨h.1.1,ain h.1.2⟩,PR ⟨rV,aa⟩⟩
 ·rw [Ga zG hib hk] at h;rw [Ga h44 h33 hk];simp only [lF] at h |-
  exact ⟨⟨h.1.1,PR ⟨fc,aa⟩⟩,PR ⟨eT,aa⟩⟩
 ·rw [Gb zG hib hk] at h;rw [Gb h44 h33 hk];simp only [lF] at h |-
  exact ⟨h.1,PR ⟨fc,aa⟩⟩
theorem aio (n bits:Int) (l:List Oq):∀k,l.foldl (JW n bits) (some k)≠none->∀o∈l,dM o n bits=true:=by
 induction l with
 |nil=>intro k _ o ho;cases ho
 |cons x l ih=>
  intro k hne o ho;rw [vO] at hne
  cases hx:qZ n bits k x
  ·have e:JW n bits (some k) x=none:=by simp [JW,hx]
   rw [e,MS] at hne
   exact absurd rfl hne
  ·have e:JW n bits (some k) x=some (if (x.k==2)=true then k+1 else k):=by simp [JW,hx]
   rw [e] at hne;rcases jw.1 ho with rfl|ho
   ·cases hv:dM o n bits
    ·rw [Fw hv] at hx;cases hx
    ·rfl
   ·exact ih _ hne o ho
structure VF (x:Cm):Prop where
 n:x.n=(x.st.length:Int)
 sd:PG x.st
 sl:x.st.length<=4
 fd:PG x.fin
 fl:x.fin.length<=4
 ol:x.ops.length<=1200
 b0:0<=x.bits
 b4:x.bits<=4
 ov:∀o∈x.ops,dM o 4 3=true
theorem vF {x:Cm} (h:vC x=true):VF x:=by
 obtain ⟨h1,h2,h3,h4,h5,h6,h7⟩:=xl h;unfold vC at h;simp only [lF,kh,eS] at h;obtain ⟨⟨⟨⟨⟨⟨⟨_,_⟩,hn⟩,_⟩,_⟩,hb⟩,hl⟩,_⟩:=h;have iP:=(xJ hb).2;refine ⟨hn.symm,h2,h1,h4,h3,h5,h6,h7,fun o ho=>ae6 (n:=x.n) (bits:=x.bits) aa iP (aio x.n x.bits x.ops 0 ?_ o ho)⟩;intro e;unfold lst Cl at hl;rw [e] at hl
 cases hl
theorem ae7 {b:UInt8} {sep:ByteArray} {x:ByteArray} {r:List ByteArray} (h:b∈(jn sep (x::r)).data.toList):b∈sep.data.toList\/∃y∈x::r,b∈y.data.toList:=by
 have e:(jn sep (x::r)).data.toList=x.data.toList++(r.map fun y=>sep.data.toList++y.data.toList).flatten:=OP sep x r;rw [e,iT] at h;rcases h with h|h
 ·exact .inr ⟨x,rX,h⟩
 ·obtain ⟨l,hl,hb⟩:=List.mem_flatten.1 h;obtain ⟨y,hy,rfl⟩:=qH.1 hl;rcases iT.1 hb with hb|hb
  ·exact .inl hb
  ·exact .inr ⟨y,nr _ hy,hb⟩
theorem Dx {q:Int} (h0:0<=q) (h4:q<=4):(10:UInt8) ∉ (cP q).data.toList:=by
 rcases (aa:q=0\/q=1\/q=2\/q=3\/q=4) with rfl|rfl|rfl|rfl|rfl<;>decide
theorem amF (k:Int):(10:UInt8) ∉ (oa k).data.toList:=by
 rcases Dg k with rfl|rfl|rfl|rfl|rfl|rfl|rfl|rfl|rfl|rfl|rfl|rfl|h
 all_goals first|(rw [wP h];decide)|decide
theorem Vz {f:ByteArray} {p:List Int} (hf:(10:UInt8) ∉ f.data.toList) (hp:PG p):(10:UInt8) ∉ (ew f p).data.toList:=by
 rw [aeL];intro h;rcases ae7 h with hm|⟨y,hy,hm⟩
 ·revert hm;decide
 ·rcases jw.1 hy with rfl|hy
  ·exact hf hm
  ·obtain ⟨q,hq,rfl⟩:=qH.1 hy
   exact Dx (hp q hq).1 (hp q hq).2 hm
theorem ajO {g:Gt} (h:vg g 4=true):∀y∈gw g,(10:UInt8) ∉ y.data.toList:=by
 intro y hy;rcases jw.1 hy with rfl|hy
 ·exact amF _
 ·obtain ⟨q,hq,rfl⟩:=qH.1 hy;have:=Fp h hq
  exact Dx this.1 aa
theorem aro {o:Oq} (h:dM o 4 3=true):∀y∈ow o,(10:UInt8) ∉ y.data.toList:=by
 have e1:(10:UInt8) ∉ ZE.data.toList:=ae
 have e2:(10:UInt8) ∉ Xl.data.toList:=ae
 have e3:(10:UInt8) ∉ wI.data.toList:=ae
 intro y hy;unfold ow at hy;rcases mG h with ⟨hk,mo,rV,hc3⟩|⟨hk,⟨fc,eO⟩,eT,iP⟩|⟨hk,fc,eO⟩
 ·rw [aM aa,aM aa] at hy;split at hy
  ·rcases jw.1 hy with rfl|hy
   ·exact e3
   rcases jw.1 hy with rfl|hy
   ·exact Dx aa aa
   ·exact ajO mo y hy
  ·exact ajO mo y hy
 ·rw [aY hk] at hy;simp at hy;rcases hy with rfl|rfl|rfl
  ·exact e1
  ·exact Dx aa aa
  ·exact Dx aa aa
 ·rw [aM aa,aY hk] at hy;simp at hy;rcases hy with rfl|rfl
  ·exact e2
  ·exact Dx aa aa
theorem amG {o:Oq} (h:dM o 4 3=true):(10:UInt8) ∉ (kC o).data.toList:=by
 rw [ado h];have hb:=aro h
 cases he:ow o with
 |nil=>decide
 |cons x r=>
  rw [he] at hb;intro hm;rcases ae7 hm with hm|⟨y,hy,hm⟩
  ·revert hm;decide
  ·exact hb y hy hm
theorem ae8 (q:Int):(⟨#[98,105,116,115,32]⟩:ByteArray)++cP q=ew ⟨#[98,105,116,115]⟩ [q]:=rfl
theorem xN {x:Cm} (h:vC x=true):cut 10 (ctx x)=lines x:=by
 have V:=vF h;rw [PM h];have hl:∀y∈lines x,(10:UInt8) ∉ y.data.toList:=by
  intro y hy;unfold lines KP at hy;rw [iT,iT] at hy;rcases hy with (hy|hy)|hy
  ·rw [jw,oZ] at hy;rcases hy with rfl|rfl
   ·exact Vz ae V.sd
   ·rw [ae8]
    exact Vz ae (fun q hq=>by rw [oZ] at hq;subst hq;exact ⟨V.b0,V.b4⟩)
  ·obtain ⟨o,ho,rfl⟩:=qH.1 hy
   exact amG (V.ov o ho)
  ·rw [oZ] at hy;subst hy
   exact Vz ae V.fd
 cases he:lines x with
 |nil=>unfold lines KP at he;simp at he
 |cons a r=>rw [he] at hl;exact OU 10 a r hl
theorem uq (x:Cm):(lines x).length=x.ops.length+3:=by
 unfold lines KP;simp
theorem aip (x:Cm):(lines x).getD 0 ⟨#[]⟩=ew ⟨#[111,110]⟩ x.st:=rfl
theorem aiq (x:Cm):(lines x).getD 1 ⟨#[]⟩=ew ⟨#[98,105,116,115]⟩ [x.bits]:=rfl
theorem air (x:Cm):(lines x).getD (x.ops.length+2) ⟨#[]⟩=ew ⟨#[97,116]⟩ x.fin:=by
 have e:(lines x)[x.ops.length+2]?=some (ew ⟨#[97,116]⟩ x.fin):=by
  unfold lines KP;rw [uS ag];simp
 simp [List.getD,e]
theorem Ta {x:Cm} {j:Nat} {o:Oq} (h:x.ops[j]?=some o):(lines x).getD (j+2) ⟨#[]⟩=kC o:=by
 have hj:=(gu.1 h).1;have e:(lines x)[j+2]?=some (kC o):=by
  unfold lines KP;rw [oY ai,uS ag];simp [h]
 simp [List.getD,e]
def OR (t:ByteArray) (o:Oq):Prop:=∀o':Oq,dM o' 4 3=true->t=kC o'->o=o'
def RO (ws:List ByteArray) (xs:List Oq):Prop:=∀(j:Nat) (o:Oq),xs[j]?=some o->OR (ws.getD (j+2) ⟨#[]⟩) o
theorem RO.nil (ws:List ByteArray):RO ws []:=fun j e h=>dX
theorem RO.snoc {ws:List ByteArray} {xs:List Oq} {o:Oq} {k:Nat} (h:RO ws xs) (hk:xs.length=k) (ho:OR (ws.getD (k+2) ⟨#[]⟩) o):RO ws (xs++[o]):=by
 subst hk;intro j y hj
 by_cases ba:j<xs.length
 ·rw [oY ba] at hj
  exact h j y hj
 ·have hj2:=(gu.1 hj).1;simp at hj2;obtain rfl:j=xs.length:=aa
  rw [uS (lI _)] at hj;simp at hj;subst hj
  exact ho
theorem ajP {t:ByteArray} {o:Oq} {k:Bool} (h:(k=true/\dM o 4 3=true/\kC o=t/\∀o':Oq,dM o' 4 3=true->t=kC o'->o=o')\/(k=false/\o=O0/\∀o':Oq,dM o' 4 3=true->t≠kC o')):OR t o:=by
 rcases h with ⟨_,_,_,h⟩|⟨_,_,h⟩
 ·exact h
 ·exact fun o' hv he=>absurd he (h o' hv)
def LL (t:ByteArray) (xs:List Int) (f:ByteArray):Prop:=∀p:List Int,PG p->p.length<=4->t=ew f p->xs=p
theorem Nd {s:ByteArray} {bits:Int} {ops:List Oq} {st fin:List Int} {m:Nat} (hm:(cut 10 s).length=m) (h0:LL ((cut 10 s).getD 0 ⟨#[]⟩) st ⟨#[111,110]⟩) (hz:LL ((cut 10 s).getD (m - 1) ⟨#[]⟩) fin ⟨#[97,116]⟩)
  (hb:∀q:Int,0<=q->q<=4->(cut 10 s).getD 1 ⟨#[]⟩=ew ⟨#[98,105,116,115]⟩ [q]->bits=q) (ho:RO (cut 10 s) ops) (hl:ops.length+3=m) (y:Cm) (hv:vC y=true) (he:s=ctx y):
  (⟨(st.length:Int),bits,ops,st,fin⟩:Cm)=y:=by
 have V:=vF hv;have hw:cut 10 s=lines y:=by rw [he,xN hv]
 rw [hw] at hm h0 hz hb ho;rw [uq] at hm;have e0:=h0 y.st V.sd V.sl (aip y);have ez:=hz y.fin V.fd V.fl (by rw [show m - 1=y.ops.length+2 by omega];exact air y);have eb:=hb y.bits V.b0 V.b4 (aiq y);have eo:ops=y.ops:=by
  apply FM;intro j
  by_cases hj:j<ops.length
  ·have hx:ops[j]?=some ops[j]:=lB hj;have hg:y.ops[j]?=some (y.ops[j]' aa):=lB aa;rw [hx,hg,ho j _ hx _ (V.ov _ (lG hg)) (Ta hg)]
  ·rw [rW aa,rW aa]
 have en:=V.n;obtain ⟨yn,yb,yo,ys,yf⟩:=y;dsimp only at*
 subst e0 ez eb eo;rw [en]
theorem rU {s:ByteArray} {m:Nat} (hm:(cut 10 s).length=m) (h:m<3\/1203<m) (y:Cm) (hv:vC y=true):s≠ctx y:=by
 intro he;have hw:cut 10 s=lines y:=by rw [he,xN hv]
 rw [hw,uq] at hm;have:=(vF hv).ol;omega
theorem PS {s:ByteArray} {m j:Nat} (hm:(cut 10 s).length=m) (hj:j+3<m) (h:∀o:Oq,dM o 4 3=true->(cut 10 s).getD (j+2) ⟨#[]⟩≠kC o) (y:Cm) (hv:vC y=true):s≠ctx y:=by
 intro he;have hw:cut 10 s=lines y:=by rw [he,xN hv]
 rw [hw] at hm h;rw [uq] at hm;have hg:y.ops[j]?=some (y.ops[j]' aa):=lB aa
 exact h _ ((vF hv).ov _ (lG hg)) (Ta hg)
theorem uR {s:ByteArray} {x:Cm} (h:∀y:Cm,vC y=true->s=ctx y->x=y) (hne:(ByteArray.toList (ctx x)==ByteArray.toList s)=false) (y:Cm) (hv:vC y=true):s≠ctx y:=by
 intro he;have:=h y hv he;rw [this,<-he,hH] at hne
 cases hne
def C0:Cm:=⟨0,0,[],[],[]⟩
def CR (s:ByteArray) (x:Cm) (ok:Bool):Prop:=
 (ok=true/\vC x=true/\ctx x=s/\∀y:Cm,vC y=true->s=ctx y->x=y)\/(ok=false/\x=C0/\∀y:Cm,vC y=true->s≠ctx y)
def CV (w:World) (b0 b1 b2 b3:Nat) (v:Value) (x:Cm):Prop:=
 ∃(A1 A2 A3:OA) (c1 c2 c3:Nat),v=.agg #[iI x.n,iI x.bits,.slice A1 x.ops.length c1,.slice A2 x.st.length c2,.slice A3 x.fin.length c3]/\
  (w.ownsRow b0 3 1 (.slice A2 x.st.length c2) x.st.length (aD x.st)/\(∀g,(Value.slice A2 x.st.length c2).ownBlock=some g->g<b1))/\
  (w.ownsRow b1 3 1 (.slice A3 x.fin.length c3) x.fin.length (aD x.fin)/\(∀g,(Value.slice A3 x.fin.length c3).ownBlock=some g->g<b2))/\
  (w.ownsRow b2 41 8 (.slice A1 x.ops.length c1) x.ops.length (aJ x.ops)/\(∀g,(Value.slice A1 x.ops.length c1).ownBlock=some g->g<b3))
theorem CV.at_ {w:World} {b0 b1 b2 b3:Nat} {v:Value} {x:Cm} (h:CV w b0 b1 b2 b3 v x):tr w w.heap.size v x:=by
 obtain ⟨A1,A2,A3,c1,c2,c3,rfl,⟨h1,_⟩,⟨h2,_⟩,⟨h3,_⟩⟩:=h
 exact ⟨A1,A2,A3,c1,c2,c3,rfl,Rd.own h3,Rd.own h1,Rd.own h2⟩
theorem CV.ext {w w':World} {b0 b1 b2 b3:Nat} {v:Value} {x:Cm} (h:CV w b0 b1 b2 b3 v x) (hx:Ext w w'):CV w' b0 b1 b2 b3 v x:=by
 obtain ⟨A1,A2,A3,c1,c2,c3,rfl,⟨h1,l1⟩,⟨h2,l2⟩,⟨h3,l3⟩⟩:=h
 exact ⟨A1,A2,A3,c1,c2,c3,rfl,⟨aj h1 hx,l1⟩,⟨aj h2 hx,l2⟩,⟨aj h3 hx,l3⟩⟩
def FE (s:ByteArray) (b0:Nat) (e:Ending) (w':World):Prop:=∃(v:Value) (x:Cm) (ok:Bool) (b1 b2 b3:Nat),e=.returned (.tuple #[v,.bool ok])/\CV w' b0 b1 b2 b3 v x/\(b0<=b1/\b1<=b2/\b3<=w'.heap.size)/\x.small/\CR s x ok
theorem Ct (w:World) (B size:Nat) (e:TypeId):w.ownsRow B e size (nS) 0 []:=⟨ag,.inl ⟨rfl,rfl⟩⟩
theorem qp {s:ByteArray} {b0:Nat} {e:Ending} {w':World} (he:e=.returned (.tuple #[.agg jG,.bool false])) (h:∀y:Cm,vC y=true->s≠ctx y):FE s b0 e w':=
 ⟨_,C0,false,b0,b0,0,he,⟨none,none,none,0,0,0,rfl,⟨Ct _ _ _ _,fun g hg=>by cases hg⟩,⟨Ct _ _ _ _,fun g hg=>by cases hg⟩,⟨Ct _ _ _ _,fun g hg=>by cases hg⟩⟩,⟨lI _,lI _,lJ _⟩,⟨lJ _,lJ _,lJ _⟩,.inr ⟨rfl,rfl,h⟩⟩
theorem ais (w:World) (g i:Nat) (u:Value):w.grownBy (w.setCell (aA g i) u) (some g):=
 ⟨rfl,rfl,rfl,by simp [World.setCell],fun k hk hne=>pa w ⟨g,i,none⟩ u k (fun e=>hne dU)⟩
theorem PT {w w':World} {B size n:Nat} {e:TypeId} {v:Value} {xs:List Value} {row:Option Nat} (h:w.ownsRow B e size v n xs) (hg:w.grownBy w' row) (hne:∀k,v.ownBlock=some k->row≠some k):w'.ownsRow B e size v n xs:=by
 refine h.kept hg ?_
 cases hv:v.ownBlock with
 |none=>exact .inl rfl
 |some q=>exact .inr (fun e=>hne q hv e.symm)
theorem fw {w:World} {B size n:Nat} {e:TypeId} {v:Value} {xs:List Value} (h:w.ownsRow B e size v n xs) {g:Nat} (hne:∀k,v.ownBlock=some k->k≠g) (i:Nat) (u:Value):(w.setCell (aA g i) u).ownsRow B e size v n xs:=
 PT h (ais w g i u) (fun k hk e=>hne k hk rk)
structure DQ (W1 w:World) (g b0 b1 B:Nat) (n bits:Int) (A:OA) (len cap:Nat) (v2:Value) (st:List Int) (v3:Value) (fin:List Int) (xs:List Oq):Prop where
 b:au w g 27 #[iI n,iI bits,.slice A len cap,v2,v3]
 o:w.ownsRow B 41 8 (.slice A len cap) len (aJ xs)
 r2:w.ownsRow b0 3 1 v2 st.length (aD st)
 l2:∀k,v2.ownBlock=some k->k<b1/\k≠g
 r3:w.ownsRow b1 3 1 v3 fin.length (aD fin)
 l3:∀k,v3.ownBlock=some k->k<B/\k≠g
 x:Ext W1 w
 s:W1.heap.size<=g/\W1.heap.size<=b0
 z:b0<=b1/\b1<=B/\g<B/\B<=w.heap.size
section
variable {W1 w w':World} {g b0 b1 B:Nat} {n bits:Int} {A:OA} {len cap:Nat} {v2:Value} {st:List Int} {v3:Value} {fin:List Int} {xs:List Oq}
theorem DQ.ext (h:DQ W1 w g b0 b1 B n bits A len cap v2 st v3 fin xs) (hx:Ext w w'):DQ W1 w' g b0 b1 B n bits A len cap v2 st v3 fin xs:=
 ⟨h.b.ext hx,aj h.o hx,aj h.r2 hx,h.l2,aj h.r3 hx,h.l3,h.x.trans hx,h.s,h.z.1,h.z.2.1,h.z.2.2.1,lK h.z.2.2.2 hx.size⟩
theorem DQ.abW (h:DQ W1 w g b0 b1 B n bits A len cap v2 st v3 fin xs) (M:Int):DQ W1 (w.setCell (aA g 0) (iI M)) g b0 b1 B M bits A len cap v2 st v3 fin xs:=
 ⟨h.b.aU 0 _,bo h.o (p:=(aA g 0)) h.z.2.2.1 _,fw h.r2 (fun k hk=>(h.l2 k hk).2) 0 _,h.l2,fw h.r3 (fun k hk=>(h.l3 k hk).2) 0 _,h.l3,h.x.setCell (p:=(aA g 0)) h.s.1 _,h.s,h.z.1,h.z.2.1,h.z.2.2.1,by simpa [World.setCell] using h.z.2.2.2⟩
theorem DQ.arp (h:DQ W1 w g b0 b1 B n bits A len cap v2 st v3 fin xs) (M:Int):DQ W1 (w.setCell (aA g 1) (iI M)) g b0 b1 B n M A len cap v2 st v3 fin xs:=
 ⟨h.b.aU 1 _,bo h.o (p:=(aA g 1)) h.z.2.2.1 _,fw h.r2 (fun k hk=>(h.l2 k hk).2) 1 _,h.l2,fw h.r3 (fun k hk=>(h.l3 k hk).2) 1 _,h.l3,h.x.setCell (p:=(aA g 1)) h.s.1 _,h.s,h.z.1,h.z.2.1,h.z.2.2.1,by simpa [World.setCell] using h.z.2.2.2⟩
theorem DQ.len_ (h:DQ W1 w g b0 b1 B n bits A len cap v2 st v3 fin xs):xs.length=len:=(Rd.own h.o).len Oq.aG aa
end
theorem Dy {w:World} {B:Nat} (h:B<=w.heap.size):({w with heap:=w.heap.extract 0 B}:World).heap.size=B:=ai
theorem ae9 {w:World} {B:Nat} (h:B<=w.heap.size):Ext ({w with heap:=w.heap.extract 0 B}:World) w:=by
 refine ⟨rfl,rfl,rfl,by rw [Dy h];exact h,fun k hk=>?_⟩;rw [Dy h] at hk;simp [Nl];omega
theorem PU {w w':World} {o:Obj} {row:Option Nat} (h:(w.alloc o).grownBy w' row):w.grownBy w' row:=
 ⟨h.os,h.tape,h.output,lK ag h.size,fun k hk hne=>(h.block k ai hne).trans (TP w o k hk)⟩
theorem mJ:(prog.info? 27).map (·.size)=some 5:=af
theorem qt {w:World} {g t:Nat} {c0 c1 c2 c3 c4:Value} (h:au w g t #[c0,c1,c2,c3,c4]):(w.cell? (aA g 0)=some c0/\w.cell? (aA g 1)=some c1/\w.cell? (aA g 2)=some c2/\w.cell? (aA g 3)=some c3/\w.cell? (aA g 4)=some c4)/\w.frozen? (aA g 0)=false/\w.frozen? (aA g 1)=false/\w.frozen? (aA g 2)=false/\w.frozen? (aA g 3)=false/\w.frozen? (aA g 4)=false:=
 ⟨⟨h.cell 0,h.cell 1,h.cell 2,h.cell 3,h.cell 4⟩,h.frozen 0,h.frozen 1,h.frozen 2,h.frozen 3,h.frozen 4⟩
def nM (w:World) (g:Nat) (c0 c1 c2 c3 c4:Value):World:=((((w.setCell (aA g 0) c0).setCell (aA g 1) c1).setCell (aA g 2) c2).setCell (aA g 3) c3).setCell (aA g 4) c4
theorem au.nM {w:World} {g t:Nat} {z0 z1 z2 z3 z4:Value} (h:au w g t #[z0,z1,z2,z3,z4]) (c0 c1 c2 c3 c4:Value):au (nM w g c0 c1 c2 c3 c4) g t #[c0,c1,c2,c3,c4]:=
 ((((h.aU 0 c0).aU 1 c1).aU 2 c2).aU 3 c3).aU 4 c4
theorem nN {w0 w:World} (h:Ext w0 w) {g:Nat} (hg:w0.heap.size<=g) (c0 c1 c2 c3 c4:Value):Ext w0 (nM w g c0 c1 c2 c3 c4):=
 ((((h.setCell (p:=(aA g 0)) hg c0).setCell (p:=(aA g 1)) hg c1).setCell (p:=(aA g 2)) hg c2).setCell (p:=(aA g 3)) hg c3).setCell (p:=(aA g 4)) hg c4
theorem Cu {w:World} {B size k:Nat} {e:TypeId} {v:Value} {xs:List Value} (h:w.ownsRow B e size v k xs) {g:Nat} (hg:g<B) (c0 c1 c2 c3 c4:Value):(nM w g c0 c1 c2 c3 c4).ownsRow B e size v k xs:=
 bo (bo (bo (bo (bo h (p:=(aA g 0)) hg c0) (p:=(aA g 1)) hg c1) (p:=(aA g 2)) hg c2) (p:=(aA g 3)) hg c3) (p:=(aA g 4)) hg c4
theorem DQ.app {W1 w:World} {g b0 b1 B:Nat} {n bits:Int} {A:OA} {len cap:Nat} {v2:Value} {st:List Int} {v3:Value} {fin:List Int} {xs:List Oq} (D:DQ W1 w g b0 b1 B n bits A len cap v2 st v3 fin xs) {ops:Array Oper} {rest:List Oper} {o:Oper} {a:Act} {Q:Exit->Act->World->Prop} (fX:o.guard=none) (s x:Operand)
  (ho:aO o s x 24) (hs:a.eval s=.slice A len cap)
  (y:Oq) (e:TypeId) (b:Nat) (hx:a.eval x=.slice (some ⟨b,0,none⟩) 1 1) (sg:b=w.heap.size) (hn:len<=1800000000000)
  (h:∀A' c' w',au w' g 27 #[iI n,iI bits,.slice A len cap,v2,v3]->DQ W1 (w'.setCell (aA g 2) (.slice A' (len+1) c')) g b0 b1 B n bits A' (len+1) c' v2 st v3 fin (xs++[y])->wpList prog ops Q rest (a.put o.dst (.slice A' (len+1) c')) w'):
  wpList prog ops Q (o::rest) a (w.alloc (cO (jE y) e)):=by
 subst sg;have hB:=D.z.2.2.2;have mW:=Dy hB;refine NU (w0:={w with heap:=w.heap.extract 0 B}) fX s x ho _ len xs hs (by rw [mW];exact D.o.alloc _) ((ae9 hB).alloc _) _ 1 1 [y] hx (dZ w _ e 8 _ eW eW) aa ?_;intro v' w' h1 h2 h3 h4;rw [mW] at h1;obtain ⟨A',c',rfl,_⟩:=ak h1;have pU:=PU h3;have ba:∀k,(Value.slice A len cap).ownBlock=some k->B<=k:=fun k hk=>(D.o.lt k hk).1
 have hgB:=D.z.2.2.1;have rJ:au w' g 27 #[iI n,iI bits,.slice A len cap,v2,v3]:=D.b.grown pU (fun k hk=>oM (ba k hk));have sr:Ext W1 w':=D.x.grown pU (fun k hk=>oN (ba k hk) D.s.1);have h2':=PT D.r2 pU (fun k hk e=>by have:=ba k e;have:=(D.l2 k hk).1;have:=D.z.2.1;omega);have h3':=PT D.r3 pU (fun k hk e=>oN (ba k e) ((D.l3 k hk).1))
 exact h A' c' w' rJ ⟨rJ.aU 2 _,bo h1 (p:=(aA g 2)) hgB _,fw h2' (fun k hk=>(D.l2 k hk).2) 2 _,D.l2,fw h3' (fun k hk=>(D.l3 k hk).2) 2 _,D.l3,sr.setCell (p:=(aA g 2)) D.s.1 _,D.s,D.z.1,D.z.2.1,hgB,by simpa [World.setCell] using lK hB pU.size⟩
theorem Dz {s:ByteArray} {z:Nat} (h:(cut 10 s).length=z+1) (hz:2<=z):s≠⟨#[]⟩:=by
 rintro rfl;have:(cut 10 (⟨#[]⟩:ByteArray)).length=1:=rfl;omega
theorem Ng {w:World} {B size n:Nat} {e:TypeId} {v:Value} {xs:List Value} (h:w.ownsRow B e size v n xs) {g:Nat} (hne:∀k,v.ownBlock=some k->k≠g) (c0 c1 c2 c3 c4:Value):(nM w g c0 c1 c2 c3 c4).ownsRow B e size v n xs:=
 fw (fw (fw (fw (fw h hne 0 c0) hne 1 c1) hne 2 c2) hne 3 c3) hne 4 c4
theorem DQ.start {W1 w:World} {g b0 b1 B:Nat} {v2:Value} {st:List Int} {v3:Value} {fin:List Int} {z0 z1 z2 z3 z4:Value} (hb:au w g 27 #[z0,z1,z2,z3,z4]) (r2:w.ownsRow b0 3 1 v2 st.length (aD st)) (l2:∀k,v2.ownBlock=some k->k<b1/\k≠g)
  (r3:w.ownsRow b1 3 1 v3 fin.length (aD fin)) (l3:∀k,v3.ownBlock=some k->k<B/\k≠g) (x:Ext W1 w) (s:W1.heap.size<=g/\W1.heap.size<=b0) (z:b0<=b1/\b1<=B/\g<B/\B<=w.heap.size):
  DQ W1 (nM w g (iI 0) (iI 0) (nS) v2 v3) g b0 b1 B 0 0 none 0 0 v2 st v3 fin []:=
 ⟨hb.nM _ _ _ _ _,Ct _ _ _ _,Ng r2 (fun k hk=>(l2 k hk).2) _ _ _ _ _,l2,Ng r3 (fun k hk=>(l3 k hk).2) _ _ _ _ _,l3,nN x s.1 _ _ _ _ _,s,z.1,z.2.1,z.2.2.1,by simpa [nM,World.setCell] using z.2.2.2⟩
theorem Et {s:ByteArray} {W1 w:World} {g b0 b1 B r:Nat} {n bits:Int} {A A2 A3:OA} {len cap n2 c2 n3 c3:Nat} {st fin:List Int} {xs:List Oq} {e:Ending} {q0 q1 q2 q3 q4:Value} (D:DQ W1 w g b0 b1 B n bits A len cap (.slice A2 n2 c2) st (.slice A3 n3 c3) fin xs) (hr:r<W1.heap.size) (k0:Nat) (lu:k0<=b0)
  (DP:st.length=n2) (Hj:fin.length=n3) (hsm:Cm.small ⟨n,bits,xs,st,fin⟩)
  (he:e=.returned (.tuple #[.agg #[iI n,iI bits,.slice A len cap,.slice A2 n2 c2,.slice A3 n3 c3],.bool true])) (hne:s≠⟨#[]⟩) (ht:ctx ⟨n,bits,xs,st,fin⟩=s) (h:∀y:Cm,vC y=true->s=ctx y->(⟨n,bits,xs,st,fin⟩:Cm)=y):FE s k0 e (nM w r q0 q1 q2 q3 q4):=by
 have hl:=D.len_;subst hl DP Hj;have eT:=D.s.2;refine ⟨_,⟨n,bits,xs,st,fin⟩,true,b1,B,(nM w r q0 q1 q2 q3 q4).heap.size,he,⟨A,A2,A3,cap,c2,c3,rfl,⟨aC (Cu D.r2 aa _ _ _ _ _) lu,fun k hk=>(D.l2 k hk).1⟩,⟨Cu D.r3 (oM D.z.1) _ _ _ _ _,fun k hk=>(D.l3 k hk).1⟩,⟨Cu D.o (oN D.z.1 D.z.2.1) _ _ _ _ _,fun k hk=>((Cu D.o (g:=r) (oN D.z.1 D.z.2.1) q0 q1 q2 q3 q4).lt k hk).2⟩⟩,⟨oM D.z.1,D.z.2.1,lI _⟩,hsm,.inl ⟨rfl,?_,ht,h⟩⟩
 cases hv:vC ⟨n,bits,xs,st,fin⟩
 ·rw [PL hv] at ht;exact absurd ht.symm hne
 ·rfl
theorem DQ.afa {W1 w:World} {g b0 b1 B:Nat} {n bits:Int} {A A2 A3:OA} {len cap n2 c2 n3 c3:Nat} {st fin:List Int} {xs:List Oq} (D:DQ W1 w g b0 b1 B n bits A len cap (.slice A2 n2 c2) st (.slice A3 n3 c3) fin xs) (DP:st.length=n2) (Hj:fin.length=n3) (hs:Cm.small ⟨n,bits,xs,st,fin⟩):
  Calls prog 7 #[.agg #[iI n,iI bits,.slice A len cap,.slice A2 n2 c2,.slice A3 n3 c3]] w fun e w'=>e=.returned (.string (ctx ⟨n,bits,xs,st,fin⟩))/\Ext w w':=by
 have hl:=D.len_;subst hl DP Hj
 exact kE A A2 A3 cap c2 c3 ⟨n,bits,xs,st,fin⟩ w (Rd.own D.o) (Rd.own D.r2) (Rd.own D.r3) (oR D.r2) (oR D.r3) hs
theorem DQ.afb {W1 w:World} {g b0 b1 B:Nat} {n bits:Int} {A A2 A3:OA} {len cap n2 c2 n3 c3:Nat} {st fin:List Int} {xs:List Oq} (D:DQ W1 w g b0 b1 B n bits A len cap (.slice A2 n2 c2) st (.slice A3 n3 c3) fin xs) (DP:st.length=n2) (Hj:fin.length=n3) (hs:Cm.small ⟨n,bits,xs,st,fin⟩) (hg:GN w):
  Calls prog 6 #[.agg #[iI n,iI bits,.slice A len cap,.slice A2 n2 c2,.slice A3 n3 c3]] w fun e w'=>e=.returned (.string (ctx ⟨n,bits,xs,st,fin⟩))/\Ext w w':=by
 have hl:=D.len_;subst hl DP Hj
 exact um _ ⟨n,bits,xs,st,fin⟩ w ⟨A,A2,A3,cap,c2,c3,rfl,Rd.own D.o,Rd.own D.r2,Rd.own D.r3⟩ hs hg
theorem KE {P:Prop} (h:P:=by
 obtain ⟨n1,jX⟩:∃n1,z=n1+2:=⟨z - 2,aa⟩;subst jX;clear iV;go_wp2
 go_loopw [50] (fun iv wr=>∃(k:Nat) (A:OA) (cap:Nat) (xs:List Oq),iv=iI k/\k<=n1/\Hid (DQ w1 wr g b0 b1 B (n2:Int) bits A k cap (.slice A2 n2 c2) st (.slice A3 n3 c3) fin xs)/\Hid (RO (cut 10 s) xs)) (fun i _=>n1 - (intOf i).toNat)
 case atStart=>exact ⟨0,none,0,[],rfl,lJ _,D4,RO.nil _⟩
 case round=>
  obtain ⟨k,A,cap,xs,rfl,hk,DD,RR⟩:=hrel;clear D4
  by_cases ba:k<n1
  ·have NP:(k:Int)<(n1:Int):=aa
   have lu:(0:Int)<=(k:Int):=aa
   have EM:(k:Int)<=2000000:=aa
   obtain ⟨t,ht⟩:=ex ((cut 10 s).getD (k+2) ⟨#[]⟩);have HTZ:Hid (t.size<=1400000):=yA
   have q1:wr.cell? (aA b (2+k))=some (.string t):=by rw [<-ht,zz];exact HY.u _ DD.u.x (k+2) aa
   have HTE:=hY ht;have HKZ:Hid (k<n1/\n1<=1048576):=⟨ba,aa⟩;clear ht hk ba;go_wp2_with fail;refine (Dr t HTZ.u _ (sY.u.ext (cH.u.trans DD.u.x))).mono ?_;rintro e w7 ⟨⟨op,okp,rfl,hrp⟩,gG⟩;have HRP:=hY hrp;have D5:=hY (DD.u.ext gG);clear hrp gG q1 DD;go_upto_region 14 with fail;have E0:Hid (au (w7.alloc (cO (jE op) 41)) w7.heap.size 41 (jE op)):=au.new _ _ _;have D6:Hid (DQ w1 (w7.alloc (cO (jE op) 41)) g b0 b1 B (n2:Int) bits A k cap (.slice A2 n2 c2) st (.slice A3 n3 c3) fin xs):=D5.u.ext ((xZ _).alloc _);generalize w7.alloc (cO (jE op) 41)=W8 at*
   generalize w7.heap.size=h at*
   clear D5
   cases okp
   ·have HN:Hid (∀y:Cm,vC y=true->s≠ctx y):=PS HM.u (j:=k) (oM HKZ.u) (by
     intro o ho he;rw [HTE.u] at he;rcases HRP.u with ⟨h,_⟩|⟨_,_,h⟩
     ·cases h
     ·exact h o ho he)
    obtain ⟨⟨a0,a1,a2,a3,a4⟩,z0,z1,z2,z3,z4⟩:=qt (dv.u.ext D6.u.x);go_wp2
    exact bJ (v:=.tuple #[.agg jG,.bool false]) (aR rfl _ _ _ _ _ _ _ rfl rfl ((dv.u.ext D6.u.x).nM (iI 0) (iI 0) (nS) (nS) (nS)) vQ rfl mJ) rfl ⟨qp rfl HN.u,nN (cH.u.trans D6.u.x) (lI _) _ _ _ _ _⟩
   ·have HOR:=hY (ajP HRP.u);obtain ⟨⟨a0,a1,a2,a3,a4,a5,a6,a7⟩,_⟩:=uh E0.u;have p2:=D6.u.b.ck 2;have K9:Hid (k<=1800000000000):=by have:=HKZ.u;unfold Hid;omega
    go_wp2_with (at_builtin;refine D6.u.app rfl _ _ rfl rfl op _ _ rfl rfl K9.u ?_;intro A' c' w9 Wv hD9;have c0:w9.cell? (aA g 2)=some (.slice A k cap):=Wv.cell 2;have f0:w9.frozen? (aA g 2)=false:=Wv.frozen 2)
    go_roundw
    case rel=>exact ⟨_,_,_,_,iI ((k+1:Nat):Int),⟨k+1,rfl,oM HKZ.u,A',c',xs++[op],hY hD9,hY (RR.u.snoc D6.u.len_ (by rw [HTE.u];exact HOR.u))⟩,rfl,rfl,rfl,rfl,by first|rfl|go_num⟩
    case measure=>simp [intOf];have:=HKZ.u;omega
  ·have NP:¬((k:Int)<(n1:Int)):=aa
   have HSS:Hid (∀y:Cm,vC y=true->s=ctx y->(⟨(n2:Int),bits,xs,st,fin⟩:Cm)=y):=by
    intro y hv he;have:=Nd (s:=s) (bits:=bits) (ops:=xs) (st:=st) (fin:=fin) (m:=n1+2+1) HM.u (fun p hp hl he=>DN.u.2 p ae hp (by rw [<-HY0.u];exact he)) (fun p hp hl he=>HQ9.u.2 p ae hp (by rw [<-HYZ.u];exact he)) HBT.u RR.u (by rw [DD.u.len_];omega) y hv he;rw [TV.u] at this
    exact this
   have HKZ:Hid (k<=1048576):=bN
   clear hk ba;have SS:Hid (Cm.small ⟨(n2:Int),bits,xs,st,fin⟩):=⟨yB,lK DN.u.1 Q0.u,lK HQ9.u.1 QZ.u⟩;have d0:=DD.u.b.ck 0;have d1:=DD.u.b.ck 1;have d2:=DD.u.b.ck 2;have d3:=DD.u.b.ck 3;have d4:=DD.u.b.ck 4;go_wp2_with fail;refine (DD.u.afb TV.u HN9.u SS.u (sY.u.ext (cH.u.trans DD.u.x)).gn).mono ?_;rintro e v9 ⟨rfl,Ek⟩;have D9:=hY (DD.u.ext Ek);clear Ek d0 d1 d2 d3 d4 DD;obtain ⟨⟨a0,a1,a2,a3,a4⟩,z0,z1,z2,z3,z4⟩:=qt (dv.u.ext D9.u.x);obtain ⟨os,PD⟩:=ex (ctx ⟨(n2:Int),bits,xs,st,fin⟩);rw [PD];have Yd:=hY PD;clear PD;obtain ⟨qq,LC⟩:=ex ((ByteArray.toList os==ByteArray.toList s))
   cases qq
   ·have HN:Hid (∀y:Cm,vC y=true->s≠ctx y):=uR HSS.u (by rw [Yd.u];exact LC);go_wp2
    exact bJ (v:=.tuple #[.agg jG,.bool false]) (aR rfl _ _ _ _ _ _ _ rfl rfl ((dv.u.ext D9.u.x).nM (iI 0) (iI 0) (nS) (nS) (nS)) vQ rfl mJ) rfl ⟨qp rfl HN.u,nN (cH.u.trans D9.u.x) (lI _) _ _ _ _ _⟩
   ·have HQ:=hY (ni.1 LC);have d0:=D9.u.b.ck 0;have d1:=D9.u.b.ck 1;have d2:=D9.u.b.ck 2;have d3:=D9.u.b.ck 3;have d4:=D9.u.b.ck 4;go_wp2
    exact bJ (v:=.tuple #[.agg #[iI (n2:Int),iI bits,.slice A k cap,.slice A2 n2 c2,.slice A3 n3 c3],.bool true]) (aR rfl _ _ _ _ _ _ _ rfl rfl ((dv.u.ext D9.u.x).nM (iI (n2:Int)) (iI bits) (.slice A k cap) (.slice A2 n2 c2) (.slice A3 n3 c3)) vQ rfl mJ) rfl ⟨Et D9.u HL.u _ (lK (yw HL.u) D9.u.s.2) TV.u HN9.u SS.u rfl (Dz HM.u kz) (Yd.u.trans HQ.u) HSS.u,nN (cH.u.trans D9.u.x) (lI _) _ _ _ _ _⟩):P:=h
theorem ll (s:ByteArray) (hs:s.size<=1048576) (w:World) (hw:PW w):Calls prog 10 #[.string s] w fun e w'=>FE s w.heap.size e w'/\Ext w w':=by
 have sY:=hY hw;clear hw;go_enter func10,ntmps10;go_wp2_with fail;refine (gX s 10 10 rfl _ (sY.u.ext xx).max aa).mono ?_;rintro e w1 ⟨b,rfl,kG,aK⟩;have Bl:=tj 10 s;have EN:=oK 10 s;obtain ⟨b',o',hbo,hb,VG⟩:=sS kG Bl;injection hbo with hbo;injection hbo with e1 e2;subst e1 e2;have dv:Hid (au w1 w.heap.size 27 jG):=(au.new w _ _).ext aK;have cH:Hid (Ext w w1):=Ext.trans ((xZ w).alloc _) aK;have HL:=hY dv.u.lt;have HY:Hid (∀w',Ext w1 w'->∀i,i<(cut 10 s).length->w'.cell? (aA b i)=some (.string ((cut 10 s).getD i ⟨#[]⟩))):=fun w' q i hi=>yK
 have HZ:Hid (∀i,((cut 10 s).getD i ⟨#[]⟩).size<=1048576):=fun i=>iB (fun y hy=>oM (kS hy)) i
 obtain ⟨m,hm⟩:=ex ((cut 10 s).length);rw [hm] at HY Bl EN |-;have HM:=hY hm;clear hm VG kG aK hb
 by_cases qe:m<3
 ·have afc:(m:Int)<3:=aa
  have HN:=hY (rU HM.u (.inl qe));clear qe;obtain ⟨⟨a0,a1,a2,a3,a4⟩,z0,z1,z2,z3,z4⟩:=qt dv.u;go_wp2
  exact bJ (v:=.tuple #[.agg jG,.bool false]) (aR rfl _ _ _ _ _ _ _ rfl rfl (dv.u.nM (iI 0) (iI 0) (nS) (nS) (nS)) vQ rfl mJ) rfl ⟨qp rfl HN.u,nN (cH.u) (lI _) _ _ _ _ _⟩
 have afc:¬((m:Int)<3):=aa
 go_wp2;obtain ⟨z,hz⟩:∃z,m=z+1:=⟨m - 1,aa⟩;subst hz;have kz:2<=z:=aa
 have hz3:z<=1048576:=aa
 have hwz:wrap64 (z:Int)=(z:Int):=bk
 obtain ⟨y0,mg⟩:=ex ((cut 10 s).getD 0 ⟨#[]⟩);obtain ⟨yz,Qa⟩:=ex ((cut 10 s).getD z ⟨#[]⟩);have HY0:=hY mg;have HYZ:=hY Qa;have Q0:Hid (y0.size<=1048576):=by unfold Hid;rw [<-mg];exact HZ.u _
 have QZ:Hid (yz.size<=1048576):=by unfold Hid;rw [<-Qa];exact HZ.u _
 have HS:Hid (∀w',Ext w1 w'->w'.cell? (aA b 0)=some (.string y0)/\w'.cell? (aA b z)=some (.string yz)):=fun w' q=>⟨by rw [<-mg];exact HY.u w' q 0 Bl,yx⟩
 clear afc qe mg Qa EN Bl;refine dt (S:=(fun w'=>w'.cell? (aA b 0)=some (.string y0)/\w'.cell? (aA b z)=some (.string yz))) af (HS.u _ (xZ w1).drew) (fun aEQ=>?_);refine tq 0 ?_;refine tq 4 ?_;refine tq 5 ?_;refine tq 1 ?_
 (refine jz (i:=6) (v:=iI (z:Int)) rfl af af af (fun _ _ _ h=>h) (Or.inl ⟨ah,?_⟩) aL ?_;· (intro w hSw;(try dsimp only at hSw);obtain ⟨s0,s7⟩:=hSw;go_simp;first|done|exact lH _ aa))
 (try refine pt ?_)
 (refine jz (i:=7) (v:=.pointer (some ⟨b,z,none⟩)) rfl af af af (fun _ _ _ h=>h) (Or.inl ⟨ah,?_⟩) aL ?_;· (intro w hSw;(try dsimp only at hSw);obtain ⟨s0,s7⟩:=hSw;go_simp;first|done|(intro h;omega)))
 (try refine pt ?_)
 (refine jz (i:=2) (v:=.string y0) rfl af af af (fun _ _ _ h=>h) (Or.inl ⟨ah,?_⟩) aL ?_;· (intro w hSw;(try dsimp only at hSw);obtain ⟨s0,s7⟩:=hSw;go_simp;first|done|rfl))
 (try refine pt ?_)
 (refine jz (i:=8) (v:=.string yz) rfl af af af (fun _ _ _ h=>h) (Or.inl ⟨ah,?_⟩) aL ?_;· (intro w hSw;(try dsimp only at hSw);obtain ⟨s0,s7⟩:=hSw;go_simp;first|done|rfl))
 (try refine pt ?_)
 refine o2 3 11 (fun K hK=>?pC) fun K hK=>?pA
 case' pA=>
  go_simp;have BG:Hid (au (w1.alloc (cO jG 27)).drew w1.heap.size 27 jG):=au.new w1 _ _;have EG:Hid (Ext w1 (w1.alloc (cO jG 27)).drew):=((xZ w1).alloc _).drew;have SG:Hid ((w1.alloc (cO jG 27)).drew.heap.size=w1.heap.size+1):=yC
  have SL:Hid (w1.heap.size<=w1.heap.size):=lI _;refine hK.out _ _ (HS.u _ (EG.u)) (fun aEQ=>?_);clear hK K aEQ;have aEQ:=HS.u _ (EG.u)
  (try refine pt ?_)
  generalize (w1.alloc (cO jG 27)).drew=WG at*
  obtain ⟨g,Ql⟩:=ex (w1.heap.size);rw [Ql] at BG SG;have HGG:=hY Ql;replace SL:Hid (w1.heap.size<=g):=CK Ql;rw [Ql];clear Ql;refine o1 3 fun K hK=>?_
  go_simp;refine (eD y0 ⟨#[111,110]⟩ (lK Q0.u ae) _ (sY.u.ext (cH.u.trans (EG.u)))).mono ?_;rintro e wa ⟨⟨v3,st,rfl,ie,eO⟩,bO⟩;obtain ⟨A2,c2,rfl,-⟩:=ak ie;obtain ⟨n2,Hj⟩:=ex (st.length);have TV:=hY Hj;rw [Hj] at ie |-;have mf:=hY ie;have DN:=hY eO;have fD:=hY bO;clear Hj ie eO bO;refine hK.out _ _ (HS.u _ (EG.u.trans fD.u)) (fun aEQ=>?_);clear hK K aEQ;have aEQ:=HS.u _ (EG.u.trans fD.u)
  (try refine pt ?_)
  refine o1 9 fun K hK=>?_
  go_simp;refine (eD yz ⟨#[97,116]⟩ (lK QZ.u ae) _ (sY.u.ext (cH.u.trans ((EG.u.trans fD.u))))).mono ?_;rintro e wb ⟨⟨v9,fin,rfl,kM,Tb⟩,nj⟩;obtain ⟨A3,c3,rfl,-⟩:=ak kM;obtain ⟨n3,KF⟩:=ex (fin.length);have HN9:=hY KF;rw [KF] at kM |-;have iD:=hY kM;have HQ9:=hY Tb;have fP:=hY nj;clear KF kM Tb nj;refine hK.out _ _ (HS.u _ ((EG.u.trans fD.u).trans fP.u)) (fun aEQ=>?_);clear hK K aEQ;have aEQ:=HS.u _ ((EG.u.trans fD.u).trans fP.u)
  (try refine pt ?_)
  have BZ:Hid (au wb g 27 jG):=BG.u.ext (fD.u.trans fP.u);obtain ⟨b0,eT⟩:=ey (WG.heap.size);obtain ⟨b1,ky⟩:=ey (wa.heap.size);obtain ⟨B,YZ⟩:=ey (wb.heap.size);have hsa:=fD.u.size;have ZN:=fP.u.size;have hsg:=SG.u;have JV:=SL.u;have R2:wb.ownsRow b0 3 1 (.slice A2 n2 c2) st.length (aD st):=by rw [eT,TV.u];exact aj mf.u fP.u
  have R3:wb.ownsRow b1 3 1 (.slice A3 n3 c3) fin.length (aD fin):=mK
  have L2:∀k,(Value.slice A2 n2 c2).ownBlock=some k->k<b1/\k≠g:=fun k hk=>oM (mf.u.lt k hk)
  have L3:∀k,(Value.slice A3 n3 c3).ownBlock=some k->k<B/\k≠g:=fun k hk=>oM (iD.u.lt k hk)
  have S1:w1.heap.size<=g/\w1.heap.size<=b0:=⟨aa,aa⟩;have Z1:b0<=b1/\b1<=B/\g<B/\B<=wb.heap.size:=⟨aa,aa,aa,aa⟩;clear eT ky YZ hsa ZN hsg JV;refine tq 10 ?_;refine o1 12 fun K hK=>?_
  obtain ⟨⟨i0,i1,i2,i3,i4⟩,j0,j1,j2,j3,j4⟩:=qt BZ.u;have D0:=hY (DQ.start BZ.u R2 L2 R3 L3 ((EG.u.trans fD.u).trans fP.u) S1 Z1);go_simp;refine hK.out _ _ (HS.u _ D0.u.x) (fun aEQ=>?_);clear hK K aEQ i0 i1 i2 i3 i4 j0 j1 j2 j3 j4
  (try refine pt ?_)
  refine dn ?_;unfold nM at D0;generalize ((((wb.setCell (aA g 0) (iI 0)).setCell (aA g 1) (iI 0)).setCell (aA g 2) (nS)).setCell (aA g 3) (.slice A2 n2 c2)).setCell (aA g 4) (.slice A3 n3 c3)=WR at*
  clear BZ;clear BG EG SG SL mf iD fD fP R2 R3 L2 L3
 case' pC=>
  go_simp;refine (eD y0 ⟨#[111,110]⟩ (lK Q0.u ae) _ (sY.u.ext (cH.u.trans ((xZ w1).drew)))).mono ?_;rintro e wa ⟨⟨v3,st,rfl,ie,eO⟩,bO⟩;obtain ⟨A2,c2,rfl,-⟩:=ak ie;obtain ⟨n2,Hj⟩:=ex (st.length);have TV:=hY Hj;rw [Hj] at ie |-;have mf:=hY ie;have DN:=hY eO;have fD:=hY bO;clear Hj ie eO bO;have EA:=hY (Ext.trans (xZ w1).drew fD.u);refine hK.out _ _ (HS.u _ (EA.u)) (fun aEQ=>?_);clear hK K aEQ;have aEQ:=HS.u _ (EA.u)
  (try refine pt ?_)
  refine o2 9 11 (fun K hK=>?pC2) fun K hK=>?pA2
 case' pA2=>
  go_simp;have BG:Hid (au (wa.alloc (cO jG 27)) wa.heap.size 27 jG):=au.new _ _ _;have EG:Hid (Ext w1 (wa.alloc (cO jG 27))):=Ext.alloc (EA.u) _;have SG:Hid ((wa.alloc (cO jG 27)).heap.size=wa.heap.size+1):=mL
  have SL:=hY ((EA.u).size);refine hK.out _ _ (HS.u _ (EG.u)) (fun aEQ=>?_);clear hK K aEQ;have aEQ:=HS.u _ (EG.u)
  (try refine pt ?_)
  have SLA:Hid (wa.heap.size<=wa.heap.size):=lI _;have EWG:Hid (Ext wa (wa.alloc (cO jG 27))):=(xZ _).alloc _;have KG:Hid (∀k,(Value.slice A2 n2 c2).ownBlock=some k->k<wa.heap.size):=fun k hk=>(mf.u.lt k hk).2
  generalize wa.alloc (cO jG 27)=WG at*
  generalize wa.heap.size=g at*
  refine o1 9 fun K hK=>?_
  go_simp;refine (eD yz ⟨#[97,116]⟩ (lK QZ.u ae) _ (sY.u.ext (cH.u.trans (EG.u)))).mono ?_;rintro e wb ⟨⟨v9,fin,rfl,kM,Tb⟩,nj⟩;obtain ⟨A3,c3,rfl,-⟩:=ak kM;obtain ⟨n3,KF⟩:=ex (fin.length);have HN9:=hY KF;rw [KF] at kM |-;have iD:=hY kM;have HQ9:=hY Tb;have fP:=hY nj;clear KF kM Tb nj;refine hK.out _ _ (HS.u _ (EG.u.trans fP.u)) (fun aEQ=>?_);clear hK K aEQ;have aEQ:=HS.u _ (EG.u.trans fP.u)
  (try refine pt ?_)
  have BZ:Hid (au wb g 27 jG):=BG.u.ext fP.u;obtain ⟨b0,eT⟩:=ey (w1.drew.heap.size);obtain ⟨b1,ky⟩:=ey (WG.heap.size);obtain ⟨B,YZ⟩:=ey (wb.heap.size);have ZN:=fP.u.size;have hsg:=SG.u;have JV:=SL.u;have hd:w1.drew.heap.size=w1.heap.size:=rfl;have R2:wb.ownsRow b0 3 1 (.slice A2 n2 c2) st.length (aD st):=yD
  have R3:wb.ownsRow b1 3 1 (.slice A3 n3 c3) fin.length (aD fin):=mK
  have L2:∀k,(Value.slice A2 n2 c2).ownBlock=some k->k<b1/\k≠g:=fun k hk=>oM (KG.u k hk)
  have L3:∀k,(Value.slice A3 n3 c3).ownBlock=some k->k<B/\k≠g:=fun k hk=>oM (iD.u.lt k hk)
  have S1:w1.heap.size<=g/\w1.heap.size<=b0:=⟨aa,aa⟩;have Z1:b0<=b1/\b1<=B/\g<B/\B<=wb.heap.size:=⟨aa,aa,aa,aa⟩;clear eT ky YZ ZN hsg JV hd;refine tq 10 ?_;refine o1 12 fun K hK=>?_
  obtain ⟨⟨i0,i1,i2,i3,i4⟩,j0,j1,j2,j3,j4⟩:=qt BZ.u;have D0:=hY (DQ.start BZ.u R2 L2 R3 L3 (EG.u.trans fP.u) S1 Z1);go_simp;refine hK.out _ _ (HS.u _ D0.u.x) (fun aEQ=>?_);clear hK K aEQ i0 i1 i2 i3 i4 j0 j1 j2 j3 j4
  (try refine pt ?_)
  refine dn ?_;unfold nM at D0;generalize ((((wb.setCell (aA g 0) (iI 0)).setCell (aA g 1) (iI 0)).setCell (aA g 2) (nS)).setCell (aA g 3) (.slice A2 n2 c2)).setCell (aA g 4) (.slice A3 n3 c3)=WR at*
  clear BZ;clear BG EG SG SL mf iD fD fP R2 R3 L2 L3 KG EWG EA SLA
 case' pC2=>
  go_simp;refine (eD yz ⟨#[97,116]⟩ (lK QZ.u ae) _ (sY.u.ext (cH.u.trans (EA.u)))).mono ?_;rintro e wb ⟨⟨v9,fin,rfl,kM,Tb⟩,nj⟩;obtain ⟨A3,c3,rfl,-⟩:=ak kM;obtain ⟨n3,KF⟩:=ex (fin.length);have HN9:=hY KF;rw [KF] at kM |-;have iD:=hY kM;have HQ9:=hY Tb;have fP:=hY nj;clear KF kM Tb nj;have EB:=hY (EA.u.trans fP.u);refine hK.out _ _ (HS.u _ (EB.u)) (fun aEQ=>?_);clear hK K aEQ;have aEQ:=HS.u _ (EB.u)
  (try refine pt ?_)
  refine tq 10 ?_;refine o1 11 fun K hK=>?_
  go_simp;have BG:Hid (au (wb.alloc (cO jG 27)) wb.heap.size 27 jG):=au.new _ _ _;have EG:Hid (Ext w1 (wb.alloc (cO jG 27))):=Ext.alloc (EB.u) _;have SG:Hid ((wb.alloc (cO jG 27)).heap.size=wb.heap.size+1):=mL
  have SL:=hY ((EB.u).size);refine hK.out _ _ (HS.u _ (EG.u)) (fun aEQ=>?_);clear hK K aEQ;have aEQ:=HS.u _ (EG.u)
  (try refine pt ?_)
  have EWG:Hid (Ext wb (wb.alloc (cO jG 27))):=(xZ _).alloc _;have afd:Hid (∀k,(Value.slice A3 n3 c3).ownBlock=some k->k<wb.heap.size):=fun k hk=>(iD.u.lt k hk).2
  have KG:Hid (∀k,(Value.slice A2 n2 c2).ownBlock=some k->k<wa.heap.size):=fun k hk=>(mf.u.lt k hk).2
  have WAB:=hY fP.u.size;generalize wb.alloc (cO jG 27)=WG at*
  generalize wb.heap.size=g at*
  have BZ:Hid (au WG g 27 jG):=BG.u;obtain ⟨b0,eT⟩:=ey (w1.drew.heap.size);obtain ⟨b1,ky⟩:=ey (wa.heap.size);obtain ⟨B,YZ⟩:=ey (WG.heap.size);have hsg:=SG.u;have JV:=SL.u;have Ec:=WAB.u;have US:=EA.u.size;have hd:w1.drew.heap.size=w1.heap.size:=rfl;have R2:WG.ownsRow b0 3 1 (.slice A2 n2 c2) st.length (aD st):=yE
  have R3:WG.ownsRow b1 3 1 (.slice A3 n3 c3) fin.length (aD fin):=by rw [ky,HN9.u];exact aj iD.u EWG.u
  have L2:∀k,(Value.slice A2 n2 c2).ownBlock=some k->k<b1/\k≠g:=fun k hk=>oM (KG.u k hk)
  have L3:∀k,(Value.slice A3 n3 c3).ownBlock=some k->k<B/\k≠g:=fun k hk=>oM (afd.u k hk)
  have S1:w1.heap.size<=g/\w1.heap.size<=b0:=⟨aa,aa⟩;have Z1:b0<=b1/\b1<=B/\g<B/\B<=WG.heap.size:=⟨aa,aa,aa,aa⟩;clear eT ky YZ Ec US hsg JV hd;refine o1 12 fun K hK=>?_
  obtain ⟨⟨i0,i1,i2,i3,i4⟩,j0,j1,j2,j3,j4⟩:=qt BZ.u;have D0:=hY (DQ.start BZ.u R2 L2 R3 L3 EG.u S1 Z1);go_simp;refine hK.out _ _ (HS.u _ D0.u.x) (fun aEQ=>?_);clear hK K aEQ i0 i1 i2 i3 i4 j0 j1 j2 j3 j4
  (try refine pt ?_)
  refine dn ?_;unfold nM at D0;generalize ((((WG.setCell (aA g 0) (iI 0)).setCell (aA g 1) (iI 0)).setCell (aA g 2) (nS)).setCell (aA g 3) (.slice A2 n2 c2)).setCell (aA g 4) (.slice A3 n3 c3)=WR at*
  clear BZ;clear BG EG SG SL mf iD fD fP R2 R3 L2 L3 KG afd EWG EA EB WAB
 all_goals
  iterate 9 (try clear aEQ)
  clear S1 Z1 hwz;have d3:=D0.u.b.ck 3;have c0:=D0.u.b.ck 0;have f0:=D0.u.b.frozen 0;have awC:n2<=1048576:=by rw [<-TV.u];exact lK DN.u.1 Q0.u
  go_upto_region 7 with fail;clear c0 f0 d3;have D1:Hid (DQ w1 (WR.setCell (aA g 0) (iI (n2:Int))) g b0 b1 B (n2:Int) 0 none 0 0 (.slice A2 n2 c2) st (.slice A3 n3 c3) fin []):=D0.u.abW _;clear D0;generalize WR.setCell (aA g 0) (iI (n2:Int))=W1 at*
  obtain ⟨y1,dw⟩:=ex ((cut 10 s).getD 1 ⟨#[]⟩);have HY1:=hY dw;have Q1:Hid (y1.size<=1500000):=yF
  have r1:W1.cell? (aA b 1)=some (.string y1):=yG
  clear dw;have iV:(1:Int)<(z:Int)+1:=aa
  go_wp2_with fail;refine (eD y1 ⟨#[98,105,116,115]⟩ Q1.u _ (sY.u.ext (cH.u.trans D1.u.x))).mono ?_;rintro e w5 ⟨⟨v5,l5,rfl,kg,hq5⟩,cI⟩;obtain ⟨A5,c5,rfl,DX⟩:=ak kg;have D2:=hY (D1.u.ext cI);have HQ5:=hY hq5;clear hq5 cI D1 r1;have HBL:Hid (∀q:Int,0<=q->q<=4->(cut 10 s).getD 1 ⟨#[]⟩=ew ⟨#[98,105,116,115]⟩ [q]->l5=[q]):=by
   intro q q0 q4 he;rw [HY1.u] at he
   exact HQ5.u.2 [q] ae (fun x hx=>yH) he
  by_cases h51:l5.length=1
  ·obtain ⟨bits,rfl⟩:∃bits,l5=[bits]:=by
    cases l5 with
    |nil=>cases h51
    |cons a r=>
     cases r with
     |nil=>exact ⟨a,rfl⟩
     |cons _ _=>simp at h51
   obtain ⟨b5,o5,bt,rfl,NZ,cf,r5⟩:=du DX (i:=0) ag;obtain rfl:bits=bt:=kx cf;rw [oh] at r5;have HBT:Hid (∀q:Int,0<=q->q<=4->(cut 10 s).getD 1 ⟨#[]⟩=ew ⟨#[98,105,116,115]⟩ [q]->bits=q):=fun q q0 q4 he=>by have:=HBL.u q q0 q4 he;simpa using this
   have c0:=D2.u.b.ck 1;have f0:=D2.u.b.frozen 1;clear DX kg cf h51 HBL;go_upto_region 10 with fail;clear c0 f0 r5;have D4:Hid (DQ w1 (w5.setCell (aA g 1) (iI bits)) g b0 b1 B (n2:Int) bits none 0 0 (.slice A2 n2 c2) st (.slice A3 n3 c3) fin []):=D2.u.arp _;clear D2;generalize w5.setCell (aA g 1) (iI bits)=W6 at*
   exact KE
  ·have h5b:((l5.length:Int)==1)=false:=ai
   obtain ⟨bits,ajQ⟩:∃bits:Int,bits=0:=⟨_,rfl⟩;have HBT:Hid (∀q:Int,0<=q->q<=4->(cut 10 s).getD 1 ⟨#[]⟩=ew ⟨#[98,105,116,115]⟩ [q]->bits=q):=fun q q0 q4 he=>by have:=HBL.u q q0 q4 he;rw [this] at h51;exact absurd rfl h51
   obtain ⟨n5,hn5⟩:=ex (l5.length);rw [hn5] at h5b |-;clear DX kg h51 HBL hn5;rw [<-ajQ] at D2;clear ajQ;go_upto_region 10 with fail;clear h5b;have D4:=D2;clear D2;obtain ⟨W6,hW6⟩:=ex (w5);rw [hW6] at D4 |-;clear hW6
   exact KE
end Go.Proofs.YtodhjgngkkcjgaaGreatDoor
