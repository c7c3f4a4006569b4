import Derived.Test.YtodhjgngkkcjgaaGreatDoorXy
import Derived.Test.YtodhjgngkkcjgaaGreatDoorXw
namespace Go.Proofs.YtodhjgngkkcjgaaGreatDoor
open Go.ChangeShapes Go.WideShapes Go.ChangeAt Go.RowKit Go.Deep Go.Proofs.Tryz
set_option linter.unusedVariables false
set_option linter.unusedSimpArgs false
set_option maxRecDepth 100000
set_option maxHeartbeats 16000000
def qj (w:World) (g bE:Nat) (P:Int->Prop) (e:Ending) (w':World):Prop:=
 ∃(N:Int) (A:OA) (len cap:Nat) (es:List Ed),e=.returned (.agg #[.int .i64 N,.slice A len cap])/\P N/\len<=bE/\w'.ownsRow w.heap.size 130 2 (.slice A len cap) len (bK es)/\dQ w' g/\w.grownBy w' (some g)/\∀e∈es,e.ok
def PF (w:World) (b n:Nat) (xs:List Int):Prop:=∃cur,au w b 3 cur/\∀j,j<n->(cur[j]?=some (.int .i64 (xs.getD j 0))/\po (xs.getD j 0))
section
variable {w w':World} {b n B size m:Nat} {v:Value} {xs:List Int} {ys:List Value}
theorem PF.lt (h:PF w b n xs):b<w.heap.size:=by obtain ⟨_,hc,_⟩:=h;exact hc.lt
theorem PF.cell (h:PF w b n xs) {j:Nat} (hj:j<n):w.cell? (aA b j)=some (.int .i64 (xs.getD j 0)):=by
 obtain ⟨_,hc,hx⟩:=h
 exact (hc.cell j).trans (hx j hj).1
theorem PF.rng (h:PF w b n xs) {j:Nat} (hj:j<n):po (xs.getD j 0):=by
 obtain ⟨_,_,hx⟩:=h
 exact (hx j hj).2
theorem PF.alloc (h:PF w b n xs) (o:Obj):PF (w.alloc o) b n xs:=by obtain ⟨_,hc,hx⟩:=h;exact ⟨_,hc.alloc o,hx⟩
theorem PF.cB (h:PF w b n xs) {p:Addr} (hp:b≠p.block) (u:Value):PF (w.setCell p u) b n xs:=by obtain ⟨_,hc,hx⟩:=h;exact ⟨_,hc.cB hp u,hx⟩
theorem PF.grown {row:Option Nat} (h:PF w b n xs) (hg:w.grownBy w' row) (hr:∀k,row=some k->b≠k):PF w' b n xs:=by obtain ⟨_,hc,hx⟩:=h;exact ⟨_,hc.grown hg hr,hx⟩
theorem PF.of {c:Nat} (h:fE w b c n):∃xs,PF w b n xs:=by
 obtain ⟨_,_,cur,hc,_,xs,_,hr,hx⟩:=h
 exact ⟨xs,cur,hc,fun j hj=>⟨hx j hj,hr j⟩⟩
theorem PF.apart (h:PF w b n xs) (ho:w.ownsRow B 130 size v m ys):∀q,v.ownBlock=some q->b≠q:=by
 intro q hq e;subst e;obtain ⟨cur,hc,_⟩:=h;rcases ho.2 with ⟨rfl,_⟩|⟨b',jM,abn,rfl,_,uF,_⟩
 ·cases hq
 ·injection hq with hq;subst hq;rw [hc] at uF;injection uF with uF;injection uF with _ uF
  exact absurd uF ae
end
theorem DG.at {w0 w:World} {g s:Nat} {N:Int} {A:OA} {len cap:Nat} {gs:List Ed} (h:DG w0 w g s N A len cap gs):gs.length=len/\fB w w.heap.size (.agg #[.int .i64 N,.slice A len cap]) ⟨N,gs⟩:=by
 have hr:=Rd.own h.2.2.1;have hl:=Rd.len (f:=Ed.cells) (fun _=>eX) aa hr;subst hl
 exact ⟨rfl,A,cap,rfl,hr⟩
theorem qj.mk {w w':World} {g bE:Nat} {P:Int->Prop} (N:Int) (A:OA) (len cap:Nat) (es:List Ed) (h1:P N) (h2:len<=bE) (h3:w'.ownsRow w.heap.size 130 2 (.slice A len cap) len (bK es)/\dQ w' g/\w.grownBy w' (some g)/\∀e∈es,e.ok):qj w g bE P (.returned (.agg #[.int .i64 N,.slice A len cap])) w':=
 ⟨N,A,len,cap,es,rfl,h1,h2,h3⟩
def GL (w0 w:World) (g s:Nat) (N:Int) (A:OA) (len cap:Nat) (es:List Ed) (b n:Nat) (xs:List Int):Prop:=DG w0 w g s N A len cap es/\PF w b n xs/\s<b
section
variable {w0 w w':World} {g s:Nat} {N:Int} {A:OA} {len cap b n:Nat} {es:List Ed} {xs:List Int}
theorem GL.cur (h:GL w0 w g s N A len cap es b n xs):dQ w g:=h.1.2.2.2.2.1
theorem GL.lt (h:GL w0 w g s N A len cap es b n xs):b<w.heap.size:=h.2.1.lt
theorem GL.cell (h:GL w0 w g s N A len cap es b n xs):∀j,j<n->w.cell? (aA b j)=some (.int .i64 (xs.getD j 0)):=fun _ hj=>h.2.1.cell hj
theorem GL.drew (h:GL w0 w g s N A len cap es b n xs):GL w0 w.drew g s N A len cap es b n xs:=⟨h.1.drew,h.2.1,h.2.2⟩
theorem GL.alloc (h:GL w0 w g s N A len cap es b n xs) (o:Obj):GL w0 (w.alloc o) g s N A len cap es b n xs:=⟨h.1.alloc o,h.2.1.alloc o,h.2.2⟩
theorem GL.grown (h:GL w0 w g s N A len cap es b n xs) (hg:w.grownBy w' (some g)) (hC:dQ w' g) (hs:g<s) (hl:g<w0.heap.size):GL w0 w' g s N A len cap es b n xs:=
 ⟨h.1.grown hg hC hs hl,h.2.1.grown hg (fun k hk=>by injection hk;have:=h.2.2;omega),h.2.2⟩
theorem GL.cB (h:GL w0 w g s N A len cap es b n xs) {t j:Nat} (u:Value) (ht:b<t) (hw:w0.heap.size<t) (hl:g<w0.heap.size) (hq:∀q,(Value.slice A len cap).ownBlock=some q->q≠t):GL w0 (w.setCell ⟨t,j,none⟩ u) g s N A len cap es b n xs:=by
 obtain ⟨⟨h1,h2,h3,h4,h5,h6,h9⟩,h7,h8⟩:=h;refine ⟨⟨h1.cB (p:=(aA t j)) ai _,h2.cB (p:=(aA t j)) ai _,?_,h4,h5.aU (p:=(aA t j)) ai _,gF h6 (p:=(aA t j)) ai _,h9⟩,h7.cB (p:=(aA t j)) ai _,h8⟩;refine h3.kept (row:=some t) (cF (kO w (some t)) j _) ?_
 cases hv:(Value.slice A len cap).ownBlock with
 |none=>exact .inl rfl
 |some q=>exact .inr (fun e=>hq q hv dB)
theorem GL.app {A':OA} {c':Nat} {y:Ed} (h:GL w0 w g s N A len cap es b n xs) (hy:y.ok) (hs:w0.heap.size<s) (hl:g<w0.heap.size)
  (ho:w'.ownsRow (w0.heap.size+1) 130 2 (.slice A' (len+1) c') (len+1) (bK (es++[y]))) (hg:w.grownBy w' (Value.slice A len cap).ownBlock)
  (hb:(Value.slice A' (len+1) c').ownBlock=(Value.slice A len cap).ownBlock\/(Value.slice A' (len+1) c').ownBlock=some (w.heap.size+1)):
  au w' s 63 #[.int .i64 N,.slice A len cap]/\GL w0 (w'.setCell ⟨s,1,none⟩ (.slice A' (len+1) c')) g s N A' (len+1) c' (es++[y]) b n xs:=by
 obtain ⟨h1,h2⟩:=h.1.app hy hs hl ho hg hb
 exact ⟨h1,h2,(h.2.1.grown hg (fun k hk=>h.2.1.apart h.1.2.2.1 k hk)).cB (p:=(aA s 1)) (by have:=h.2.2;simp;omega) _,h.2.2⟩
def GE (w0 w:World) (g s:Nat) (N:Int) (A:OA) (len cap:Nat) (es:List Ed) (b n:Nat) (xs:List Int) (t:Nat) (y z:Int):Prop:=
 GL w0 w g s N A len cap es b n xs/\au w t 130 #[.int .i64 y,.int .i64 z]/\b<t/\w0.heap.size<t/\(∀q,(Value.slice A len cap).ownBlock=some q->q≠t)/\Ed.ok ⟨y,z⟩
theorem Ed.ok.sw {a b:Int} (h:Ed.ok ⟨a,b⟩):Ed.ok ⟨b,a⟩:=⟨h.2,h.1⟩
theorem GE.grown {t:Nat} {y z:Int} (h:GE w0 w g s N A len cap es b n xs t y z) (hg:w.grownBy w' (some g)) (hC:dQ w' g) (hs:g<s) (hl:g<w0.heap.size):GE w0 w' g s N A len cap es b n xs t y z:=
 ⟨h.1.grown hg hC hs hl,h.2.1.grown hg (fun q hq=>by injection hq;have:=h.2.2.1;have:=h.1.2.2;omega),h.2.2⟩
theorem GE.qz {t:Nat} {y z:Int} (h:GE w0 w g s N A len cap es b n xs t y z) (hl:g<w0.heap.size) (u v:Int) (ho:Ed.ok ⟨u,v⟩):GE w0 ((w.setCell ⟨t,0,none⟩ (.int .i64 u)).setCell ⟨t,1,none⟩ (.int .i64 v)) g s N A len cap es b n xs t u v:=
 ⟨(h.1.cB _ h.2.2.1 h.2.2.2.1 hl h.2.2.2.2.1).cB _ h.2.2.1 h.2.2.2.1 hl h.2.2.2.2.1,h.2.1.qz _ _,h.2.2.1,h.2.2.2.1,h.2.2.2.2.1,ho⟩
theorem GE.app {t:Nat} {u v:Int} {A':OA} {c':Nat} {y:Ed} (h:GE w0 w g s N A len cap es b n xs t u v) (hy:y.ok) (hs:w0.heap.size<s) (hl:g<w0.heap.size)
  (ho:w'.ownsRow (w0.heap.size+1) 130 2 (.slice A' (len+1) c') (len+1) (bK (es++[y]))) (hg:w.grownBy w' (Value.slice A len cap).ownBlock)
  (hb:(Value.slice A' (len+1) c').ownBlock=(Value.slice A len cap).ownBlock\/(Value.slice A' (len+1) c').ownBlock=some (w.heap.size+1)):
  au w' s 63 #[.int .i64 N,.slice A len cap]/\GE w0 (w'.setCell ⟨s,1,none⟩ (.slice A' (len+1) c')) g s N A' (len+1) c' (es++[y]) b n xs t u v:=by
 obtain ⟨h1,h2⟩:=h.1.app hy hs hl ho hg hb;have:=h.2.2.1;have:=h.1.2.2;have:=h.2.1.lt;refine ⟨h1,h2,(h.2.1.grown hg (fun k hk e=>h.2.2.2.2.1 k hk e.symm)).cB (p:=(aA s 1)) ai _,h.2.2.1,h.2.2.2.1,(fun q hq=>?_),h.2.2.2.2.2⟩;rcases hb with hb|hb
 ·exact h.2.2.2.2.1 q (hb ▸ hq)
 ·rw [hb] at hq;injection hq;omega
end
theorem JK {P:Prop} (h:P:=by
 obtain ⟨⟨b0,b1⟩,z0,z1⟩:=gg HG4.u.1.2.1;obtain ⟨⟨a0,a1⟩,y0,y1⟩:=gg HG4.u.1.1;go_wp2
 exact bJ (v:=.agg #[.int .i64 k,.slice A len cap]) (Jy rfl HG4.u.1.1 (.int .i64 k) (.slice A len cap) _ rfl) rfl (qj.mk k A len cap es rfl aa (HG4.u.1.done di))):P:=h
theorem oQ (g n:Nat) (hn:1<=n/\n<=4) (w:World) (h:dQ w g):
  Calls prog 101 #[.pointer (some ⟨g,0,none⟩),.int .i64 n] w (qj w g 7 (fun N=>N=(n:Int))):=by
 have di:=h.lt;obtain ⟨jX,zn⟩:=id hn;go_enter func101,ntmps101;go_wp2_with fail;refine (tA g n hn _ ((h.alloc _).alloc _)).mono ?_;rintro e w2 ⟨b,c,rfl,hb,hI2,DV,zo⟩;obtain ⟨xs,hI2⟩:=PF.of hI2;have Qe:=((au.new w 63 #[.int .i64 0,nS]).alloc _).grown zo (fun k hk=>ay);have hB7:=(au.newAt (w:=w.alloc (cO #[.int .i64 0,nS] 63)) (t:=63) (cs:=#[.int .i64 n,nS]) (b:=w.heap.size+1) ag).grown zo (fun k hk=>ay);have jW:w.grownBy w2 (some g):=cJ ((((xZ w).alloc _).alloc _).gr _) zo;have hGL:GL w w2 g (w.heap.size+1) n none 0 0 [] b n xs:=⟨⟨Qe,hB7,⟨ag,.inl ⟨rfl,rfl⟩⟩,(fun q hq=>by cases hq),DV,jW,ag⟩,hI2,by simp at hb;omega⟩;clear Qe hB7 DV jW zo hI2;generalize hs:w.heap.size+1=s at hGL |-;have HS:=hY hs;have CA:w.heap.size<s:=aa
 have fA:g<s:=aa
 clear hs hb;go_wp2
 go_loopw [7] (fun i wr=>∃(k:Nat) (A:OA) (len cap:Nat) (es:List Ed),1<=k/\k<=n/\i=.int .i64 k/\len<=2*(k - 1)/\GL w wr g s n A len cap es b n xs) (fun i _=>n - (intOf i).toNat)
 case atStart=>exact ⟨1,none,0,0,[],lI _,jX,rfl,lJ _,hGL⟩
 case round=>
  clear hGL;obtain ⟨k,A,len,cap,es,et,jJ,rfl,hlen,hGL⟩:=hrel
  by_cases ba:k<n
  ·have lu:(0:Int)<=(k:Int):=aa
   have aB8:(k:Int)<(n:Int):=aa
   have HGL:=hY hGL;clear hGL;go_wp2;refine dt (S:=fun W=>GL w W g s n A len cap es b n xs/\∀j,j<n->W.cell? (aA b j)=some (.int .i64 (xs.getD j 0))) af ⟨HGL.u.drew,HGL.u.drew.cell⟩ (fun aEQ=>?_);refine tq 0 ?_;refine tq 1 ?_;refine tq 2 ?_;refine tq 3 ?_;refine tq 4 ?_;refine tq 5 ?_;refine tq 6 ?_;refine o2 7 11 (fun K hK=>?wA) fun K hK=>?wB
   case' wA=>
    go_simp;refine (aT g k _ aEQ.1.cur aa).mono ?_;rintro e w3 ⟨x,rfl,⟨cD,aK,_⟩,ED,Lm⟩;obtain ⟨j,rfl⟩:=lD cD;have hj:j<n:=cN
    have KZ:(0:Int)<=(j:Int):=aa
    have VU:(j:Int)<(n:Int):=aa
    clear cD aK;have JL:=aEQ.1.grown Lm ED fA di;refine ov hK ⟨JL,JL.cell⟩ fun aEQ=>?_
    refine tq 8 ?_;refine tq 9 ?_;refine tq 10 ?_
    (refine jy (rs:=[11]) af ag ?_;refine iU rfl (fun K hK=>?_) jx;go_simp)
    refine ov hK ⟨aEQ.1.alloc _,(aEQ.1.alloc _).cell⟩ fun aEQ=>?_
    (refine jy (rs:=[12]) af ag ?_;refine iU rfl (fun K hK=>?_) jx;go_simp)
    have hE:=au.newAt (w:=w3) (t:=130) (cs:=#[.int .i64 (xs.getD k 0),.int .i64 (xs.getD j 0)]) (b:=w3.heap.size) rfl;have AQ:=JL.alloc (cO #[.int .i64 (xs.getD k 0),.int .i64 (xs.getD j 0)] 130);refine ov hK ⟨AQ,AQ.cell⟩ fun aEQ=>?_
    refine dn ?_;have hE6:=hE;have wZ:=AQ;have Qs:=JL.lt;have hqt:=fun q hq=>(NY JL.1.2.2.1 (lI _) q hq).2
    have ZN:=JL.2.2;have ht:w.heap.size<w3.heap.size:=aa
    clear hE JL AQ aEQ Lm ED ZN;clear aEQ;have Qa:Ed.ok ⟨xs.getD k 0,xs.getD j 0⟩:=⟨wZ.2.1.rng ba,wZ.2.1.rng hj⟩;simp only [lP] at hE6 wZ Qa;generalize xs[k]?.getD 0=y at hE6 wZ Qa |-;generalize xs[j]?.getD 0=z at hE6 wZ Qa |-;generalize hW:w3.alloc _=W at hE6 wZ |-;clear hW;generalize ht':w3.heap.size=t at hE6 hqt Qs ht |-
   case' wB=>
    go_simp;have hE:=au.newAt (w:=wr) (t:=130) (cs:=#[.int .i64 0,.int .i64 0]) (b:=wr.heap.size) rfl;have JL:=(HGL.u.alloc (cO #[.int .i64 0,.int .i64 0] 130)).drew;refine ov hK ⟨JL,JL.cell⟩ fun aEQ=>?_
    (refine jy (rs:=[7]) af ag ?_;refine iU rfl (fun K hK=>?_) jx;go_simp)
    refine (aT g k _ aEQ.1.cur aa).mono ?_;rintro e w3 ⟨x,rfl,⟨cD,aK,_⟩,ED,Lm⟩;obtain ⟨j,rfl⟩:=lD cD;have hj:j<n:=cN
    have KZ:(0:Int)<=(j:Int):=aa
    have VU:(j:Int)<(n:Int):=aa
    clear cD aK;have AQ:=aEQ.1.grown Lm ED fA di;refine ov hK ⟨AQ,AQ.cell⟩ fun aEQ=>?_
    refine tq 8 ?_;refine tq 9 ?_;refine tq 10 ?_;have Qs:=HGL.u.lt;have hqt:=fun q hq=>(NY HGL.u.1.2.2.1 (lI _) q hq).2
    have ZN:=HGL.u.2.2;have hE3:=hE.drew.grown (w':=w3) Lm (fun q hq=>by injection hq;omega);have rV:=hE3.ck 0;have qJ:∀u,(w3.setCell ⟨wr.heap.size,0,none⟩ u).cell? (aA wr.z 1)=some (.int .i64 0):=fun u=>(hE3.aU 0 u).cell 1
    have KX:=hE3.frozen 0;have WZ:∀u,(w3.setCell ⟨wr.heap.size,0,none⟩ u).frozen? (aA wr.z 1)=false:=fun u=>(hE3.aU 0 u).frozen 1
    (refine jy (rs:=[12]) af ag ?_;refine iU rfl (fun K hK=>?_) jx;go_simp)
    have wZ:=(AQ.cB (t:=wr.heap.size) (j:=0) (.int .i64 (xs.getD k 0)) Qs aa di hqt).cB (t:=wr.heap.size) (j:=1) (.int .i64 (xs.getD j 0)) Qs aa di hqt;refine ov hK ⟨wZ,wZ.cell⟩ fun aEQ=>?_
    refine dn ?_;have hE6:=hE3.qz (.int .i64 (xs.getD k 0)) (.int .i64 (xs.getD j 0));have ht:w.heap.size<wr.heap.size:=aa
    clear hE JL AQ hE3 rV qJ KX WZ aEQ Lm ED ZN;clear aEQ;have Qa:Ed.ok ⟨xs.getD k 0,xs.getD j 0⟩:=⟨wZ.2.1.rng ba,wZ.2.1.rng hj⟩;simp only [lP] at hE6 wZ Qa;generalize xs[k]?.getD 0=y at hE6 wZ Qa |-;generalize xs[j]?.getD 0=z at hE6 wZ Qa |-;generalize hW:(w3.setCell _ _).setCell _ _=W at hE6 wZ |-;clear hW;generalize ht':wr.heap.size=t at hE6 hqt Qs ht |-
   all_goals
    clear ht';have hGE:GE w W g s n A len cap es b n xs t y z:=⟨wZ,hE6,Qs,ht,hqt,Qa⟩;clear wZ hE6 Qs ht hqt Qa;go_wp2_with fail;refine (gU g 2 W hGE.1.cur aa).mono ?_;rintro e w4 ⟨f1,rfl,uW,zp⟩;have EP:=hGE.grown zp uW fA di;clear hGE zp uW W HGL;have hs4:=EP.1.1.2.1.lt;have ht4:=EP.2.1.lt
    cases f1
    case' false=>
     have HG:=hY EP;obtain ⟨⟨b0,b1⟩,z0,z1⟩:=gg EP.1.1.2.1;obtain ⟨⟨a0,a1⟩,y0,y1⟩:=gg EP.2.1;clear EP;go_wp2_with (at_builtin;refine adP (B:=w.heap.size+1) rfl _ _ rfl _ len _ rfl HG.u.1.1.2.2.1 aa ⟨_,_⟩ _ _ rfl rfl aa ?_;intro A7 c7 w7 ho hg hb;have HA:=hY (HG.u.app HG.u.2.2.2.2.2 CA di ho hg hb);have k6:w7.cell? (aA s 1)=some (.slice A len cap):=HA.u.1.cell 1;have f6:w7.frozen? (aA s 1)=false:=HA.u.1.frozen 1;clear ho hg hb)
    case' true=>
     have HG:=hY (EP.qz di z y EP.2.2.2.2.2.sw);obtain ⟨⟨b0,b1⟩,z0,z1⟩:=gg HG.u.1.1.2.1;obtain ⟨⟨a0,a1⟩,y0,y1⟩:=gg EP.2.1;obtain ⟨⟨c0,c1⟩,x0,x1⟩:=gg HG.u.2.1;have Zv:=HG.u.1.1.2.1.lt;have y2:∀u,(w4.setCell ⟨t,0,none⟩ u).cell? (aA t 1)=some (.int .i64 z):=fun u=>(EP.2.1.aU 0 u).cell 1
     have y3:∀u,(w4.setCell ⟨t,0,none⟩ u).frozen? (aA t 1)=false:=fun u=>(EP.2.1.aU 0 u).frozen 1
     clear EP;go_wp2_with (at_builtin;go_loud (refine adP (B:=w.heap.size+1) rfl _ _ rfl _ len _ rfl HG.u.1.1.2.2.1 aa ⟨_,_⟩ _ _ ah ag aa ?_;intro A7 c7 w7 ho hg hb;have HA:=hY (HG.u.app HG.u.2.2.2.2.2 CA di ho hg hb);have k6:w7.cell? (aA s 1)=some (.slice A len cap):=HA.u.1.cell 1;have f6:w7.frozen? (aA s 1)=false:=HA.u.1.frozen 1;clear ho hg hb))
     clear x0 x1 c0 c1 Zv y2 y3
    all_goals
     clear b0 b1 z0 z1 a0 a1 y0 y1;clear k6 f6;refine (gU g 4 _ HA.u.2.1.cur aa).mono ?_;rintro e w8 ⟨f2,rfl,hC8,hG8⟩;have Sl:=HA.u.2.grown hG8 hC8 fA di;clear HA HG hC8 hG8;have hs8:=Sl.1.1.2.1.lt;have hw8:=Sl.1.1.1.lt
     cases f2
     ·have HG:=hY Sl;clear Sl;go_wp2;go_roundw
      case rel=>exact ⟨k+1,_,len+1,_,_,aa,aa,ag,aa,HG.u.1⟩
      case measure=>simp [intOf];omega
     ·have HG:=hY Sl;obtain ⟨⟨b0,b1⟩,z0,z1⟩:=gg Sl.1.1.2.1;obtain ⟨⟨a0,a1⟩,y0,y1⟩:=gg Sl.2.1;clear Sl;go_wp2_with (at_builtin;refine adP (B:=w.heap.size+1) rfl _ _ rfl _ (len+1) _ rfl HG.u.1.1.2.2.1 aa ⟨_,_⟩ _ _ rfl rfl aa ?_;intro A9 c9 w9 ho hg hb;have HA:=hY (HG.u.app HG.u.2.2.2.2.2.sw CA di ho hg hb);have k6:w9.cell? (aA s 1)=some (.slice A7 (len+1) c7):=HA.u.1.cell 1;have f6:w9.frozen? (aA s 1)=false:=HA.u.1.frozen 1;clear ho hg hb)
      clear b0 b1 z0 z1 a0 a1 y0 y1 k6 f6;go_roundw
      case rel=>exact ⟨k+1,_,len+1+1,_,_,aa,aa,ag,aa,HA.u.2.1⟩
      case measure=>simp [intOf];omega
  ·have jJ:k=n:=aa
   subst jJ;have lu:¬((k:Int)<(k:Int)):=aa
   have hs8:=hGL.1.2.1.lt;have hw8:=hGL.1.1.lt;have HG:=hY hGL;clear hGL
   by_cases h2:k<=2
   ·have h2':¬((2:Int)<(k:Int)):=aa
    obtain ⟨⟨b0,b1⟩,z0,z1⟩:=gg HG.u.1.2.1;obtain ⟨⟨a0,a1⟩,y0,y1⟩:=gg HG.u.1.1;go_wp2;refine dt (S:=fun W=>GL w W g s k A len cap es b k xs) af HG.u.drew (fun aEQ=>?_);refine tq 0 ?_
    (refine jz (i:=1) (v:=.bool false) rfl af af af (fun _ _ _ h=>h) (Or.inl ⟨ah,?_⟩) aL ?_;· (intro w hSw;(try dsimp only at hSw);go_simp;first|done|(trace_state;omega)))
    (try refine pt ?_)
    refine tq 2 ?_;refine sk 3 ?_;refine sk 4 ?_;refine tq 5 ?_;refine tq 6 ?_;refine sk 7 ?_;refine sk 8 ?_;refine sk 9 ?_;refine sk 10 ?_;refine sk 11 ?_;refine sk 12 ?_;refine sk 13 ?_;refine sk 14 ?_;refine sk 15 ?_;refine sk 16 ?_;refine sk 17 ?_;refine tq 18 ?_;refine dn ?_;go_wp2
    exact bJ (v:=.agg #[.int .i64 k,.slice A len cap]) (Jy rfl HG.u.1.drew.1 (.int .i64 k) (.slice A len cap) _ rfl) rfl (qj.mk k A len cap es rfl aa (HG.u.1.drew.done di))
   ·have h2':(2:Int)<(k:Int):=aa
    obtain ⟨m,hm⟩:∃m:Nat,(k:Int) - 1=(m:Int):=⟨k - 1,aa⟩;have Oh:(0:Int)<=(m:Int):=aa
    have hmk:(m:Int)<(k:Int):=aa
    have aCa:(0:Int)<(k:Int):=aa
    have hkN:0<k:=aa
    have hmN:m<k:=aa
    obtain ⟨⟨b0,b1⟩,z0,z1⟩:=gg HG.u.1.2.1;obtain ⟨⟨a0,a1⟩,y0,y1⟩:=gg HG.u.1.1;go_wp2;have hS:∀W,GL w W g s k A len cap es b k xs->GL w W g s k A len cap es b k xs/\W.cell? (aA b 0)=some (.int .i64 (xs.getD 0 0))/\W.cell? (aA b m)=some (.int .i64 (xs.getD m 0))/\W.cell? (aA s 0)=some (.int .i64 k)/\W.cell? (aA s 1)=some (.slice A len cap):=fun W h=>⟨h,h.cell 0 aa,h.cell m aa,h.1.2.1.cell 0,h.1.2.1.cell 1⟩
    refine dt (S:=fun W=>GL w W g s k A len cap es b k xs/\W.cell? (aA b 0)=some (.int .i64 (xs.getD 0 0))/\W.cell? (aA b m)=some (.int .i64 (xs.getD m 0))/\W.cell? (aA s 0)=some (.int .i64 k)/\W.cell? (aA s 1)=some (.slice A len cap)) af (hS _ HG.u.drew) (fun aEQ=>?_);refine tq 0 ?_
    (refine jz (i:=1) (v:=.bool true) rfl af af af (fun _ _ _ h=>h) (Or.inl ⟨ah,?_⟩) aL ?_;· (intro w hSw;(try dsimp only at hSw);go_simp;first|done|(trace_state;omega)))
    (try refine pt ?_)
    refine tq 2 ?_;refine tq 3 ?_
    (refine jy (rs:=[4]) af ag ?_;refine iU rfl (fun K hK=>?_) jx;go_simp)
    refine (gU g 3 _ aEQ.1.cur aa).mono ?_;rintro e w4 ⟨f1,rfl,uW,zp⟩;have AQ:=aEQ.1.grown zp uW fA di;refine ov hK (hS _ AQ) fun aEQ=>?_
    clear zp
    cases f1
    ·refine tq 5 ?_;refine tq 6 ?_;refine sk 7 ?_;refine sk 8 ?_;refine sk 9 ?_;refine sk 10 ?_;refine sk 11 ?_;refine sk 12 ?_;refine sk 13 ?_;refine sk 14 ?_;refine sk 15 ?_;refine sk 16 ?_;refine sk 17 ?_;refine tq 18 ?_;refine dn ?_;have HG4:=hY AQ;clear b0 b1 z0 z1 a0 a1 y0 y1 AQ aEQ
     exact JK
    ·refine tq 5 ?_;refine tq 6 ?_;refine tq 7 ?_;refine tq 8 ?_;refine tq 9 ?_;refine tq 10 ?_;refine tq 11 ?_;refine tq 12 ?_
     (refine jz (i:=13) (v:=.int .i64 m) rfl af af af (fun _ _ _ h=>h) (Or.inl ⟨ah,?_⟩) aL ?_;· (intro w hSw;(try dsimp only at hSw);go_simp;first|done|exact lH _ aa))
     (try refine pt ?_)
     refine tq 14 ?_;refine tq 15 ?_
     (refine jy (rs:=[16]) af ag ?_;refine iU rfl (fun K hK=>?_) jx;go_simp)
     refine (dH _ _ _ _ _ aEQ.1.1.at.2 (by have:=aEQ.1.1.at.1;simp;omega)).mono ?_;rintro e w5 ⟨rfl,cI⟩;have Pk:=aEQ.1.grown (cI.gr (some g)) (aEQ.1.cur.ext cI) fA di;generalize (gP _ _ _||gP _ _ _)=cc;refine hK.out _ _ (hS _ Pk) (fun aEQ=>?_);clear hK K cI
     (try refine pt ?_)
     cases cc
     ·refine tq 17 ?_;refine tq 18 ?_;refine dn ?_;have HG5:=hY Pk;have Zv:=Pk.1.2.1.lt;have hw5:=Pk.1.1.lt;obtain ⟨-,p0,pm,k0,k1⟩:=hS _ Pk;clear b0 b1 z0 z1 a0 a1 y0 y1 Pk AQ aEQ hS;obtain ⟨⟨b0,b1⟩,z0,z1⟩:=gg HG5.u.1.2.1;have iy:=hY HG5.u.drew;have hwm:IntKind.i64.wrap (m:Int)=(m:Int):=lH _ aa;go_wp2
      go_region_law (first
       |(refine adO (B:=w.heap.size+1) ah _ _ ah _ len es ah iy.u.1.2.2.1 (oM iy.u.1.1.lt) ⟨_,_⟩ _ _ ah ah aa ?_;intro A6 c6 w6 vD QW hb6;have HA:=hY (iy.u.app (y:=⟨xs.getD 0 0,xs.getD m 0⟩) ⟨iy.u.2.1.rng hkN,iy.u.2.1.rng hmN⟩ CA di vD QW hb6);have k6:w6.cell? (aA s 1)=some (.slice A len cap):=HA.u.1.cell 1;have f6:w6.frozen? (aA s 1)=false:=HA.u.1.frozen 1))
      all_goals
       clear k6 f6 b0 b1 z0 z1 k0 k1;have HD:=hY HA.u.2;obtain ⟨⟨b0,b1⟩,z0,z1⟩:=gg HD.u.1.2.1;obtain ⟨⟨a0,a1⟩,y0,y1⟩:=gg HD.u.1.1;go_wp2
       exact bJ (v:=.agg #[.int .i64 k,.slice A6 (len+1) c6]) (Jy rfl HD.u.1.1 (.int .i64 k) (.slice A6 (len+1) c6) _ rfl) rfl (qj.mk k A6 (len+1) c6 _ rfl aa (HD.u.1.done di))
     ·refine tq 17 ?_;refine tq 18 ?_;refine dn ?_;have HG4:=hY Pk;have hw5:=Pk.1.1.lt;clear b0 b1 z0 z1 a0 a1 y0 y1 Pk AQ aEQ
      exact JK
theorem JM {w:World} {B e size n k c:Nat} {A:OA} {xs:List Value} (h:w.ownsRow B e size (.slice A n c) n xs) (hk:k<=n):w.ownsRow B e size (.slice A k c) k (xs.take (k*size)):=by
 have hks:=Nn size hk;obtain ⟨hl,h⟩:=h;refine ⟨by rw [lT,hl];omega,?_⟩;rcases h with ⟨hv,hn⟩|⟨g,cap,cur,hv,hb,hg,h1,h2,h3,h4⟩
 ·injection hv with e1 e2 e3;subst e1;subst e3
  exact .inl ⟨by rw [show k=0 by omega],aa⟩
 ·injection hv with e1 e2 e3;subst e1;subst e3;refine .inr ⟨g,_,cur,rfl,hb,hg,aa,h2,h3,?_⟩;rw [<-h4,List.take_take,Nat.min_eq_left hks]
theorem Sn (k:Nat) (es:List Ed):bK (es.take k)=(bK es).take (k*2):=by
 induction es generalizing k with
 |nil=>simp [bK]
 |cons y es ih=>
  cases k with
  |zero=>simp [bK]
  |succ k=>
   have:=ih k;simp only [bK] at this |-;simp only [yl,jQ,this,Ed.cells,DI,lN,vS]
theorem ad8 {w:World} {B e size n c:Nat} {A:OA} {xs:List Value} (h:w.ownsRow B e size (.slice A n c) n xs):n<=c:=by
 rcases h.2 with ⟨h0,rfl⟩|⟨g,cap,cur,hv,_,_,LR,_⟩
 ·omega
 ·injection hv with _ _ h3;omega
theorem DG.cut {w0 w:World} {g s:Nat} {N:Int} {A:OA} {len cap:Nat} {gs:List Ed} (h:DG w0 w g s N A len cap gs) {k:Nat} (hk:k<=len) (hs:w0.heap.size<s) (hl:g<w0.heap.size):DG w0 (w.setCell (aA s 1) (.slice A k cap)) g s N A k cap (gs.take k):=by
 obtain ⟨h1,h2,h3,h4,h5,h6,h7⟩:=h;have h3':=JM h3 hk;rw [<-Sn] at h3';have h4':∀q,(Value.slice A k cap).ownBlock=some q->w0.heap.size+1<=q/\q≠s:=by cases A<;>exact h4
 refine ⟨h1.cB (p:=(aA s 1)) ai _,h2.aU 1 _,?_,h4',h5.aU (p:=(aA s 1)) ai _,gF h6 (p:=(aA s 1)) ai _,fun e he=>h7 e (FI he)⟩;refine h3'.kept (row:=some s) (cF (kO w (some s)) 1 _) ?_
 cases hv:(Value.slice A k cap).ownBlock with
 |none=>exact .inl rfl
 |some q=>exact .inr (fun e=>(h4' q hv).2 dB)
theorem So (g:Nat) (w:World) (h:dQ w g):
  Calls prog 79 #[.pointer (some ⟨g,0,none⟩)] w (qj w g 8 (fun N=> -1<=N/\N<=5)):=by
 have di:=h.lt;go_enter func79,ntmps79;go_wp2_with fail;refine (aT g 4 _ (h.alloc _) aa).mono ?_;rintro e w2 ⟨x,rfl,⟨cD,aK,_⟩,DV,zo⟩;obtain ⟨n,rfl⟩:=lD cD;have bz:n<4:=cN
 clear aK cD;go_wp2_with fail;obtain ⟨n1,e1,ky,zC⟩:∃n1:Nat,(1:Int)+(n:Int)=(n1:Int)/\1<=n1/\n1<=4:=⟨n+1,aa,aa,aa⟩;rw [e1];clear e1;refine (oQ g n1 ⟨aa,aa⟩ _ DV).mono ?_;rintro e w3 ⟨N,A,len,cap,gs,rfl,rfl,hlen,ie,ED,Lm,avs⟩;have xQ:=(au.new w 63 jC).grown zo (fun k hk=>ay);have KW:=xQ.grown Lm (fun k hk=>ay);have qw:=xQ.lt;have CQ:=KW.lt;have KS:w.grownBy w3 (some g):=cJ (cJ (((xZ w).alloc _).gr _) zo) Lm;have hD:DG w (w3.alloc (cO #[iI n1,.slice A len cap] 63)) g w3.heap.size n1 A len cap gs:=
  ⟨KW.alloc _,au.new _ _ _,aj (aC ie qw) ((xZ w3).alloc _),NY (aC ie qw) (lI _),ED.alloc _,jY KS _,avs⟩
 clear xQ KW zo Lm KS DV ie;go_wp2_with fail;refine (aT g 8 _ (ED.alloc _) aa).mono ?_;rintro e w4 ⟨x,rfl,⟨cD,aK,_⟩,uW,zp⟩;have bz:=aK aa;clear aK;have fA:g<w3.heap.size:=aa
 have Oj:=hD.grown zp uW fA di;clear hD zp ED;generalize w3.heap.size=s at*
 have hs4:=Oj.2.1.lt;have hw4:=Oj.1.lt;have uU:w.heap.size+1<=w4.heap.size:=aa
 by_cases e0:x=0
 ·subst e0;go_wp2_with fail;refine (dY g _ 5 _ [0,1,4,5, -1] _ (uW.alloc _) (eC w4 _ _ _ 5 1 _ rfl rfl rfl) iu aa).mono ?_;rintro e w5 ⟨z,rfl,hz,kH,hZ⟩;have Ff:=(Oj.alloc _).grown hZ kH fA di;have kz: -1<=z/\z<=5:=fS
  clear hz Oj uW hZ;have hD6:=Ff.abW z aa di;obtain ⟨⟨b0,b1⟩,z0,z1⟩:=gg Ff.2.1;obtain ⟨⟨a0,a1⟩,y0,y1⟩:=gg Ff.1;have HD:=hY hD6;clear hD6 Ff;go_wp2
  exact bJ (v:=.agg #[iI z,.slice A len cap]) (Jy rfl HD.u.1 (iI z) (.slice A len cap) _ rfl) rfl (qj.mk (z) A (len) cap (gs) (kz) aa (HD.u.done di))
 by_cases e1:x=1
 ·subst e1;have wG:=hY Oj;obtain ⟨⟨b0,b1⟩,z0,z1⟩:=gg Oj.2.1;clear Oj;go_wp2;have aEQ:True:=trivial;refine dt (S:=fun _=>True) af trivial (fun aEQ=>?_);refine tq 0 ?_;refine tq 2 ?_;refine tq 5 ?_;refine o2 1 3 (fun K hK=>?wL) fun K hK=>?wC
  case' wL=>
   go_simp;refine hK.out _ _ trivial (fun aEQ=>?_);clear hK K aEQ;have aEQ:True:=trivial
   (try refine pt ?_)
   refine o1 3 fun K hK=>?_
   go_simp;refine (aT g 6 _ wG.u.drew.2.2.2.2.1 aa).mono ?_;rintro e w5 ⟨y,rfl,⟨mg,dw,_⟩,kH,hZ⟩;have iW:=dw aa;clear dw;have iy:=hY (wG.u.drew.grown hZ kH fA di);have k1:=iy.u.2.1.ck 1;have Zv:=iy.u.2.1.lt;clear hZ;refine hK.out _ _ trivial (fun aEQ=>?_);clear hK K aEQ;have aEQ:True:=trivial
   (try refine pt ?_)
   (refine jz (i:=4) (v:=iI (y - 1)) rfl af af af (fun _ _ _ h=>h) (Or.inl ⟨ah,?_⟩) aL ?_;· (intro w hSw;(try dsimp only at hSw);go_simp;first|done|exact lH _ aa))
   (try refine pt ?_)
   refine o1 6 fun K hK=>?_
   go_simp;refine (aT g 5 _ kH aa).mono ?_;rintro e w6 ⟨z,rfl,⟨fH,iV,_⟩,Bj,nR⟩;have kz:=iV aa;clear iV;have zu:=hY (iy.u.grown nR Bj fA di);have m1:=zu.u.2.1.ck 1;have sH:=zu.u.2.1.lt;clear nR;refine hK.out _ _ trivial (fun aEQ=>?_);clear hK K aEQ;have aEQ:True:=trivial
   (try refine pt ?_)
   refine tq 7 ?_;refine o1 8 fun K hK=>?_
   go_simp;refine hK.out _ _ trivial (fun aEQ=>?_);clear hK K aEQ;have aEQ:True:=trivial
   (try refine pt ?_)
  case' wC=>
   go_simp;refine (aT g 6 _ wG.u.drew.2.2.2.2.1 aa).mono ?_;rintro e w5 ⟨y,rfl,⟨mg,dw,_⟩,kH,hZ⟩;have iW:=dw aa;clear dw;have iy:=hY (wG.u.drew.grown hZ kH fA di);have k1:=iy.u.2.1.ck 1;have Zv:=iy.u.2.1.lt;clear hZ;refine hK.out _ _ trivial (fun aEQ=>?_);clear hK K aEQ;have aEQ:True:=trivial
   (try refine pt ?_)
   (refine jz (i:=4) (v:=iI (y - 1)) rfl af af af (fun _ _ _ h=>h) (Or.inl ⟨ah,?_⟩) aL ?_;· (intro w hSw;(try dsimp only at hSw);go_simp;first|done|exact lH _ aa))
   (try refine pt ?_)
   refine o2 1 6 (fun K hK=>?wL2) fun K hK=>?wC2
  case' wL2=>
   go_simp;refine hK.out _ _ trivial (fun aEQ=>?_);clear hK K aEQ;have aEQ:True:=trivial
   (try refine pt ?_)
   refine o1 6 fun K hK=>?_
   go_simp;refine (aT g 5 _ kH aa).mono ?_;rintro e w6 ⟨z,rfl,⟨fH,iV,_⟩,Bj,nR⟩;have kz:=iV aa;clear iV;have zu:=hY (iy.u.grown nR Bj fA di);have m1:=zu.u.2.1.ck 1;have sH:=zu.u.2.1.lt;clear nR;refine hK.out _ _ trivial (fun aEQ=>?_);clear hK K aEQ;have aEQ:True:=trivial
   (try refine pt ?_)
   refine tq 7 ?_;refine o1 8 fun K hK=>?_
   go_simp;refine hK.out _ _ trivial (fun aEQ=>?_);clear hK K aEQ;have aEQ:True:=trivial
   (try refine pt ?_)
  case' wC2=>
   go_simp;refine (aT g 5 _ kH aa).mono ?_;rintro e w6 ⟨z,rfl,⟨fH,iV,_⟩,Bj,nR⟩;have kz:=iV aa;clear iV;have zu:=hY (iy.u.grown nR Bj fA di);have m1:=zu.u.2.1.ck 1;have sH:=zu.u.2.1.lt;clear nR;refine hK.out _ _ trivial (fun aEQ=>?_);clear hK K aEQ;have aEQ:True:=trivial
   (try refine pt ?_)
   refine tq 7 ?_;refine o2 1 8 (fun K hK=>?wL3) fun K hK=>?wC3
  case' wL3=>
   go_simp;refine hK.out _ _ trivial (fun aEQ=>?_);clear hK K aEQ;have aEQ:True:=trivial
   (try refine pt ?_)
   refine o1 8 fun K hK=>?_
   go_simp;refine hK.out _ _ trivial (fun aEQ=>?_);clear hK K aEQ;have aEQ:True:=trivial
   (try refine pt ?_)
  case' wC3=>
   go_simp;refine hK.out _ _ trivial (fun aEQ=>?_);clear hK K aEQ;have aEQ:True:=trivial
   (try refine pt ?_)
   refine o1 1 fun K hK=>?_
   go_simp;refine hK.out _ _ trivial (fun aEQ=>?_);clear hK K aEQ;have aEQ:True:=trivial
   (try refine pt ?_)
  all_goals
   refine o1 9 fun K hK=>?_
   refine adO (B:=w.heap.size+1) ah _ _ ah _ len gs ah zu.u.2.2.1 (oM zu.u.1.lt) ⟨y - 1,z⟩ _ _ ah ah aa ?_;intro A6 c6 w7 vD QW hb6;have HA:=hY (zu.u.app (y:=⟨y - 1,z⟩) ⟨by unfold po;dsimp only;omega,by unfold po;dsimp only;omega⟩ aa di vD QW hb6);have k6:=HA.u.1.ck 1;have f6:=HA.u.1.frozen 1;clear vD QW hb6;refine hK.out _ _ trivial (fun aEQ=>?_);clear hK K aEQ;have aEQ:True:=trivial
   (try refine pt ?_)
   refine tq 10 ?_;refine o1 11 fun K hK=>?_
   go_simp;refine hK.out _ _ trivial (fun aEQ=>?_);clear hK K aEQ;have aEQ:True:=trivial
   (try refine pt ?_)
   refine dn ?_;clear k6 f6 k1 m1 b0 b1 z0 z1;have HD:=hY HA.u.2;obtain ⟨⟨b0,b1⟩,z0,z1⟩:=gg HD.u.2.1;obtain ⟨⟨a0,a1⟩,y0,y1⟩:=gg HD.u.1;go_wp2
   exact bJ (v:=.agg #[iI n1,.slice A6 (len+1) c6]) (Jy rfl HD.u.1 (iI n1) (.slice A6 (len+1) c6) _ rfl) rfl (qj.mk n1 A6 (len+1) c6 _ ⟨aa,aa⟩ aa (HD.u.done di))
 by_cases e2:x=2
 ·subst e2;have wG:=hY Oj;obtain ⟨⟨b0,b1⟩,z0,z1⟩:=gg Oj.2.1;clear Oj;have Ze:IntKind.i64.wrap ((len:Int)+1)=(len:Int)+1:=lH _ aa;go_wp2;have aEQ:True:=trivial;have hlc:len<=cap:=ad8 wG.u.2.2.1;refine dt (S:=fun _=>True) af trivial (fun aEQ=>?_);refine tq 0 ?_;refine tq 2 ?_;refine tq 3 ?_;refine o2 1 4 (fun K hK=>?vL) fun K hK=>?vM
  case' vL=>
   go_simp;refine hK.out _ _ trivial (fun aEQ=>?_);clear hK K aEQ;have aEQ:True:=trivial
   (try refine pt ?_)
   refine o1 4 fun K hK=>?_
   go_simp;refine hK.out _ _ trivial (fun aEQ=>?_);clear hK K aEQ;have aEQ:True:=trivial
   (try refine pt ?_)
   refine tq 5 ?_
   (refine jz (i:=6) (v:=iI ((len:Int)+1)) rfl af af af (fun _ _ _ h=>h) (Or.inl ⟨ah,?_⟩) aL ?_;· (intro w hSw;(try dsimp only at hSw);go_simp;first|done|exact lH _ aa))
   (try refine pt ?_)
   refine o1 7 fun K hK=>?_
   go_simp;refine (aT g _ _ wG.u.drew.2.2.2.2.1 aa).mono ?_;rintro e w5 ⟨y,rfl,⟨mg,dw,_⟩,kH,hZ⟩;have iW:=dw aa;clear dw;have iy:=hY (wG.u.drew.grown hZ kH fA di);have k1:=iy.u.2.1.ck 1;have f1:=iy.u.2.1.frozen 1;have Zv:=iy.u.2.1.lt;clear hZ;obtain ⟨k,rfl⟩:=lD mg;have wE:k<=len:=aa
   have hkc:k<=cap:=aa
   refine hK.out _ _ trivial (fun aEQ=>?_);clear hK K aEQ;have aEQ:True:=trivial
   (try refine pt ?_)
  case' vM=>
   go_simp;refine hK.out _ _ trivial (fun aEQ=>?_);clear hK K aEQ;have aEQ:True:=trivial
   (try refine pt ?_)
   refine tq 5 ?_
   (refine jz (i:=6) (v:=iI ((len:Int)+1)) rfl af af af (fun _ _ _ h=>h) (Or.inl ⟨ah,?_⟩) aL ?_;· (intro w hSw;(try dsimp only at hSw);go_simp;first|done|exact lH _ aa))
   (try refine pt ?_)
   refine o2 1 7 (fun K hK=>?vL2) fun K hK=>?vC2
  case' vL2=>
   go_simp;refine hK.out _ _ trivial (fun aEQ=>?_);clear hK K aEQ;have aEQ:True:=trivial
   (try refine pt ?_)
   refine o1 7 fun K hK=>?_
   go_simp;refine (aT g _ _ wG.u.drew.2.2.2.2.1 aa).mono ?_;rintro e w5 ⟨y,rfl,⟨mg,dw,_⟩,kH,hZ⟩;have iW:=dw aa;clear dw;have iy:=hY (wG.u.drew.grown hZ kH fA di);have k1:=iy.u.2.1.ck 1;have f1:=iy.u.2.1.frozen 1;have Zv:=iy.u.2.1.lt;clear hZ;obtain ⟨k,rfl⟩:=lD mg;have wE:k<=len:=aa
   have hkc:k<=cap:=aa
   refine hK.out _ _ trivial (fun aEQ=>?_);clear hK K aEQ;have aEQ:True:=trivial
   (try refine pt ?_)
  case' vC2=>
   go_simp;refine (aT g _ _ wG.u.drew.2.2.2.2.1 aa).mono ?_;rintro e w5 ⟨y,rfl,⟨mg,dw,_⟩,kH,hZ⟩;have iW:=dw aa;clear dw;have iy:=hY (wG.u.drew.grown hZ kH fA di);have k1:=iy.u.2.1.ck 1;have f1:=iy.u.2.1.frozen 1;have Zv:=iy.u.2.1.lt;clear hZ;obtain ⟨k,rfl⟩:=lD mg;have wE:k<=len:=aa
   have hkc:k<=cap:=aa
   refine hK.out _ _ trivial (fun aEQ=>?_);clear hK K aEQ;have aEQ:True:=trivial
   (try refine pt ?_)
   refine o1 1 fun K hK=>?_
   go_simp;refine hK.out _ _ trivial (fun aEQ=>?_);clear hK K aEQ;have aEQ:True:=trivial
   (try refine pt ?_)
  all_goals
   refine o1 8 fun K hK=>?_
   go_simp;refine hK.out _ _ trivial (fun aEQ=>?_);clear hK K aEQ;have aEQ:True:=trivial
   (try refine pt ?_)
   refine tq 9 ?_;refine o1 10 fun K hK=>?_
   go_simp;refine hK.out _ _ trivial (fun aEQ=>?_);clear hK K aEQ;have aEQ:True:=trivial
   (try refine pt ?_)
   refine dn ?_;have HD:=hY (iy.u.cut wE aa di);clear k1 f1 b0 b1 z0 z1;obtain ⟨⟨b0,b1⟩,z0,z1⟩:=gg HD.u.2.1;obtain ⟨⟨a0,a1⟩,y0,y1⟩:=gg HD.u.1;go_wp2
   exact bJ (v:=.agg #[iI n1,.slice A k cap]) (Jy rfl HD.u.1 (iI n1) (.slice A k cap) _ rfl) rfl (qj.mk n1 A k cap _ ⟨aa,aa⟩ aa (HD.u.done di))
 ·have HD:=hY Oj;obtain ⟨⟨b0,b1⟩,z0,z1⟩:=gg Oj.2.1;obtain ⟨⟨a0,a1⟩,y0,y1⟩:=gg Oj.1;clear Oj;go_wp2
  exact bJ (v:=.agg #[iI n1,.slice A len cap]) (Jy rfl HD.u.1 (iI n1) (.slice A len cap) _ rfl) rfl (qj.mk n1 A (len) cap (gs) ⟨aa,aa⟩ aa (HD.u.done di))
theorem ud:(prog.info? 183).map (·.size)=some 2:=af
theorem Sp:(183:Nat)≠39:=ae
theorem Sq {w:World} {r T i:Nat} {cs:Array Value} {B e size n:Nat} {v:Value} {xs:List Value} (ho:w.ownsRow B e size v n xs) (h:au w r T cs) (hne:T≠e) (u:Value):(w.setCell (aA r i) u).ownsRow B e size v n xs:=by
 refine ho.kept (row:=some r) (cF (kO w (some r)) i u) ?_
 cases hv:v.ownBlock with
 |none=>exact .inl rfl
 |some k=>exact .inr (fun e1=>Fl h ho hne k hv rm)
theorem aac {w:World} {r T:Nat} {z0 z1:Value} {B e size n:Nat} {v:Value} {xs:List Value} (ho:w.ownsRow B e size v n xs) (h:au w r T #[z0,z1]) (hne:T≠e) (a b:Value):(eh w r a b).ownsRow B e size v n xs:=
 Sq (Sq ho h hne a) (h.aU 0 a) hne b
def CiB (w0:World) (bE:Nat) (e:Ending) (w:World):Prop:=∃(N:Int) (L:OA) (len cap:Nat) (gs:List Gt) (b:Bool),e=.returned (.tuple #[.agg #[iI N,.slice L len cap],.bool b])/\w.ownsRow w0.heap.size 39 4 (.slice L len cap) len (aq gs)/\len<=bE
theorem JN {P:Prop} (h:P:=by
 obtain ⟨⟨a0,a1⟩,y0,y1⟩:=bu Xv.u.2;go_wp2;refine bJ (v:=.tuple #[.agg jC,.bool false]) ?_ rfl ?_
 rotate_left
 ·exact ⟨⟨0,none,0,0,[],false,rfl,⟨ag,.inl ⟨rfl,rfl⟩⟩,aa⟩,(HNO.u _ (xZ _)).u.2⟩
 ·exact aR rfl _ _ _ _ _ _ _ rfl rfl (HNO.u _ (xZ _)).u.1 Ny rfl ud):P:=h
theorem rP (A:OA) (c:Nat) (n:Int) (gs:List Gt) (w:World) (h:Rd w w.heap.size 4 A gs.length (aq gs)) (hl:gs.length<=2000000000000):
  Calls prog 154 #[.agg #[iI n,.slice A gs.length c]] w fun e w'=>CiB w 100 e w'/\Ext w w':=by
 go_enter func154,ntmps154;go_wp2_with fail;refine (kB A c n gs _ (h.ext aw) hl).mono ?_;rintro e w1 ⟨ht,aK⟩;have hle:∃(m:Int) (B:OA) (l d:Nat) (rs:List Pa) (b:Bool),e=.returned (.tuple #[.agg #[iI m,.slice B l d],.bool b])/\Hid (Rd w1 w1.heap.size 4 B l (aX rs)/\rs.length=l/\l<=d/\l<=8):=by
  cases hT:zZ n gs with
  |none=>
   rw [hT] at ht
   exact ⟨0,none,0,0,[],false,ht,⟨rfl,fun h0=>absurd h0 aa⟩,rfl,lI _,aa⟩
  |some rs=>
   rw [hT] at ht;obtain ⟨v,he,B,d,rfl,hr,hc⟩:=ht;have h8:rs.length<=8:=by
    cases hv:Tl n gs
    ·rw [WJ hv] at hT;cases hT
    ·rw [Ix hv] at hT;have hb:=acW hv;obtain ⟨k,rfl⟩:=lD (aa:0<=n);have h2:∀(gs:List Gt) (Zx rs:List Pa),gs.foldl (fun t g=>t.bind fun rs=>fL k rs g) (some Zx)=some rs->rs.length=Zx.length:=by
      intro gs
      induction gs with
      |nil=>intro Zx rs h;cases h;rfl
      |cons g r ih=>
       intro Zx rs h;rw [vO] at h
       cases h3:fL k Zx g with
       |none=>rw [show (some Zx).bind (fun rs=>fL k rs g)=none from h3,Iy] at h;cases h
       |some r1=>rw [show (some Zx).bind (fun rs=>fL k rs g)=some r1 from h3] at h;rw [ih r1 rs h,Iz h3]
     have h3:=h2 gs _ rs hT;rw [h3,WL,yp];omega
   exact ⟨n,B,rs.length,d,rs,true,he,hr,rfl,hc,h8⟩
 obtain ⟨m,B,l,d,rs,b,rfl,HR⟩:=hle;have bW:Hid (au w1 w.heap.size 183 #[iI n,.slice A gs.length c]/\au w1 (w.heap.size+1) 183 jC):=⟨((au.new w _ _).alloc _).ext aK,(au.newAt (b:=w.heap.size+1) ag).ext aK⟩;have cH:Hid (Ext w w1/\w.heap.size+2<=w1.heap.size):=⟨Ext.trans aw aK,iq⟩;obtain ⟨la,hla⟩:=ey (gs.length);rw [<-hla] at bW |-;clear aK ht h hla hl;have HS:Hid (au (w1.alloc (cO #[iI m,.slice B l d] 207)) w1.heap.size 207 #[iI m,.slice B l d]/\Ext w1 (w1.alloc (cO #[iI m,.slice B l d] 207))/\w1.heap.size<(w1.alloc (cO #[iI m,.slice B l d] 207)).heap.size):=⟨au.new _ _ _,(xZ _).alloc _,ag⟩;have jN:Hid (Rd (w1.alloc (cO #[iI m,.slice B l d] 207)) (w1.alloc (cO #[iI m,.slice B l d] 207)).heap.size 4 B l (aX rs)):=HR.u.1.ext ((xZ _).alloc _);go_upto_region 2 with fail;generalize w1.alloc (cO #[iI m,.slice B l d] 207)=w2 at*
 generalize w1.heap.size=q at*
 obtain ⟨⟨s0,s1⟩,-⟩:=bu HS.u.1;go_wp2_with fail
 refine ((show Calls prog 173 #[.agg #[iI m,.slice B l d]] w2 (fun e w'=>GsB w2 100 e w'/\Ext w2 w') by
  obtain ⟨h1,h2,h3,h4⟩:=HR.u;have:=vr B d m rs w2 (by rw [h2];exact jN.u) aa aa;rw [h2] at this
  exact this)).mono ?_
 rintro e w3 ⟨⟨L,len,cap,hs,bb,rfl,ho,hlen⟩,bO⟩;have HO:=hY ho;have fD:Hid (Ext w w3):=cH.u.1.trans (HS.u.2.1.trans bO);have nT:Hid (au w3 w.heap.size 183 #[iI n,.slice A la c]/\au w3 (w.heap.size+1) 183 jC):=⟨bW.u.1.ext (HS.u.2.1.trans bO),bW.u.2.ext (HS.u.2.1.trans bO)⟩;have HSZ:Hid (w.heap.size+2<=q/\q<w2.heap.size/\w2.heap.size<=w3.heap.size):=⟨cH.u.2,HS.u.2.2,bO.size⟩;clear bW cH HS HR jN bO ho s0 s1;obtain ⟨⟨b0,b1⟩,-⟩:=bu nT.u.1;go_upto_region 4 with fail;have Xv:Hid (au (w3.alloc (cO #[iI n,.slice L len cap] 183)) w3.heap.size 183 #[iI n,.slice L len cap]/\au (w3.alloc (cO #[iI n,.slice L len cap] 183)) (w.heap.size+1) 183 jC):=⟨au.new _ _ _,nT.u.2.alloc _⟩;have qh:Hid ((w3.alloc (cO #[iI n,.slice L len cap] 183)).ownsRow w2.heap.size 39 4 (.slice L len cap) len (aq hs)):=aj HO.u ((xZ _).alloc _);have qC:Hid (Ext w (w3.alloc (cO #[iI n,.slice L len cap] 183))):=fD.u.alloc _;clear nT HO fD b0 b1;generalize w3.alloc (cO #[iI n,.slice L len cap] 183)=w4 at*
 generalize w3.heap.size=p at*
 have Ii:Hid (∀w',Ext w4 w'->(eh w' (w.heap.size+1) (iI n) (.slice L len cap)).ownsRow w.heap.size 39 4 (.slice L len cap) len (aq hs)):=fun w' hx=>
  aC (aac (aj qh.u hx) (Xv.u.2.ext hx) Sp _ _) (oM HSZ.u)
 have hno:∀w',Ext w4 w'->Hid (au (eh w' (w.heap.size+1) (iI 0) (nS)) (w.heap.size+1) 183 jC/\Ext w (eh w' (w.heap.size+1) (iI 0) (nS))):=fun w' hx=>⟨(Xv.u.2.ext hx).eh _ _,dK (qC.u.trans hx) aa _ _⟩
 have HNO:=hY hno;clear hno
 cases b
 ·exact JN
 cases bb
 ·exact JN
 obtain ⟨⟨c0,c1⟩,-⟩:=bu Xv.u.1;go_wp2_with fail
 refine ((show ∃ok,Calls prog 174 #[.agg #[iI n,.slice L len cap]] w4 (fun e w'=>e=.returned (.bool ok)/\Ext w4 w') by
  have hr:=Rd.own qh.u;have e:=hr.len Gt.aG aa;rw [<-e] at hr |-
  exact ⟨_,kA L cap n hs w4 hr aa⟩)).elim fun ok sj=>sj.mono ?_
 rintro e w5 ⟨rfl,cI⟩;have jP:=hY cI;clear cI c0 c1;obtain ⟨⟨c0,c1⟩,-⟩:=bu (Xv.u.1.ext jP.u);obtain ⟨⟨a0,a1⟩,y0,y1⟩:=bu (Xv.u.2.ext jP.u)
 cases ok
 ·go_wp2;refine bJ (v:=.tuple #[.agg jC,.bool false]) ?_ rfl ?_
  rotate_left
  ·exact ⟨⟨0,none,0,0,[],false,rfl,⟨ag,.inl ⟨rfl,rfl⟩⟩,aa⟩,(HNO.u _ jP.u).u.2⟩
  ·exact aR rfl _ _ _ _ _ _ _ rfl rfl (HNO.u _ jP.u).u.1 Ny rfl ud
 ·have dP:Hid (au (eh w5 (w.heap.size+1) (iI n) (.slice L len cap)) (w.heap.size+1) 183 #[iI n,.slice L len cap]):=(Xv.u.2.ext jP.u).eh _ _;have dL:Hid (Ext w (eh w5 (w.heap.size+1) (iI n) (.slice L len cap))):=dK (qC.u.trans jP.u) aa _ _;have mn:=hY (Ii.u _ jP.u);go_wp2;refine bJ (v:=.tuple #[.agg #[iI n,.slice L len cap],.bool true]) ?_ rfl ?_
  rotate_left
  ·exact ⟨⟨n,L,len,cap,hs,true,rfl,mn.u,hlen⟩,dL.u⟩
  ·exact aR rfl _ _ _ _ _ _ _ rfl rfl dP.u Ny rfl ud
end Go.Proofs.YtodhjgngkkcjgaaGreatDoor
