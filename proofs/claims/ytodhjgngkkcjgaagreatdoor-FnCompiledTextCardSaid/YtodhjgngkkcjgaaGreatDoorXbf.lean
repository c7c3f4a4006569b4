import Derived.Test.YtodhjgngkkcjgaaGreatDoorXbb
import Derived.Test.YtodhjgngkkcjgaaGreatDoorXz
namespace Go.Proofs.YtodhjgngkkcjgaaGreatDoor
open Go.ChangeShapes Go.WideShapes Go.ChangeAt Go.RowKit Go.Deep Go.Proofs.Tryz
set_option linter.unusedVariables false
set_option linter.unusedSimpArgs false
set_option maxRecDepth 100000
set_option maxHeartbeats 16000000
def Kc (x:Gr) (mode:Int) (g:Gt) (p:List Int):List Gt ×List Int:=if (mode==1)=true then (brG x p g,p) else qX x g p
theorem Sx {x:Gr} {mode:Int} {g:Gt} {p:List Int} (h:(mode==1)=true):Kc x mode g p=(brG x p g,p):=aY h
theorem Sy {x:Gr} {mode:Int} {g:Gt} {p:List Int} (h:(mode==1)=false):Kc x mode g p=qX x g p:=aM aZ
theorem Pv (x:Gr) (mode:Int) (g:Gt) (p:List Int):(Kc x mode g p).1.length<=10:=by
 cases h:(mode==1)
 ·rw [Sy h];have:=ZQ x g p;omega
 ·rw [Sx h];exact XL x p g
theorem XW {x:Gr} {mode:Int} {g:Gt} {p:List Int} (hp:perm p=true):perm (Kc x mode g p).2=true/\(Kc x mode g p).2.length=p.length:=by
 cases h:(mode==1)
 ·rw [Sy h];exact ZS hp
 ·rw [Sx h];exact ⟨hp,rfl⟩
theorem ah5 {g:Gt} {x:Gr} {p:List Int} (h:may g x p=true):lay x p=true:=by
 unfold may at h;simp only [lF] at h
 exact h.1.1
theorem aep {g:Gt} {x:Gr} {p:List Int} (h:may g x p=true):EO x p [g]=true/\brR x p [g]=brG x p g:=by
 have h1:EO x p [g]=true:=ad6 (ah5 h) (by simp [Vc,h])
 exact ⟨h1,by rw [XM h1];simp⟩
def Sz (w:World) (x:Gr) (g:Gt) (p:List Int) (mode:Int) (vp:Value) (e:Ending) (w':World):Prop:=
 ∃v vq,e=.returned (.tuple #[v,vq,.bool (may g x p)])/\Ext w w'/\(may g x p=true->∃A n c,vq=.slice A n c/\n=(Kc x mode g p).2.length/\n<=c/\w'.ownsRow w.heap.size 39 4 v (Kc x mode g p).1.length (aq (Kc x mode g p).1)/\(w'.ownsRow w.heap.size 3 1 (.slice A n c) n (aD (Kc x mode g p).2)\/(.slice A n c=vp/\(Kc x mode g p).2=p)))
theorem Sz.no {w w':World} {x:Gr} {g:Gt} {p:List Int} {mode:Int} {v vq vp:Value} (h:may g x p=false) (hx:Ext w w'):Sz w x g p mode vp (.returned (.tuple #[v,vq,.bool false])) w':=
 ⟨v,vq,by rw [h],hx,fun h'=>by rw [h] at h';cases h'⟩
theorem Sz.yes {w w':World} {x:Gr} {g:Gt} {p:List Int} {mode:Int} {v vp:Value} {A:OA} {n c:Nat} {r:List Gt ×List Int} (h:may g x p=true) (hr:Kc x mode g p=r) (hx:Ext w w') (hn:n=r.2.length) (hc:n<=c) (ho:w'.ownsRow w.heap.size 39 4 v r.1.length (aq r.1)) (hd:w'.ownsRow w.heap.size 3 1 (.slice A n c) n (aD r.2)\/(.slice A n c=vp/\r.2=p)):Sz w x g p mode vp (.returned (.tuple #[v,.slice A n c,.bool true])) w':=
 ⟨v,_,by rw [h],hx,fun _=>⟨A,n,c,rfl,by rw [hr];exact hn,hc,by rw [hr];exact ho,by rw [hr];exact hd⟩⟩
theorem Pw (g:Gt) (v:Value) (x:Gr) (A:OA) (n c:Nat) (p:List Int) (mode:Int) (w:World) (hv:fB w w.heap.size v x) (hl:x.es.length<=2000000000000) (hp:Rd w w.heap.size 1 A n (aD p)) (hn:n<=2000000000000) (hc:n<=c):
  Calls prog 109 #[g.val,v,.slice A n c,iI mode] w (Sz w x g p mode (.slice A n c)):=by
 have hlen:=hY (hp.len bG aa);obtain ⟨A1,c1,rfl,h1⟩:=hv;have HG:Hid (∀w',Ext w w'->fB w' w'.heap.size (.agg #[iI x.n,.slice A1 x.es.length c1]) x):=fun w' hx=>⟨A1,c1,rfl,h1.ext hx⟩
 clear h1;have KV:au ((w.alloc (cO (gA g) 39)).alloc (cO #[iI x.n,.slice A1 x.es.length c1] 63)) w.heap.size 39 (gA g):=(au.new _ _ _).alloc _;have dx:au ((w.alloc (cO (gA g) 39)).alloc (cO #[iI x.n,.slice A1 x.es.length c1] 63)) (w.heap.size+1) 63 #[iI x.n,.slice A1 x.es.length c1]:=au.newAt ag;have dN:Ext w ((w.alloc (cO (gA g) 39)).alloc (cO #[iI x.n,.slice A1 x.es.length c1] 63)):=aw
 have MA:=hY KV;have bW:=hY dx;have qc:=hY dN;clear dx dN KV;go_enter func109,ntmps109;go_wp2_with fail;have KV:=MA.u;have dx:=bW.u;have dN:=qc.u;clear bW qc MA;generalize ((w.alloc (cO (gA g) 39)).alloc (cO #[iI x.n,.slice A1 x.es.length c1] 63))=Wb at*
 refine (lf g _ x A n c p _ (HG.u _ dN) hl (hp.ext dN) hn hc).mono ?_;rintro e w1 ⟨rfl,aK⟩;have Ts:=KV.ext aK;have qA:=dx.ext aK;have xL:=dN.trans aK
 cases hm:may g x p
 ·have HM:=hY hm;clear hm;go_wp2;go_ret3
  exact Sz.no HM.u (xL.alloc _)
 have HM:=hY hm;have HBO:=hY (aep hm);clear hm;have b0:=Ts.ck 0;have b1:=Ts.ck 1;have b2:=Ts.ck 2;have b3:=Ts.ck 3;have d0:=qA.ck 0;have d1:=qA.ck 1;have vX:=qA.lt
 cases h1:(mode==1)
 ·have HR:=hY (Sy (x:=x) (g:=g) (p:=p) h1);go_wp2_with fail;refine (AO g _ x A n c p _ (HG.u _ xL) hl (hp.ext xL) hn hc).mono ?_;rintro e w2 ⟨v2,A2,n2,c2,rfl,DP,zm,fg,hq2,bz⟩;have HN2:=hY DP;clear DP;go_wp2;go_ret3
  exact Sz.yes HM.u HR.u (xL.trans bz) HN2.u zm (aC fg xL.size) (.inl (aC hq2 xL.size))
 ·have HR:=hY (Sx (x:=x) (g:=g) (p:=p) h1);have avL:=eC w1 (gA g) w1.heap.size 39 1 4 (aq [g]) rfl rfl rfl;have hX2:=xL.alloc (cO (gA g) 39);go_wp2_with fail;refine (wY _ 1 1 [g] _ x A n c p _ avL aa (HG.u _ hX2) hl (hp.ext hX2) hn hc).mono ?_;rintro e w2 ⟨v2,rfl,fg,bz⟩;rw [HBO.u.1];rw [HBO.u.2] at fg;go_wp2;go_ret3
  exact Sz.yes HM.u HR.u (hX2.trans bz) hlen.u.symm hc (aC fg hX2.size) (.inr ⟨rfl,rfl⟩)
def opW (c:Int) (h:Gt):Oq:=⟨1,h,0,0,if (h.k==11)=true then 0 else c⟩
theorem aqE {c:Int} {h:Gt} (hk:(h.k==11)=true):opW c h=gop 0 h:=by unfold opW gop;rw [aY hk]
theorem aqF {c:Int} {h:Gt} (hk:(h.k==11)=false):opW c h=gop c h:=by unfold opW gop;rw [aM fR]
def SA (p:List Int) (o:Oq):Oq:=⟨o.k,o.g,loc p o.q,o.bit,o.cond⟩
def sN (x:Gr) (mode:Int):List Oq->List Int->Option (List Oq ×List Int)
 |[],now=>some ([],now)
 |o::r,now=>
  if (o.k==1)=true then
   if may o.g x now=true then (sN x mode r (Kc x mode o.g now).2).map fun t=>((Kc x mode o.g now).1.map (opW o.cond)++t.1,t.2) else none
  else if (o.k==2)=true then
   if 0<=o.q/\o.q<=x.n - 1 then (sN x mode r now).map fun t=>(SA now o::t.1,t.2) else none
  else sN x mode r now
def ER (x:Gr) (xs:List Oq) (p:List Int) (mode:Int):Option (List Oq ×List Int):=if (lay x p && (mode==0||mode==1))=true then sN x mode xs p else none
theorem Fx {x:Gr} {xs:List Oq} {p:List Int} {mode:Int} (h:(lay x p && (mode==0||mode==1))=false):ER x xs p mode=none:=aM aZ
theorem aeq {x:Gr} {xs:List Oq} {p:List Int} {mode:Int} (h:lay x p=true) (h':(mode==0||mode==1)=true):ER x xs p mode=sN x mode xs p:=aY (by rw [h,h'];rfl)
def vu (x:Gr) (mode:Int) (xs:List Oq) (k:Nat) (out:List Oq) (now:List Int):Option (List Oq ×List Int):=(sN x mode (xs.drop k) now).map fun t=>(out++t.1,t.2)
theorem al8 (x:Gr) (mode:Int) (xs:List Oq) (p:List Int):vu x mode xs 0 [] p=sN x mode xs p:=by
 unfold vu;simp
theorem aer {x:Gr} {mode:Int} {xs:List Oq} {k:Nat} {out:List Oq} {now:List Int} (h:xs.length<=k):vu x mode xs k out now=some (out,now):=by
 unfold vu;rw [List.drop_eq_nil_of_le h];simp [sN]
section
variable {x:Gr} {mode:Int} {xs:List Oq} {k:Nat} {out:List Oq} {now:List Int} {o:Oq}
theorem drop_at (h:xs[k]?=some o):xs.drop k=o::xs.drop (k+1):=by
 obtain ⟨hk,rfl⟩:=gu.1 h
 exact Bn hk
theorem aal (h:xs[k]?=some o) (h1:(o.k==1)=true) (hm:may o.g x now=true):vu x mode xs k out now=vu x mode xs (k+1) (out++(Kc x mode o.g now).1.map (opW o.cond)) (Kc x mode o.g now).2:=by
 unfold vu;rw [drop_at h,sN,aY h1,aY hm,Option.map_map];simp [Function.comp_def,vJ]
theorem Px (h:xs[k]?=some o) (h1:(o.k==1)=true) (hm:may o.g x now=false):vu x mode xs k out now=none:=by
 unfold vu;rw [drop_at h,sN,aY h1,aM (by simp [hm])];rfl
theorem aam (h:xs[k]?=some o) (h1:(o.k==1)=false) (h2:(o.k==2)=true) (hq:0<=o.q/\o.q<=x.n - 1):vu x mode xs k out now=vu x mode xs (k+1) (out++[SA now o]) now:=by
 unfold vu;rw [drop_at h,sN,aM dC,aY h2,aY hq,Option.map_map];simp [Function.comp_def]
theorem Py (h:xs[k]?=some o) (h1:(o.k==1)=false) (h2:(o.k==2)=true) (hq:¬(0<=o.q/\o.q<=x.n - 1)):vu x mode xs k out now=none:=by
 unfold vu;rw [drop_at h,sN,aM dC,aY h2,aM hq];rfl
theorem Vj (h:xs[k]?=some o) (h1:(o.k==1)=false) (h2:(o.k==2)=false):vu x mode xs k out now=vu x mode xs (k+1) out now:=by
 unfold vu;rw [drop_at h,sN,aM dC,aM eY]
end
def ye (w:World) (r:Option (List Oq ×List Int)) (e:Ending) (w':World):Prop:=
 ∃v1 v2 b1,e=.returned (.tuple #[v1,v2,.bool r.isSome])/\w'.ownsRow w.heap.size 41 8 v1 (r.getD ([],[])).1.length (aJ (r.getD ([],[])).1)/\(∀g,v1.ownBlock=some g->g<b1)/\(w.heap.size<=b1/\b1<=w'.heap.size)/\w'.ownsRow b1 3 1 v2 (r.getD ([],[])).2.length (aD (r.getD ([],[])).2)/\Ext w w'
theorem ye.no {w w':World} {r:Option (List Oq ×List Int)} {v1 v2:Value} {b1:Nat} (hr:r=none) (h1:w'.ownsRow w.heap.size 41 8 v1 0 []) (hb:∀g,v1.ownBlock=some g->g<b1) (hw:w.heap.size<=b1/\b1<=w'.heap.size) (h2:w'.ownsRow b1 3 1 v2 0 []) (hx:Ext w w'):ye w r (.returned (.tuple #[v1,v2,.bool false])) w':=by
 subst hr
 exact ⟨v1,v2,b1,rfl,h1,hb,hw,h2,hx⟩
theorem ye.yes {w w':World} {r:Option (List Oq ×List Int)} {v1 v2:Value} {b1 m n:Nat} {out:List Oq} {q:List Int} (hr:r=some (out,q)) (hm:out.length=m) (hn:q.length=n) (h1:w'.ownsRow w.heap.size 41 8 v1 m (aJ out)) (hb:∀g,v1.ownBlock=some g->g<b1) (hw:w.heap.size<=b1/\b1<=w'.heap.size) (h2:w'.ownsRow b1 3 1 v2 n (aD q)) (hx:Ext w w'):ye w r (.returned (.tuple #[v1,v2,.bool true])) w':=by
 subst hr hm hn
 exact ⟨v1,v2,b1,rfl,h1,hb,hw,h2,hx⟩
theorem al9:(39:Nat)≠41:=ae
theorem aes:(3:Nat)≠41:=ae
theorem Vk {w:World} {g t:Nat} {a0 a1 a2 a3 a4 a5 a6 a7:Value} (h:au w g t #[a0,a1,a2,a3,a4,a5,a6,a7]):w.cell? (aA g 0)=some a0/\w.cell? (aA g 1)=some a1/\w.cell? (aA g 2)=some a2/\w.cell? (aA g 3)=some a3/\w.cell? (aA g 4)=some a4/\w.cell? (aA g 5)=some a5/\w.cell? (aA g 6)=some a6/\w.cell? (aA g 7)=some a7/\w.frozen? (aA g 5)=false:=
 ⟨h.cell 0,h.cell 1,h.cell 2,h.cell 3,h.cell 4,h.cell 5,h.cell 6,h.cell 7,h.frozen 5⟩
theorem MV {w:World} {B e size n s i:Nat} {v:Value} {xs:List Value} (h:w.ownsRow B e size v n xs) (hne:∀g,v.ownBlock=some g->g≠s) (u:Value):(w.setCell (aA s i) u).ownsRow B e size v n xs:=by
 refine h.kept (row:=some s) ⟨rfl,rfl,rfl,by simp [World.setCell],fun k hk Ve=>pa w ⟨s,i,none⟩ u k (fun e=>Ve dU)⟩ ?_
 cases hv:v.ownBlock with
 |none=>exact .inl rfl
 |some g=>exact .inr fun e=>hne g hv dB
theorem Kd {p:List Int} {i:Int} {n:Nat} (h:p.length=n) (h0:0<=i) (h1:i<=(n:Int) - 1):∃j y,i=((j:Nat):Int)/\j<n/\p[j]?=some y/\loc p i=y:=by
 obtain ⟨j,rfl⟩:=lD h0;have hj:j<p.length:=aa
 refine ⟨j,p[j],rfl,aa,lB hj,?_⟩;unfold loc
 exact tZ ag
theorem ye.aet {w W:World} {r:Option (List Oq ×List Int)} {v1:Value} (hr:r=none) (ho:W.ownsRow w.heap.size 41 8 v1 0 (aJ [])) (hx:Ext w W):ye w r (.returned (.tuple #[v1,.slice (some ⟨W.heap.size,0,none⟩) 0 0,.bool false])) (W.alloc (cO #[] 3)):=
 ye.no (b1:=W.heap.size) hr (ho.alloc _) (fun g hg=>(ho.lt g hg).2) ⟨hx.size,ag⟩ (bS (xZ _) _ _ 1 0 #[] _ rfl rfl rfl aa) (hx.alloc _)
theorem ye.ajC {w W:World} {r:Option (List Oq ×List Int)} (hr:r=none) (hx:Ext w W):ye w r (.returned (.tuple #[.slice (some ⟨W.heap.size,0,none⟩) 0 0,.slice (some ⟨W.heap.size+1,0,none⟩) 0 0,.bool false])) ((W.alloc (cO #[] 41)).alloc (cO #[] 3)):=by
 have h:=ye.aet (W:=W.alloc (cO #[] 41)) (v1:=.slice (some ⟨W.heap.size,0,none⟩) 0 0) hr (bS hx _ _ 8 0 #[] _ rfl rfl rfl aa) (hx.alloc _);simpa using h
def SB (w Wb:World) (s:Nat) (cs:Array Value) (Ao:OA) (m co:Nat) (out:List Oq) (Ag:OA) (ml cg:Nat) (gs:List Gt) (Al:OA) (np cl:Nat) (q:List Int):Prop:=
 au w s 41 cs/\w.ownsRow Wb.heap.size 41 8 (.slice Ao m co) m (aJ out)/\(∀g,(Value.slice Ao m co).ownBlock=some g->g≠s)/\w.ownsRow Wb.heap.size 39 4 (.slice Ag ml cg) ml (aq gs)/\w.ownsRow Wb.heap.size 3 1 (.slice Al np cl) np (aD q)/\Ext Wb w
section
variable {w w' Wb:World} {s:Nat} {cs:Array Value} {Ao:OA} {m co:Nat} {out:List Oq} {Ag:OA} {ml cg:Nat} {gs:List Gt} {Al:OA} {np cl:Nat} {q:List Int}
theorem SB.ext (h:SB w Wb s cs Ao m co out Ag ml cg gs Al np cl q) (hx:Ext w w'):SB w' Wb s cs Ao m co out Ag ml cg gs Al np cl q:=
 ⟨h.1.ext hx,aj h.2.1 hx,h.2.2.1,aj h.2.2.2.1 hx,aj h.2.2.2.2.1 hx,h.2.2.2.2.2.trans hx⟩
theorem SB.app (h:SB w Wb s cs Ao m co out Ag ml cg gs Al np cl q) {v':Value} {m':Nat} {out':List Oq} {W:Nat} (ho:w'.ownsRow Wb.heap.size 41 8 v' m' (aJ out')) (hg:w.grownBy w' (Value.slice Ao m co).ownBlock) (hb:v'.ownBlock=(Value.slice Ao m co).ownBlock\/v'.ownBlock=some W) (hW:s<W):
  ∃A' c',v'=.slice A' m' c'/\SB w' Wb s cs A' m' c' out' Ag ml cg gs Al np cl q:=by
 obtain ⟨A',c',rfl,_⟩:=ak ho;refine ⟨A',c',rfl,h.1.grown hg (fun k hk e=>h.2.2.1 k hk e.symm),ho,fun g Bc=>?_,kD h.2.2.2.1 h.2.1 al9 hg,kD h.2.2.2.2.1 h.2.1 aes hg,h.2.2.2.2.2.grown hg (fun k hk=>(h.2.1.lt k hk).1)⟩;rcases hb with hb|hb
 ·exact h.2.2.1 g (hb ▸ Bc)
 ·rw [hb] at Bc;injection Bc with Bc;omega
end
theorem AW {P:Prop} (h:P:=by
 go_wp2;go_ret3
 exact ye.aet HR.u (aC (aj hoo fy) dN.size) (dN.trans (ka.trans fy))):P:=h
theorem Co (A:OA) (n c:Nat) (xs:List Oq) (v:Value) (x:Gr) (Ap:OA) (np cp:Nat) (p:List Int) (mode:Int) (w:World) (h:Rd w w.heap.size 8 A n (aJ xs)) (hn:n<=100000000000) (hv:fB w w.heap.size v x) (hl:x.es.length<=2000000000000) (hp:Rd w w.heap.size 1 Ap np (aD p)) (hnp:np<=2000000000000) (Yt:np<=cp):
  Calls prog 87 #[.slice A n c,v,.slice Ap np cp,iI mode] w (ye w (ER x xs p mode)):=by
 have hlen:=hY (h.len Oq.aG aa);have MG:=hY (hp.len bG aa);obtain ⟨A1,c1,rfl,h1⟩:=hv;have HG:Hid (∀w',Ext w w'->fB w' w'.heap.size (.agg #[iI x.n,.slice A1 x.es.length c1]) x):=fun w' hx=>⟨A1,c1,rfl,h1.ext hx⟩
 clear h1;have dx:au (w.alloc (cO #[iI x.n,.slice A1 x.es.length c1] 63)) w.heap.size 63 #[iI x.n,.slice A1 x.es.length c1]:=au.new _ _ _;have dN:Ext w (w.alloc (cO #[iI x.n,.slice A1 x.es.length c1] 63)):=aw
 have bW:=hY dx;have qc:=hY dN;clear dx dN;go_enter func87,ntmps87;go_upto_region 1 with fail;have dx:=bW.u;have dN:=qc.u;clear bW qc;generalize (w.alloc (cO #[iI x.n,.slice A1 x.es.length c1] 63))=Wb at*
 have hE:Ext Wb Wb:=xZ _;go_upto_region 2 with fail;have hoo:(Wb.alloc (cO #[] 41)).ownsRow Wb.heap.size 41 8 (.slice (some ⟨Wb.heap.size,0,none⟩) 0 0) 0 (aJ []):=bS (xZ _) _ _ 8 0 #[] _ rfl rfl rfl aa;have uN:Ext Wb (Wb.alloc (cO #[] 41)):=(xZ _).alloc _;generalize (Wb.alloc (cO #[] 41))=Wo at*
 go_upto_region 3 with (at_builtin;refine oJ (w0:=Wo) rfl _ _ rfl (.slice (some ⟨Wo.heap.size,0,none⟩) 0 0) 0 [] rfl (bS (xZ _) _ _ 1 0 #[] _ ag rfl rfl aa) ((xZ _).alloc _) Ap np cp p rfl ((hp.ext (dN.trans uN)).ext ((xZ _).alloc _)) aa ?_;intro v2 w2 fg bz jW zC)
 simp only [lM,lN] at fg;clear jW zC hE;obtain ⟨A2,c2,rfl,_⟩:=ak fg;replace hoo:=aj hoo bz;replace fg:=aC fg uN.size;have ka:Ext Wb w2:=uN.trans bz;clear uN bz;have d0:=(dx.ext ka).ck 0;have d1:=(dx.ext ka).ck 1;go_wp2_with fail;refine (dO _ x _ (HG.u _ (dN.trans ka)) hl).mono ?_;rintro e w3 ⟨rfl,bO⟩;clear d0 d1
 cases mo:je x
 ·have HR:=hY (Fx (x:=x) (xs:=xs) (p:=p) (mode:=mode) (by rw [adz mo];rfl));clear mo;go_wp2;go_ret3
  exact ye.aet HR.u (aC (aj hoo bO) dN.size) (dN.trans (ka.trans bO))
 go_wp2_with fail;refine (bU Ap np cp p _ (hp.ext ((dN.trans ka).trans bO)) hnp Yt).mono ?_;rintro e w4 ⟨rfl,fy⟩;replace fy:=bO.trans fy;clear bO
 cases UR:perm p
 ·have HR:=hY (Fx (x:=x) (xs:=xs) (p:=p) (mode:=mode) (by rw [adA UR];rfl));clear UR
  exact AW
 have HLE:=hY (adB mo UR);have HPP:=hY UR;clear mo UR;have d0:=(dx.ext (ka.trans fy)).ck 0
 cases hne:((np:Int)==x.n)
 ·have Ve:((np:Int) !=x.n)=true:=mM
  have HR:=hY (Fx (x:=x) (xs:=xs) (p:=p) (mode:=mode) (by rw [HLE.u,MG.u,hne];rfl))
  exact AW
 have Ve:((np:Int) !=x.n)=false:=mM
 have Vf:Hid (lay x p=true):=HLE.u.trans (by rw [MG.u];exact hne);obtain ⟨hxn,zn,_⟩:=aqk Vf.u;have HXN:=hY (hxn.trans (by rw [MG.u]));have hp4:np<=4:=oM MG.u
 have xW:1<=np:=oN ((xH HPP.u).1) MG.u
 clear hxn zn
 cases hmd:(mode==0||mode==1)
 ·have HR:=hY (Fx (x:=x) (xs:=xs) (p:=p) (mode:=mode) (by rw [hmd];simp));have HB:Hid (mode<0\/1<mode):=by
   simp only [Bool.or_eq_false_iff,lS] at hmd;unfold Hid;omega
  clear hmd;go_wp2_with fail;refine (bP _ _ _ _ HB.u).mono ?_;rintro e w5 ⟨rfl,rfl⟩
  exact AW
 have HR:=hY (aeq (xs:=xs) Vf.u hmd);have avM:0<=mode/\mode<=1:=by
  simp only [Nw,eS] at hmd;omega
 obtain ⟨Oh,VS⟩:=avM;clear hmd;go_wp2_with fail;refine (aF _ _ _ _ Oh VS).mono ?_;rintro e w5 ⟨rfl,rfl⟩;have vk:=hY (aj fg fy);have eK:=hY (ka.trans fy);have HOO:=hY (aj hoo fy);clear fg hoo ka fy;go_wp2;clear d0 hne Ve
 go_loopw [11,12,13] (fun vo vl i wr=>∃(k:Nat) (now:List Int) (out:List Oq) (Al:OA) (cl:Nat) (Ao:OA) (m co:Nat),k<=n/\i=iI k/\vl=.slice Al np cl/\vo=.slice Ao m co/\Hid (out.length=m)/\m<=10*k/\Hid (perm now=true/\now.length=np)/\Hid (sN x mode xs p=vu x mode xs k out now)/\wr.ownsRow Wb.heap.size 41 8 (.slice Ao m co) m (aJ out)/\wr.ownsRow Wb.heap.size 3 1 (.slice Al np cl) np (aD now)/\Ext Wb wr) (fun vo vl i _=>n - (intOf i).toNat)
 case atStart=>exact ⟨0,p,[],_,_,_,0,_,lJ _,rfl,rfl,rfl,rfl,lJ _,⟨HPP.u,MG.u⟩,(al8 x mode xs p).symm,HOO.u,vk.u,eK.u⟩
 case round=>
  clear HOO vk eK;obtain ⟨k,now,out,Al,cl,Ao,m,co,hk,rfl,rfl,rfl,HM,hmk,HP,HQ,ho,LD,hx⟩:=hrel
  by_cases ba:k<n
  ·obtain ⟨b,o,y,rfl,hb,hy,r0,r1,r2,r3,r4,r5,r6,r7⟩:=nB (h.ext (dN.trans hx)) ba;have HY:=hY hy;clear hy;go_upto_region 9 with fail;have UM:au (wr.alloc (cO (jE y) 41)) wr.heap.size 41 (jE y):=au.new _ _ _;have eu:=ho.alloc (cO (jE y) 41);have Em:=LD.alloc (cO (jE y) 41);have aK:Ext Wb (wr.alloc (cO (jE y) 41)):=hx.alloc _;have aqH:∀g,(Value.slice Ao m co).ownBlock=some g->g≠wr.heap.size:=fun g hg=>oM ((ho.lt g hg).2)
   have aqI:∀g,(Value.slice Al np cl).ownBlock=some g->g≠wr.heap.size:=fun g hg=>oM ((LD.lt g hg).2)
   have hsB:Wb.heap.size<=wr.heap.size:=hx.size;clear r0 r1 r2 r3 r4 r5 r6 r7 ho LD hx;generalize (wr.alloc (cO (jE y) 41))=W1 at*
   generalize wr.heap.size=s at*
   have aqJ:=hY aqH;have avN:=hY aqI;clear aqH aqI;obtain ⟨k0,k1,k2,k3,k4,k5,k6,k7,f5⟩:=Vk UM
   cases h1:(y.k==1)
   case true=>
    have d0:=(dx.ext aK).ck 0;have d1:=(dx.ext aK).ck 1;go_wp2_with fail;refine (Pw y.g _ x Al np cl now mode _ (HG.u _ (dN.trans aK)) hl (Rd.own Em) aa (Pj Em)).mono ?_;rintro e w2 ⟨v2,vq,rfl,iW,aqK⟩;have Zw:=hY aqK;clear aqK d0 d1 k0 k1 k2 k3 k4 k5 k6 k7 f5
    cases hm:may y.g x now
    ·have HN:=hY (HR.u.trans (HQ.u.trans (Px HY.u h1 hm)));clear hm;go_wp2;go_ret3
     exact ye.ajC HN.u ((dN.trans aK).trans iW)
    obtain ⟨A2,n2,c2,rfl,DP,zm,fg,hq2⟩:=Zw.u hm;have hw:=XW (x:=x) (mode:=mode) (g:=y.g) HP.u.1;obtain rfl:n2=np:=by rw [DP,hw.2];exact HP.u.2
    have HK:=hY (aal (mode:=mode) (out:=out) HY.u h1 hm);have hrl:=Pv x mode y.g now;have XY:w2.ownsRow Wb.heap.size 3 1 (.slice A2 n2 c2) n2 (aD (Kc x mode y.g now).2):=by
     rcases hq2 with hq2|⟨e1,e2⟩
     ·exact aC hq2 aK.size
     ·rw [e1,e2];exact aj Em iW
    have HW:Hid (perm (Kc x mode y.g now).2=true/\(Kc x mode y.g now).2.length=n2):=⟨hw.1,hw.2.trans HP.u.2⟩;replace fg:=aC fg aK.size;clear hm hw hq2 DP Zw;generalize (Kc x mode y.g now).1=gs at*
    generalize (Kc x mode y.g now).2=q at*
    obtain ⟨ml,hml⟩:=ey (gs.length);have HML:=hY hml;rw [<-hml] at fg hrl;clear hml;obtain ⟨Ag,cg,rfl,_⟩:=ak fg;have HI:Hid (SB w2 Wb s (jE y) Ao m co out Ag ml cg gs A2 n2 c2 q):=⟨UM.ext iW,aj eu iW,aqJ.u,fg,XY,aK.trans iW⟩;clear eu fg Em XY UM aK iW;go_wp2
    go_loopw [11,18] (fun vo i wr=>∃(r:Nat) (out':List Oq) (Ao':OA) (co':Nat),r<=ml/\i=iI r/\vo=.slice Ao' (m+r) co'/\Hid (out'=out++(gs.take r).map (opW y.cond))/\SB wr Wb s (jE y) Ao' (m+r) co' out' Ag ml cg gs A2 n2 c2 q) (fun vo i _=>ml - (intOf i).toNat)
    case atStart=>exact ⟨0,out,Ao,co,lJ _,rfl,rfl,by simp [Hid],HI.u⟩
    case round=>
     clear HI;obtain ⟨r,out',Ao',co',hr,rfl,rfl,HO,hI⟩:=hrel
     by_cases avO:r<ml
     ·obtain ⟨bg,og,g,rfl,hbg,hg,r0,r1,r2,r3⟩:=bT (Rd.own hI.2.2.2.1) avO;have Qr:=hY (RS (opW y.cond) hg);clear hg;obtain ⟨k0,k1,k2,k3,k4,k5,k6,k7,f5⟩:=Vk hI.1;have JV:=hI.1.lt
      cases h11:(g.k==11)
      case false=>
       have HOP:=hY (aqF (c:=y.cond) h11);go_wp2_with (at_builtin;refine GA (w0:=Wb) rfl _ _ rfl (.slice Ao' (m+r) co') (m+r) out' rfl hI.2.1 hI.2.2.2.2.2 (gop y.cond g) _ _ rfl ag aa ?_;intro v5 w5 kg cI zK NZ)
       obtain ⟨A5,c5,rfl,hI5⟩:=(hI.ext ((xZ wr).alloc _)).app kg zK NZ aa;go_roundw
       case rel=>exact ⟨r+1,out'++[gop y.cond g],A5,c5,aa,az,rfl,yM,hI5⟩
       case measure=>simp [intOf];omega
      case true=>
       have HOP:=hY (aqE (c:=y.cond) h11);go_wp2_with (at_builtin;refine GA (w0:=Wb) rfl _ _ rfl (.slice Ao' (m+r) co') (m+r) out' rfl hI.2.1 hI.2.2.2.2.2 (gop 0 g) _ _ rfl ag aa ?_;intro v5 w5 kg cI zK NZ)
       obtain ⟨A5,c5,rfl,hI5⟩:=(hI.ext ((xZ wr).alloc _)).app kg zK NZ aa;go_roundw
       case rel=>exact ⟨r+1,out'++[gop 0 g],A5,c5,aa,az,rfl,yM,hI5⟩
       case measure=>simp [intOf];omega
     ·obtain rfl:r=ml:=aa
      have vk:Hid (out'=out++gs.map (opW y.cond)):=by rw [HO.u,lE (by rw [<-HML.u];omega)];exact rfl
      go_wp2;go_roundw
      case rel=>exact ⟨k+1,q,out',A2,c2,Ao',m+r,co',aa,az,rfl,rfl,by unfold Hid;rw [vk.u,lA,jK,HM.u,<-HML.u],aa,HW.u,by unfold Hid;rw [HQ.u,HK.u,vk.u],hI.2.1,hI.2.2.2.2.1,hI.2.2.2.2.2⟩
      case measure=>simp [intOf];omega
   cases h2:(y.k==2)
   case false=>
    have HK:=hY (Vj (mode:=mode) (x:=x) (out:=out) (now:=now) HY.u h1 h2);go_wp2;go_roundw
    case rel=>exact ⟨k+1,now,out,Al,cl,Ao,m,co,aa,az,rfl,rfl,HM.u,aa,HP.u,by unfold Hid;rw [HQ.u,HK.u],eu,Em,aK⟩
    case measure=>simp [intOf];omega
   have d0:W1.cell? (aA w.z 0)=some (iI (np:Int)):=by rw [<-HXN.u];exact (dx.ext aK).cell 0
   by_cases hq:0<=y.q/\y.q<=(np:Int) - 1
   case neg=>
    have HN:=hY (HR.u.trans (HQ.u.trans (Py (mode:=mode) (x:=x) (out:=out) (now:=now) HY.u h1 h2 (by rw [HXN.u];exact hq))));have HB:Hid (y.q<0\/(np:Int) - 1<y.q):=bN
    clear hq;go_wp2_with fail;refine (bP _ _ _ _ HB.u).mono ?_;rintro e w2 ⟨rfl,rfl⟩;go_wp2;go_ret3
    exact ye.ajC HN.u (dN.trans aK)
   have HK:=hY (aam (mode:=mode) (x:=x) (out:=out) (now:=now) HY.u h1 h2 (by rw [HXN.u];exact hq));obtain ⟨j,z,hj,VU,hz,qe⟩:=Kd HP.u.2 hq.1 hq.2;have HMV:Hid (SA now y=⟨y.k,y.g,z,y.bit,y.cond⟩):=by unfold Hid SA;rw [qe]
   obtain ⟨bl,ol,z',rfl,Ll,Ua,q0⟩:=du (Rd.own Em) VU;have hzz:z'=z:=by rw [hz] at Ua;injection Ua with Ua;exact Ua.symm
   subst hzz;rw [hj] at k5;have hq1:(0:Int)<=(j:Int):=aa
   have hq2:(j:Int)<=(np:Int) - 1:=aa
   have eO:(j:Int)<(np:Int):=aa
   clear hz Ua qe hq hj;go_wp2_with fail;refine (aF _ _ _ _ hq1 hq2).mono ?_;rintro e w2 ⟨rfl,rfl⟩;go_upto_region 26 with fail;have OM:au (W1.setCell (aA s 5) (iI z')) s 41 #[iI y.k,iI y.g.k,iI y.g.a,iI y.g.b,iI y.g.c,iI z',iI y.bit,iI y.cond]:=UM.aU 5 _;have fg:=MV (i:=5) eu aqJ.u (iI z');have XY:=MV (i:=5) Em avN.u (iI z');have bz:Ext Wb (W1.setCell (aA s 5) (iI z')):=aK.setCell (p:=(aA s 5)) hsB _;clear UM eu Em aK k0 k1 k2 k3 k4 k5 k6 k7 f5 d0 q0;generalize (W1.setCell (aA s 5) (iI z'))=W2 at*
   obtain ⟨k0,k1,k2,k3,k4,k5,k6,k7,f5⟩:=Vk OM;go_wp2_with (at_builtin;refine GA (w0:=Wb) rfl _ _ rfl (.slice Ao m co) m out rfl fg bz ⟨y.k,y.g,z',y.bit,y.cond⟩ _ _ rfl ag aa ?_;intro v5 w5 kg cI zK NZ)
   have UE:=kD (XY.alloc _) (fg.alloc _) aes zK;obtain ⟨A5,c5,rfl,_⟩:=ak kg;go_roundw
   case rel=>exact ⟨k+1,now,out++[⟨y.k,y.g,z',y.bit,y.cond⟩],some ⟨bl,ol,none⟩,cl,A5,m+1,c5,aa,az,rfl,rfl,by unfold Hid;rw [lA,HM.u];rfl,aa,HP.u,by unfold Hid;rw [HQ.u,HK.u,HMV.u],kg,UE,cI⟩
   case measure=>simp [intOf];omega
  ·have jJ:xs.length<=k:=bQ
   have HN:=hY (HR.u.trans (HQ.u.trans (aer (mode:=mode) (x:=x) (out:=out) (now:=now) jJ)));clear jJ;have ky:=ho.lt;have jI:=hY ky;clear ky;go_wp2_with (at_builtin;refine oJ (w0:=wr) rfl _ _ rfl (.slice (some ⟨wr.heap.size,0,none⟩) 0 0) 0 [] rfl (bS (xZ _) _ _ 1 0 #[] _ ag rfl rfl aa) ((xZ _).alloc _) Al np cl now rfl ((Rd.own LD).ext ((xZ _).alloc _)) aa ?_;intro v6 w6 vD oy QW hb6)
   simp only [lM,lN] at vD;go_ret3
   exact ye.yes (b1:=wr.heap.size) HN.u HM.u HP.u.2 (aj (aC ho dN.size) oy) (fun g hg=>(jI.u g hg).2) ⟨(dN.trans hx).size,oy.size⟩ vD ((dN.trans hx).trans oy)
theorem Eo {P:Prop} (h:P:=by
 rintro e w5 ⟨rfl,cf⟩;replace cf:=hx.trans cf;go_wp2;go_roundw
 case rel=>exact ⟨k+1,aa,az,by rw [HS.u],cf⟩
 case measure=>simp [intOf];omega):P:=h
theorem Ke {P:Prop} (h:P:=by
 rw [lE bQ];have uU:¬((k:Int)<(n:Int)):=aa
 go_wp2;go_ret
 exact ⟨rfl,hx⟩):P:=h
theorem Kf (s0:ByteArray) (A:OA) (n c:Nat) (xs:List Int) (w:World) (h:Rd w w.heap.size 1 A n (aD xs)) (hn:n<=4) (cD:∀x∈xs,0<=x/\x<=4) (hs:s0.size<=10):
  Calls prog 19 #[.string s0,.slice A n c] w fun e w'=>e=.returned (.string (ew s0 xs))/\Ext w w':=by
 have hlen:=hY (h.len bG aa);have HQ:=hY cD;clear cD;go_enter func19,ntmps19;go_wp2
 go_loopw [0,5] (fun s i wr=>∃k:Nat,k<=n/\i=iI k/\s=.string (ew s0 (xs.take k))/\Ext w wr) (fun _ i _=>n - (intOf i).toNat)
 case atStart=>exact ⟨0,lJ _,rfl,rfl,xZ _⟩
 case round=>
  obtain ⟨k,hk,rfl,rfl,hx⟩:=hrel
  by_cases ba:k<n
  ·obtain ⟨b,o,q,rfl,hb,hq,r0⟩:=du (h.ext hx) ba;have HS:=hY (xI s0 hq);obtain ⟨q0,q4⟩:=HQ.u q (lG hq);clear hq;have lu:(0:Int)<=(k:Int):=aa
   have jJ:(k:Int)<(n:Int):=aa
   have jm:=fI s0 (xs.take k);have UK:(xs.take k).length<=k:=qE _ _;generalize YA:ew s0 (xs.take k)=ss at*
   clear YA;obtain ⟨j1,j2⟩:=OS ss q aa;clear jm UK;go_wp2_with fail;refine (bA q ⟨aa,aa⟩ _).mono ?_
   exact Eo
  ·exact Ke
theorem uP (A:OA) (n c:Nat) (xs:List Int) (w:World) (h:Rd w w.heap.size 1 A n (aD xs)) (hn:n<=4) (cD:∀x∈xs,0<=x/\x<=4):
  Calls prog 15 #[.slice A n c] w fun e w'=>e=.returned (.string (ew ⟨#[]⟩ xs))/\Ext w w':=by
 have hlen:=hY (h.len bG aa);have HQ:=hY cD;clear cD;go_enter func15,ntmps15;go_wp2
 go_loopw [3,8] (fun s i wr=>∃k:Nat,k<=n/\i=iI k/\s=.string (ew ⟨#[]⟩ (xs.take k))/\Ext w wr) (fun _ i _=>n - (intOf i).toNat)
 case atStart=>exact ⟨0,lJ _,rfl,rfl,xZ _⟩
 case round=>
  obtain ⟨k,hk,rfl,rfl,hx⟩:=hrel
  by_cases ba:k<n
  ·obtain ⟨b,o,q,rfl,hb,hq,r0⟩:=du (h.ext hx) ba;have HS:=hY (xI ⟨#[]⟩ hq);obtain ⟨q0,q4⟩:=HQ.u q (lG hq);clear hq;have lu:(0:Int)<=(k:Int):=aa
   have jJ:(k:Int)<(n:Int):=aa
   have jm:=fI ⟨#[]⟩ (xs.take k);have hez:(⟨#[]⟩:ByteArray).size=0:=rfl;have UK:(xs.take k).length<=k:=qE _ _;generalize YA:ew ⟨#[]⟩ (xs.take k)=ss at*
   clear YA;obtain ⟨j1,j2⟩:=OS ss q aa;clear jm UK hez;go_wp2_with fail;refine (cK q ⟨aa,aa⟩ _).mono ?_
   exact Eo
  ·exact Ke
end Go.Proofs.YtodhjgngkkcjgaaGreatDoor
