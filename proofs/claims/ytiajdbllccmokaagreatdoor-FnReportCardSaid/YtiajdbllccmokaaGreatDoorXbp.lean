import Derived.Test.YtiajdbllccmokaaGreatDoorXbo
namespace Go.Proofs.YtiajdbllccmokaaGreatDoor
open Go.ChangeShapes Go.WideShapes Go.ChangeAt Go.RowKit Go.Deep Go.Proofs.Tryz
set_option linter.unusedVariables false
set_option linter.unusedSimpArgs false
set_option maxRecDepth 100000
set_option maxHeartbeats 16000000
def v1 (g:Gt):Nat:=if g.k=12 then 1000 else if 9<=g.k/\g.k<=11 then 1 else 0
def vN (gs:List Gt):Nat:=(gs.map v1).sum
theorem qQ:vN []=0:=rfl
theorem iB (g:Gt) (gs:List Gt):vN (g::gs)=v1 g+vN gs:=by unfold vN;simp
theorem fU (a b:List Gt):vN (a++b)=vN a+vN b:=by unfold vN;rw [mf,Cc]
theorem Kf (i:Nat) (l:List Gt):vN (l.take i)+vN (l.drop i)=vN l:=by rw [<-fU,qW]
theorem adH (i:Nat) (l:List Gt):vN (l.drop (i+1))<=vN (l.drop i):=by
 have h:=Kf 1 (l.drop i);rw [List.drop_drop] at h;omega
theorem Pz {g:Gt} (h:g.k<=8):v1 g=0:=by unfold v1;rw [aK aa,aK aa]
theorem agx {gs:List Gt} (h:∀g∈gs,g.k<=8):vN gs=0:=by
 induction gs with
 |nil=>rfl
 |cons g gs ih=>rw [iB,Pz (h g (nV ..)),ih fun x hx=>h x (pz _ hx)]
theorem alO {gs:List Gt} (h:∀g∈gs,g.k<=11):vN gs<=gs.length:=by
 induction gs with
 |nil=>exact lI _
 |cons g gs ih=>
  rw [iB,ij];have h1:=ih fun x hx=>h x (pz _ hx)
  have h2:=h g (nV ..);have h3:v1 g<=1:=by unfold v1;rw [aK aa];split<;>omega
  omega
theorem agy (c:Int):∀k∈Ut c,k<=8:=vn
theorem YS (c q:Int):vN (bV c q)=0:=agx fun g hg=>by
 unfold bV at hg;obtain ⟨k,hk,rfl⟩:=zM.1 hg
 exact agy c k hk
theorem YT {g h:Gt} {out:List Gt} (e:et g h=some out):vN out=0:=by
 unfold et at e;split at e
 ·cases e;rfl
 ·split at e
  ·split at e
   ·cases e;exact YS _ _
   ·cases e
  ·cases e
theorem adI {xs:List Gt} {g:Gt}:∀{f k j:Nat} {out:List Gt},NZ xs g f k=some (j,out)->vN out=0
 |0,_,_,_,e=>dQ
 |f+1,k,j,out,e=>by
  cases hk:xs[k]? with
  |none=>rw [Qi hk] at e;cases e
  |some h=>
   cases hm:et g h with
   |some o=>
    rw [IV hk hm] at e
    cases e
    exact YT hm
   |none=>
    cases hc:nd g h
    ·rw [CP hk hm hc] at e
     cases e
    ·rw [CO hk hm hc] at e
     exact adI e
theorem alP {xs:List Gt} {i k:Nat} {out:List Gt} (e:MU xs i=some (k,out)):vN out=0:=by
 unfold MU at e
 cases hi:xs[i]? with
 |none=>rw [hi] at e;cases e
 |some g=>rw [hi] at e;exact adI e
theorem agz {xs:List Gt} {i k:Nat} {out:List Gt} (hi:i<k) (ho:vN out=0):vN (CQ xs i k out)<=vN xs:=by
 unfold CQ;rw [fU,fU,fU,ho];have h1:=Kf k xs;have h2:=Kf i (xs.take k);have h3:=adH i (xs.take k);have h4:=adH k xs;rw [List.take_take,Nat.min_eq_left aa] at h2;omega
theorem Rm {xs:List Gt}:∀{f i:Nat} {ys:List Gt},sV xs f i=some ys->vN ys<=vN xs
 |0,_,_,e=>dQ
 |f+1,i,ys,e=>by
  cases h:MU xs i with
  |none=>rw [vU h] at e;exact Rm e
  |some p=>
   rw [zl h] at e
   cases e
   exact agz (CR (k:=p.1) (out:=p.2) h).1 (alP (k:=p.1) (out:=p.2) h)
theorem Rn:∀(f:Nat) (xs:List Gt),vN (sW f xs)<=vN xs
 |0,_=>lI _
 |f+1,xs=>by
  cases h:jW xs with
  |none=>rw [nh h];exact lI _
  |some ys=>
   rw [ni h]
   exact lK (Rn f ys) (Rm h)
theorem Kg (xs:List Gt):vN (dE xs)<=vN xs:=Rn _ xs
theorem YU (all:Pp) (xs:List Gt) (n:Int):∀k:Nat,vN (dF all xs n k).1<=vN (xs.take k)
 |0=>by simp [dF,vN]
 |k+1=>by
  have ih:=YU all xs n k;have hm:vN (xs.take k)<=vN (xs.take (k+1)):=by
   have h:=Kf k (xs.take (k+1));rw [List.take_take,Nat.min_eq_left aa] at h;omega
  unfold dF;split
  ·rename_i g p hg hp;split
   ·rw [fU,aL hg,fU];omega
   ·split
    ·omega
    ·rw [fU,YS];omega
  ·omega
theorem aci (xs:List Gt) (n:Int):vN (mi xs n)<=vN xs:=by
 cases h:ec xs n with
 |none=>rw [Ll h];exact lI _
 |some all=>
  rw [GS h];have:=YU all xs n xs.length;rw [jt] at this
  exact this
theorem TA (xs:List Gt) (n:Int):vN (ee xs n)<=vN xs:=by
 have key:∀ss:List (List Gt),vN (ss.flatMap fun s=>mi s n)<=vN ss.flatten:=by
  intro ss
  induction ss with
  |nil=>exact lI _
  |cons s ss ih=>
   have:=aci s n;rw [fK,PK,fU,fU];omega
 have h:=key (kt xs);rw [tX] at h
 exact h
theorem agA (k:Int):vN (dI k)=0:=by unfold dI;split<;>(try split)<;>rfl
theorem alQ (t:List Pa):vN (cwd t)=0:=by
 unfold cwd;split
 ·rfl
 ·rename_i p hp;have h:Ov.all (fun p=>decide (vN p.1=0))=true:=af
  exact xD (kc.1 h p (Iu hp))
theorem agB (s:Nf):vN (Bb s)=0:=by
 unfold Bb;have key:∀sy:List Int,vN (sy.flatMap fun k=>dI k++[gz 7])=0:=by
  intro sy
  induction sy with
  |nil=>rfl
  |cons k sy ih=>rw [fK,fU,fU,agA,ih];rfl
 rw [fU,key,alQ]
theorem agC {f:Gt->Gt} (h:∀g,(f g).k=g.k) (gs:List Gt):vN (gs.map f)=vN gs:=by
 induction gs with
 |nil=>rfl
 |cons g gs ih=>
  rw [KB,iB,iB,ih];unfold v1;rw [h g]
theorem acj (xs:List Gt):vN (short xs)<=vN xs:=by
 unfold short;split
 ·unfold DE;rw [agC (f:=fun g=>⟨g.k,(xs.headD ⟨0,0,0,0⟩).a,g.b,g.c⟩) (fun g=>rfl),agB];omega
 ·exact lI _
def Ru0 (r:Nat->List Gt):Prop:=∀q,vN (r q)=0
theorem agD {s:List Gt ×(Nat->List Gt)} (h:Ru0 s.2) (q:Nat):vN (emit s q).1=vN s.1/\Ru0 (emit s q).2:=by
 unfold emit;have h1:=acj (s.2 q);have h2:=h q;refine ⟨by show vN (s.1++short (s.2 q))=_;rw [fU];omega,fun i=>?_⟩;show vN (Ks s.2 q [] i)=0;unfold Ks;split
 ·rfl
 ·exact h i
theorem Kh:∀(qs:List Int) {s:List Gt ×(Nat->List Gt)},Ru0 s.2->vN (jx s qs).1=vN s.1/\Ru0 (jx s qs).2
 |[],s,h=>⟨rfl,h⟩
 |q::qs,s,h=>by
  have h1:=agD h q.toNat;have h2:=Kh qs h1.2
  exact ⟨h2.1.trans h1.1,h2.2⟩
theorem xd {P:Prop} (h:P:=by
 unfold ar at ha;split at ha
 ·omega
 ·split at ha
  ·omega
  ·split at ha<;>omega):P:=h
theorem YV {s:List Gt ×(Nat->List Gt)} (h:Ru0 s.2) (g:Gt):vN (nA s g).1<=vN s.1+v1 g/\Ru0 (nA s g).2:=by
 unfold nA;split
 ·rename_i ha;refine ⟨by show vN s.1<=_;omega,fun i=>?_⟩;show vN (Ks s.2 _ _ i)=0;unfold Ks;split
  ·rw [fU,h,iB,qQ];have:g.k<=8:=by
    exact xd
   rw [Pz this]
  ·exact h i
 ·have h1:=Kh (pa g) h;refine ⟨?_,h1.2⟩;show vN ((jx s (pa g)).1++[g])<=_;rw [fU,iB,qQ,h1.1];omega
theorem agE (xs:List Gt):∀{s:List Gt ×(Nat->List Gt)},Ru0 s.2->vN (xs.foldl nA s).1<=vN s.1+vN xs/\Ru0 (xs.foldl nA s).2:=by
 induction xs with
 |nil=>exact fun h=>⟨lI _,h⟩
 |cons g xs ih=>
  intro s h;have h1:=YV h g;have h2:=ih h1.2;rw [PI,iB]
  exact ⟨aa,h2.2⟩
theorem YW (xs:List Gt) (n:Int):vN (ej xs n)<=vN xs:=by
 unfold ej;split
 ·have h1:=agE xs (s:=([],fun _=>[])) (fun q=>rfl);have h2:=Kh [0,1,2,3] h1.2;unfold qy;rw [h2.1];have h3:=h1.1;rw [qQ] at h3;omega
 ·exact lI _
theorem TC (gs:List Gt):∀xss:List (List Gt),rC gs xss=gs\/rC gs xss∈xss:=by
 intro xss;unfold rC
 induction xss generalizing gs with
 |nil=>exact .inl rfl
 |cons x xss ih=>
  rw [PI];rcases ih (Ih gs x) with h|h
  ·rw [h];unfold Ih;split
   ·exact .inr (nV ..)
   ·exact .inl rfl
  ·exact .inr (pz _ h)
theorem agF {n:Int} {gs out:List Gt} (h:YB n gs out):vN out<=max (vN gs) 100:=by
 obtain ⟨xss,⟨R,hR,rfl⟩,rfl⟩:=h;have a1:=Kg gs;have a2:=lK (Kg (ee gs n)) (TA gs n);have a3:=lK (Kg (ej gs n)) (YW gs n);rcases TC gs ([dE gs,dE (ee gs n),dE (ej gs n)]++Fj R) with h|h
 ·rw [h];omega
 ·rcases mM.1 h with h|h
  ·simp only [qR,IA,or_false] at h;rcases h with h|h|h<;>rw [h]<;>omega
  ·cases R with
   |none=>simp [Fj] at h
   |some ys=>
    have h9:rC gs ([dE gs,dE (ee gs n),dE (ej gs n)]++Fj (some ys))=dE ys:=xt.1 h;rw [h9];have h1:=hR.2 ys rfl;have h2:=Kg ys;have h3:=alO h1.2;have h4:=h1.1;omega
theorem YX {n:Int}:∀{k:Nat} {cur out:List Gt},Pw n k cur out->vN out<=max (vN cur) 100
 |0,_,_,⟨_,_,_,h⟩=>by rw [h];omega
 |k+1,cur,out,⟨ud,hb,h1,h2⟩=>by
  have:=YX h2;have:=agF hb;omega
theorem agG {n:Int} {gs out:List Gt} (h:yB n gs out):vN out<=vN gs+100:=by
 unfold yB at h;split at h
 ·obtain ⟨k,hk⟩:=h;have:=YX hk;omega
 ·rw [h];omega
def Gj (o:Oq):Option Int:=if (o.k==1)=true then some o.cond else none
def bn:Option Int->List Oq->Nat
 |_,[]=>0
 |p,o::r=>(if (o.k==1 && p==some o.cond)=true then 0 else 1)+bn (Gj o) r
def jh:Option Int->List Oq->Option Int
 |p,[]=>p
 |_,o::r=>jh (Gj o) r
theorem Ki:∀(a:List Oq) (p:Option Int) (b:List Oq),bn p (a++b)=bn p a+bn (jh p a) b
 |[],p,b=>by simp [bn,jh]
 |o::a,p,b=>by
  rw [nY,bn,bn,jh,Ki a];omega
theorem zI:∀(a:List Oq) (p:Option Int) (b:List Oq),jh p (a++b)=jh (jh p a) b
 |[],p,b=>rfl
 |o::a,p,b=>by rw [nY,jh,jh,zI a]
theorem Ro {α:Type} (p:α->Bool):∀l:List α,l.take (l.takeWhile p).length=l.takeWhile p
 |[]=>ag
 |x::l=>by
  rw [List.takeWhile_cons];split
  ·rw [ij,uF,Ro p l]
  ·simp
theorem Rp {α:Type} (p:α->Bool):∀(l:List α) {o:α},l[(l.takeWhile p).length]?=some o->p o=false
 |[],o,h=>dV
 |x::l,o,h=>by
  rw [List.takeWhile_cons] at h;split at h
  ·rw [ij,List.getElem?_cons_succ] at h
   exact Rp p l h
  ·rename_i hx;simp at h;subst h;simpa using hx
theorem YY {α:Type} (p:α->Bool):∀(l:List α),∀o∈l.takeWhile p,p o=true
 |[],o,h=>dV
 |x::l,o,h=>by
  rw [List.takeWhile_cons] at h;split at h
  ·rename_i hx;rcases qR.1 h with h|h
   ·subst h;exact hx
   ·exact YY p l o h
  ·simp at h
theorem Ij {c:Int}:∀(l:List Oq),(∀o∈l,(o.k==1 && o.cond==c)=true)->jh (some c) l=some c
 |[],_=>rfl
 |o::l,h=>by
  have h1:=h o (nV ..);simp only [lF,dc] at h1;have e:Gj o=some c:=by unfold Gj;rw [h1.1,aX ah,h1.2]
  rw [jh,e]
  exact Ij l fun x hx=>h x (pz _ hx)
theorem YZ {N:Int} {xs:List Oq}:∀{s i:Nat} {out:List Oq},MM N xs s i out->
  (∀o,xs[i]?=some o->(o.k==1 && jh none (xs.take i)==some o.cond)=false)/\vN (ai out)<=vN (ai (xs.take i))+100*bn none (xs.take i)
 |0,i,out,⟨h1,h2⟩=>by
  subst h1 h2;refine ⟨fun o _=>?_,by simp [ai,vN]⟩;have e:jh none (xs.take 0)=none:=by simp [jh]
  rw [e];simp
 |s+1,i,out,⟨j,o,x,h,hx,hs⟩=>by
  obtain ⟨hb,hv⟩:=YZ h;rcases hs with ⟨hk,rfl,rfl⟩|⟨hk,hi,gs,hg,rfl⟩
  ·have e:ai [x]=[]:=by unfold ai;simp [hk]
   refine ⟨fun o2 _=>?_,?_⟩
   ·rw [aL hx,zI];have e2:jh (jh none (xs.take j)) [x]=none:=by
     show Gj x=none;unfold Gj;rw [hk];rfl
    rw [e2];simp
   ·rw [bJ,e,qZ,mT hx hk,aL hx,Ki];omega
  ·obtain ⟨tw,htw⟩:=ex ((xs.drop (j+1)).takeWhile (fun o=>o.k==1 && o.cond==x.cond));have Zr:i=j+1+tw.length:=by rw [hi];unfold cM;rw [htw]
   have ht:xs.take i=xs.take j++x::tw:=by
    rw [Zr,List.take_add,aL hx];have:=Ro (fun o:Oq=>o.k==1 && o.cond==x.cond) (xs.drop (j+1));rw [htw] at this;rw [this,uE];rfl
   have KD:(xs.take j).length=j:=by
    rw [lT];have:=(gU.1 hx).1;omega
   have hd:(xs.take i).drop j=x::tw:=by
    rw [ht];have:=List.drop_left (l₁:=xs.take j) (l₂:=x::tw);rw [KD] at this
    exact this
   have aS:Gj x=some x.cond:=by unfold Gj;rw [hk];rfl
   have hal:=YY (fun o:Oq=>o.k==1 && o.cond==x.cond) (xs.drop (j+1));rw [htw] at hal;refine ⟨fun o2 h2=>?_,?_⟩
   ·rw [ht,zI,jh,aS,Ij tw hal];have h3:(xs.drop (j+1))[tw.length]?=some o2:=by rw [xw,<-Zr];exact h2
    rw [<-htw] at h3;have h4:=Rp _ _ h3;rw [<-h4]
    cases hh:(o2.k==1)
    ·simp
    ·simp only [kQ];rw [Ca];simp only [dc,fW]
     exact eq_comm
   ·have h5:=agG hg;rw [hd] at h5;have h6:=hb x hx;have h7:1<=bn (jh none (xs.take j)) (x::tw):=by
     rw [bn,aK (by rw [h6];simp)];omega
    rw [ht,bJ,bJ,fT,fU,fU,Ki];omega
theorem agH {N:Int} {xs out:List Oq} (h:Ty N xs out):vN (ai out)<=vN (ai xs)+100*bn none xs:=by
 obtain ⟨s,hs⟩:=h;have:=(YZ hs).2;rw [jt] at this
 exact this
theorem yD {o:Oq} (h:isX o=true):jl o=[yY 0 o.g]/\o.g.k=1:=by
 unfold isX at h;simp only [lF,dc] at h;unfold jl;rw [h.1.1,aX ah,FJ (by rw [h.1.2];rfl) (by rw [h.1.2];rfl) (by rw [h.1.2];rfl),h.2]
 exact ⟨rfl,h.1.2⟩
theorem Rq (c:Int):∀gs:List Gt,bn (some c) (gB gs c)=0
 |[]=>rfl
 |g::gs=>by
  show (if ((yY c g).k==1 && some c==some (yY c g).cond)=true then 0 else 1)+bn (Gj (yY c g)) (gB gs c)=0;rw [aX (by simp [yY])];have e:Gj (yY c g)=some c:=rfl;rw [e,Rq c gs]
theorem Za (p:Option Int) (c:Int) (gs:List Gt):bn p (gB gs c)<=1:=by
 cases gs with
 |nil=>exact lJ _
 |cons g gs=>
  show (if ((yY c g).k==1 && p==some (yY c g).cond)=true then 0 else 1)+bn (some c) (gB gs c)<=1;rw [Rq];split<;>omega
theorem ack (p:Option Int) (o:Oq):bn p (jl o)<=1:=by
 unfold jl;split
 ·exact Za _ _ _
 ·split
  ·exact lJ _
  ·rw [bn,bn];split<;>omega
theorem PA:∀(xs:List Oq) (p:Option Int),bn p (aP xs)<=2*np xs+(if p=some 0 then 0 else 1)
 |[],p=>by show 0<=_;omega
 |o::xs,p=>by
  have e:aP (o::xs)=jl o++aP xs:=rfl;rw [e,Ki,np]
  cases hx:isX o
  ·rw [aK ag];have h1:=ack p o;have h2:=PA xs (jh p (jl o));have h3:(if jh p (jl o)=some 0 then 0 else 1)<=1:=by split<;>omega
   omega
  ·rw [aX rfl,(yD hx).1];have h2:=PA xs (some 0);rw [aX rfl] at h2;have h4:jh p [yY 0 o.g]=some 0:=rfl;rw [h4];have h5:bn p [yY 0 o.g]<=if p=some 0 then 0 else 1:=by
    show (if ((yY 0 o.g).k==1 && p==some (yY 0 o.g).cond)=true then 0 else 1)+0<=_
    by_cases hp:p=some 0
    ·rw [aX hp,hp,aX ah]
     exact lI _
    ·rw [aK hp];split<;>omega
   omega
theorem v_h (a:Int):v1 (g1 4 a)=0:=rfl
theorem v_t (a:Int):v1 (g1 7 a)=0:=rfl
theorem v_d (a:Int):v1 (g1 8 a)=0:=rfl
theorem agI (a b:Int):v1 (fL a b)=1:=rfl
theorem alR (g:Gt):vN (dec g)<=6:=by
 cases h0:(g.k==10)
 ·cases h1:(g.k==11)
  ·cases h2:(g.k==12)
   ·rw [FJ h0 h1 h2,iB,qQ];unfold v1;rw [aK (sU h2)];split<;>omega
   ·rw [Gs h0 h1 h2];simp only [nY,lN,iB,qQ,v_h,v_t,v_d,agI];omega
  ·rw [xH h0 h1];simp only [iB,qQ,agI];omega
 ·rw [Gq h0];simp only [iB,qQ,v_h,agI];omega
theorem Zb:∀xs:List Oq,vN (ai (aP xs))<=6*np xs
 |[]=>by show 0<=_;omega
 |o::xs=>by
  have e:aP (o::xs)=jl o++aP xs:=rfl;have ih:=Zb xs;rw [e,bJ,fU,np]
  cases hx:isX o
  ·rw [aK ag];have h1:vN (ai (jl o))<=6:=by
    unfold jl
    cases h:(o.k==1)
    ·rw [aK ag];split
     ·exact lJ _
     ·rw [iy h];exact lJ _
    ·rw [aX rfl,fT]
     exact alR _
   omega
  ·rw [aX rfl,(yD hx).1,iw rfl,iB,qQ,Pz (by show o.g.k<=8;rw [(yD hx).2];omega)];omega
theorem MN:∀xs:List Oq,aR (ai (aP xs))<=7100*np xs+xs.length
 |[]=>by show 0<=_;omega
 |o::xs=>by
  have e:aP (o::xs)=jl o++aP xs:=rfl;have ih:=MN xs;rw [e,bJ,eJ,np,ij]
  cases hx:isX o
  ·rw [aK ag];have h1:=(YF o).2.1;omega
  ·rw [aX rfl,(yD hx).1,iw rfl,cZ,di];have h2:dt (yY 0 o.g).g=1:=by
    show dt o.g=1;unfold dt;rw [(yD hx).2];rfl
   omega
def m1 (g:Gt):Nat:=if g.k=9 then 182 else dt g
def mN (gs:List Gt):Nat:=(gs.map m1).sum
theorem yE (g:Gt) (gs:List Gt):mN (g::gs)=m1 g+mN gs:=by unfold mN;simp
theorem Zc (a b:List Gt):mN (a++b)=mN a+mN b:=by unfold mN;rw [mf,Cc]
theorem PC:mN []=0:=rfl
theorem m_h (a:Int):m1 (g1 4 a)=1:=rfl
theorem m_t (a:Int):m1 (g1 7 a)=1000:=rfl
theorem m_d (a:Int):m1 (g1 8 a)=1000:=rfl
theorem agJ (a b:Int):m1 (fL a b)=182:=rfl
theorem xe {P:Prop} (h:P:=by
 unfold v1;rw [aK aa,aX aa]
 omega):P:=h
theorem alS (g:Gt):mN (dec g)<=dt g+600*v1 g:=by
 cases h0:(g.k==10)
 ·cases h1:(g.k==11)
  ·cases h2:(g.k==12)
   ·rw [FJ h0 h1 h2,yE];show m1 g+0<=_;unfold m1;split
    ·rename_i h9
     exact xe
    ·omega
   ·have hk:g.k=12:=dc.1 h2;rw [Gs h0 h1 h2];simp only [nY,lN,yE,PC,m_h,m_t,m_d,agJ];unfold v1;rw [aX hk];omega
  ·have hk:g.k=11:=dc.1 h1;rw [xH h0 h1];have hc:dt g=10:=wZ aa;simp only [yE,PC,agJ]
   exact xe
 ·have hk:g.k=10:=dc.1 h0;rw [Gq h0];simp only [yE,PC,m_h,agJ]
  exact xe
theorem MO:∀xs:List Oq,mN (ai (aP xs))<=aR (ai xs)+600*vN (ai xs)
 |[]=>by show 0<=_;omega
 |o::xs=>by
  have e:aP (o::xs)=jl o++aP xs:=rfl;have ih:=MO xs;rw [e,bJ,Zc,ew,eJ,fU];have h1:mN (ai (jl o))<=aR (ai [o])+600*vN (ai [o]):=by
   unfold jl
   cases h:(o.k==1)
   ·rw [aK ag];split
    ·exact lJ _
    ·rw [iy h];exact lJ _
   ·rw [aX rfl,fT,iw h,cZ,di,iB,qQ];have:=alS o.g;omega
  omega
def r1 (g:Gt):Nat:=if g.k=9 then 14 else if g.k=11 then 42 else dt g
def rN (gs:List Gt):Nat:=(gs.map r1).sum
theorem yF (g:Gt) (gs:List Gt):rN (g::gs)=r1 g+rN gs:=by unfold rN;simp
theorem PD (a b:List Gt):rN (a++b)=rN a+rN b:=by unfold rN;rw [mf,Cc]
theorem aqQ {gs:List Gt} (h:∀g∈gs,g.k=9):rN gs=14*gs.length:=by
 induction gs with
 |nil=>rfl
 |cons g gs ih=>
  rw [yF,ih fun x hx=>h x (pz _ hx),ij];unfold r1;rw [aX (h g (nV ..))];omega
theorem alT {gs:List Gt} (h:∀g∈gs,g.k=11):rN gs=42*gs.length:=by
 induction gs with
 |nil=>rfl
 |cons g gs ih=>
  rw [yF,ih fun x hx=>h x (pz _ hx),ij];have hk:=h g (nV ..);unfold r1;rw [aK aa,aX hk];omega
theorem alU {x:Gr} {mode:Int} {g:Gt} {p:List Int} (hm:may g x p=true):rN (Bg x mode g p).1<=m1 g:=by
 have hlen:=BJ x mode g p
 cases h1:(ar g.k==1)
 ·have hk:g.k=9:=by
   unfold may LU at hm;simp only [lF,yX] at hm;rcases hm.1.2 with h|h
   ·rw [h1] at h;cases h
   ·exact dc.1 h
  have Zo:m1 g=182:=by unfold m1;rw [aX hk]
  rw [Zo]
  cases YK:(mode==1)
  ·rw [EE YK,yr hm h1];rw [PD,alT (YI _ _ _ _ _)];have h2:=JF x g.a g.b 4 p;rw [yF];show 42*_+(14+0)<=182;omega
  ·rw [ED YK] at hlen |-;rw [Xy h1] at hlen |-;unfold lr at hlen |-;split
   ·rename_i hw;rw [aX hw] at hlen;rw [aqQ (YH _)];have TM:(TK (jz x (loc p g.a) (loc p g.b))).length<=10:=hlen;omega
   ·exact lJ _
 ·have e:(Bg x mode g p).1=[g1 g.k (loc p g.a)]:=by
   cases YK:(mode==1)
   ·rw [EE YK,yq hm h1]
   ·rw [ED YK,Xx h1]
  have ha:=dc.1 h1;have hk:g.k<=8:=by
   exact xd
  rw [e,yF];have e1:dt (g1 g.k (loc p g.a))=dt g:=rfl;have e2:(g1 g.k (loc p g.a)).k=g.k:=rfl;show r1 _+0<=_;unfold r1 m1;rw [e1,e2,aK aa,aK aa,aK aa]
  exact lI _
theorem Kj {x:Gr} {mode:Int}:∀(xs:List Oq) (now:List Int) (out:List Oq) (q:List Int),nH x mode xs now=some (out,q)->rN (ai out)<=mN (ai xs)
 |[],now,out,q,h=>by
  simp [nH] at h;obtain ⟨rfl,rfl⟩:=h
  exact lI _
 |o::r,now,out,q,h=>by
  unfold nH at h;rw [ew,Zc];split at h
  ·rename_i hk;split at h
   ·rename_i hm;rw [yR] at h;obtain ⟨⟨o2,q2⟩,h2,h3⟩:=h;have h4:=Kj r _ o2 q2 h2;simp only [Prod.mk.injEq] at h3;obtain ⟨rfl,rfl⟩:=h3;have h6:=alU (mode:=mode) hm;rw [bJ,AP,PD,iw hk,yE];show _+_<=m1 o.g+0+_;omega
   ·cases h
  ·rename_i hk;have hk':(o.k==1)=false:=sU hk
   split at h
   ·split at h
    ·rw [yR] at h;obtain ⟨⟨o2,q2⟩,h2,h3⟩:=h;have h4:=Kj r _ o2 q2 h2;simp only [Prod.mk.injEq] at h3;obtain ⟨rfl,rfl⟩:=h3;have e:ai [Hs now o]=[]:=iy hk';rw [ew,e,lN];omega
    ·cases h
   ·have h4:=Kj r _ out q h;omega
theorem agK {x:Gr} {xs:List Oq} {p:List Int} {mode:Int} {t:List Oq ×List Int} (h:wP x xs p mode=some t):rN (ai t.1)<=mN (ai xs):=by
 unfold wP at h;split at h
 ·exact Kj _ _ _ _ h
 ·cases h
theorem agL (x:Gr) (g:Gt):aR (iZ x g)<=r1 g:=by
 unfold iZ;split
 ·rename_i ho;split
  ·rename_i h1;have ha:=dc.1 h1;have hk:g.k<=8:=by
    exact xd
   rw [cZ,di];unfold r1;rw [aK aa,aK aa];omega
  ·rename_i h1;unfold eo at ho;have hk:g.k=9\/g.k=11:=by
    simp only [lF,yX] at ho;rcases ho.2 with h|h
    ·exact absurd h h1
    ·rcases h.2 with h|h
     ·exact .inl (dc.1 h)
     ·exact .inr (dc.1 h)
   have hf:=(Fl x (dec g)).1;rcases hk with hk|hk
   ·rw [FJ cG cG cG] at hf |-;unfold r1;rw [aX hk];simpa using hf
   ·rw [xH cG cG] at hf |-;unfold r1;rw [aK aa,aX hk];simpa using hf
 ·exact lJ _
theorem acm (x:Gr) (xs:List Oq):aR (ai (fM x xs))<=rN (ai xs):=by
 have key:∀xs:List Oq,aR (ai (xs.flatMap (BI x)))<=rN (ai xs):=by
  intro xs
  induction xs with
  |nil=>exact lI _
  |cons o xs ih=>
   rw [fK,bJ,ew,eJ,PD];have h1:aR (ai (BI x o))<=rN (ai [o]):=by
    unfold BI;split
    ·rename_i h;have:=agL x o.g;rw [fT,iw h,yF];show _<=r1 o.g+0;omega
    ·rename_i h;rw [iy (sU h)]
     exact lI _
   omega
 unfold fM;split
 ·exact key xs
 ·exact lJ _
theorem nR.few {x:Rt} {y:Gr} {mode:Int} {z:Cm} (h:nR x y mode (some z)) (hp:np x.ops<=6):(ai z.ops).length<=900000:=by
 unfold nR at h;split at h
 ·rename_i hc;obtain ⟨l1,l2,h1,h2⟩:=h;simp only [lF] at hc;have hv:=(Pk hc.1.1).2;have a1:=MN x.ops;have a2:=Zb x.ops;have a3:=PA x.ops none;rw [aK ag] at a3;have a4:=(qP h1).1;have a5:=agH h1;have a6:=MO l1
  cases hro:wP y (aP l1) (rY y (ai (aP l1))) mode with
  |none=>rw [hro] at h2;cases h2
  |some t=>
   rw [hro] at h2;simp only at h2;split at h2
   ·obtain ⟨h3,h4⟩:=h2
    cases h4
    have b1:=agK hro;have b2:=acm y t.1;have b3:=(qP h3).1;have b4:=jg (ai l2);have b5:=jg (ai (fM y t.1));simp only;split<;>omega
   ·cases h2
 ·cases h
end Go.Proofs.YtiajdbllccmokaaGreatDoor
