import Derived.Test.YtiajdbllccmokaaGreatDoorXbn
import Derived.Test.YtiajdbllccmokaaGreatDoorXbi
import Derived.Test.YtiajdbllccmokaaGreatDoorXbg
namespace Go.Proofs.YtiajdbllccmokaaGreatDoor
open Go.ChangeShapes Go.WideShapes Go.ChangeAt Go.RowKit Go.Deep Go.Proofs.Tryz
set_option linter.unusedVariables false
set_option linter.unusedSimpArgs false
set_option maxRecDepth 100000
set_option maxHeartbeats 16000000
def MM (N:Int) (xs:List Oq):Nat->Nat->List Oq->Prop
  |0,i,out=>i=0/\out=[]
  |s+1,i,out=>∃(j:Nat) (o:List Oq) (x:Oq),MM N xs s j o/\xs[j]?=some x/\
      (((x.k==1)=false/\i=j+1/\out=o++[x])\/
       ((x.k==1)=true/\i=cM xs x.cond (j+1)/\∃gs,yB N (ai ((xs.take i).drop j)) gs/\out=o++gB gs x.cond))
def Ty (N:Int) (xs out:List Oq):Prop:=∃s,MM N xs s xs.length out
theorem bJ (xs ys:List Oq):ai (xs++ys)=ai xs++ai ys:=by unfold ai;rw [zR,mf]
theorem fT (gs:List Gt) (c:Int):ai (gB gs c)=gs:=by
  unfold ai gB
  induction gs with
  |nil=>rfl
  |cons g gs ih=>
    simp [yY] at ih |-
    exact ih
theorem eJ (xs ys:List Gt):aR (xs++ys)=aR xs+aR ys:=by unfold aR;rw [mf,Cc]
theorem AL {xs:List Oq} {j i:Nat} (h:j<=i):aR (ai (xs.take j))+aR (ai ((xs.take i).drop j))=aR (ai (xs.take i)):=by
  rw [<-eJ,<-bJ];have e:xs.take j=(xs.take i).take j:=by rw [List.take_take,Nat.min_eq_left h]
  rw [e,qW]
theorem Kb {N:Int} {xs:List Oq}:∀{s i:Nat} {out:List Oq},MM N xs s i out->i<=xs.length/\aR (ai out)<=aR (ai (xs.take i))/\out.length<=aR (ai (xs.take i))+i
  |0,i,out,⟨h1,h2⟩=>by subst h1 h2;simp [ai,aR]
  |s+1,i,out,⟨j,o,x,h,hx,hs⟩=>by
    obtain ⟨h0,h1,h2⟩:=Kb h;have hj:=(gU.1 hx).1;rcases hs with ⟨hk,rfl,rfl⟩|⟨hk,hi,gs,hg,rfl⟩
    · have e:ai [x]=[]:=by unfold ai;simp [hk]
      rw [bJ,e,qZ,mT hx hk,lA];simp only [ij,uI];omega
    · have hle:=Ka hg
      have tS:=jg gs;have hji:j+1<=i:=by rw [hi];exact GK _ _ _
      have hil:i<=xs.length:=by rw [hi];exact zi _ _ _ aa
      have hc:=AL (xs:=xs) (j:=j) (i:=i) aa;rw [bJ,fT,eJ,lA,iW];omega
theorem qP {N:Int} {xs out:List Oq} (h:Ty N xs out):aR (ai out)<=aR (ai xs)/\out.length<=aR (ai xs)+xs.length:=by
  obtain ⟨s,hs⟩:=h;have:=Kb hs;rw [jt] at this
  exact this.2
theorem wY {xs:List Oq} {j i:Nat}:aR (ai ((xs.take i).drop j))<=aR (ai xs):=by
  by_cases h:j<=i
  · have h1:=AL (xs:=xs) h
    have h2:aR (ai (xs.take i))+aR (ai (xs.drop i))=aR (ai xs):=by rw [<-eJ,<-bJ,qW]
    omega
  · rw [uD fq]
    simp [ai,aR]
theorem AM:∀(xs:List Oq) (m:Nat),(aI xs).take (m*8)=aI (xs.take m)
  |[],m=>ag
  |x::xs,0=>ag
  |x::xs,m+1=>by
    have ih:=AM xs m;rw [show (m+1)*8=m*8+8 by omega];simp only [aI,fK,uF] at ih |-;rw [Nu,show (Oq.cells x).length=8 from rfl,lE (by show 8<=_;omega),show m*8+8 - 8=m*8 by omega,ih]
theorem AO:∀(xs:List Oq) (m:Nat),(aI xs).drop (m*8)=aI (xs.drop m)
  |[],m=>ag
  |x::xs,0=>ag
  |x::xs,m+1=>by
    have ih:=AO xs m;rw [show (m+1)*8=m*8+8 by omega];simp only [aI,fK,Iq] at ih |-;rw [Nv,show (Oq.cells x).length=8 from rfl,uD (by show 8<=_;omega),lN,show m*8+8 - 8=m*8 by omega,ih]
theorem acb {w:World} {B n m:Nat} {A:OA} {xs:List Oq} (h:Rd w B 8 A n (aI xs)) (hm:m<=n):Rd w B 8 A m (aI (xs.take m)):=by
  rw [<-AM]
  exact zf h hm
theorem YD {w:World} {B n m b o:Nat} {xs:List Oq} (h:Rd w B 8 (some ⟨b,o,none⟩) n (aI xs)) (hm:m<=n):Rd w B 8 (some ⟨b,o+m*8,none⟩) (n - m) (aI (xs.drop m)):=by
  rw [<-AO];refine ⟨?_,fun h0=>?_⟩
  · rw [lU,h.1];omega
  · obtain ⟨b',o',e,hb,hc⟩:=h.2 aa
    injection e with e;injection e with e1 e2;subst e1 e2;refine ⟨b,o+m*8,rfl,hb,fun j u hu=>?_⟩;rw [xw] at hu;have:=hc _ _ hu;rw [Iy]
    exact this
theorem ll (A:OA) (n c:Nat) (xs:List Oq) (N:Int) (w:World) (h:Rd w w.heap.size 8 A n (aI xs)) (hn:n<=200000000000) (yc:n<=c) (hco:aR (ai xs)<=40000000000):
    Calls prog 46 #[.slice A n c,iI N] w fun e w'=>(∃(v:Value) (out:List Oq),e=.returned v/\Ty N xs out/\w'.ownsRow w.heap.size 56 8 v out.length (aI out))/\Ext w w':=by
  have dB:=hY (h.len Oq.aE aa);have HR:=hY h;have HCO:=hY hco;clear h hco;go_enter func46,ntmps46;have nN:Hid ((w.alloc (cO #[] 56)).ownsRow w.heap.size 56 8 (.slice (some ⟨w.heap.size,0,none⟩) 0 0) 0 (aI [])/\Ext w (w.alloc (cO #[] 56))):=⟨aJ w w _ 8 (xZ _),(xZ w).alloc _⟩;have HS0:Hid (MM N xs 0 0 []):=⟨rfl,rfl⟩;go_wp2
  go_loopw [5,6] (fun ov iv wr=>∃(i s:Nat) (out:List Oq) (Ao:OA) (co:Nat),i<=n/\iv=iI i/\ov=.slice Ao out.length co/\Hid (MM N xs s i out)/\Hid (wr.ownsRow w.heap.size 56 8 (.slice Ao out.length co) out.length (aI out)/\Ext w wr)) (fun _ i _=>n - (intOf i).toNat)
  case atStart=>exact ⟨0,0,[],_,0,lJ _,rfl,rfl,HS0,nN⟩
  case round=>
    clear nN HS0;obtain ⟨i,s,out,Ao,co,hi,rfl,rfl,HS,HO⟩:=hrel;have hbd:=(Kb HS.u).2.2;have hcb:aR (ai (xs.take i))<=40000000000:=by
      have h1:=wY (xs:=xs) (j:=0) (i:=i);have h2:=HCO.u;rw [xE] at h1;omega
    by_cases bh:i<n
    · obtain ⟨b,o,x,rfl,hb,hx,h0,h1,h2,h3,h4,h5,h6,h7⟩:=re (HR.u.ext HO.u.2) bh
      have bS:=hY bh;have tG:=hY hx;have dP:=hY (wC i aa);obtain ⟨lo,rr⟩:=ex (out.length);have DU:=hY rr;rw [rr] at hbd |-;clear hx rr
      cases hk:(x.k==1)
      · have iG:(x.k !=1)=true:=by simp [bne,hk]
        have QX:Hid (wr.ownsRow w.heap.size 56 8 (.slice Ao lo co) lo (aI out)):=by have h9:=HO.u.1;rw [DU.u] at h9;exact h9
        have rA:Hid (MM N xs (s+1) (i+1) (out++[x])):=⟨i,out,x,HS.u,tG.u,.inl ⟨hk,rfl,rfl⟩⟩;go_wp2_with (at_builtin;refine xI (w0:=w) rfl _ _ rfl _ _ out rfl QX.u HO.u.2 x _ _ rfl rfl aa ?_;intro v9 w9 t1 t2 t3 t4;obtain ⟨A9,c9,rfl,-⟩:=au t1;have kN:=hY (lQ t1 t2);clear t1 t2 t3 t4)
        go_roundw
        case rel=>exact ⟨i+1,s+1,out++[x],A9,c9,oM bS.u,by first|rfl|rw [dP.u.1]|rw [dP.u.2],by rw [lA,DU.u];rfl,rA,by rw [lA,DU.u];exact kN⟩
        case measure=>simp [intOf,dP.u.2];have:=bS.u;omega
      · have iG:(x.k !=1)=false:=by simp [bne,hk]
        have tS:=CB tG.u hk;have HKB:Hid (i+1<=cM xs x.cond (i+1)/\cM xs x.cond (i+1)<=n):=⟨GK _ _ _,by have h9:=zi xs x.cond (i+1) (oM dB.u);rw [dB.u] at h9;exact h9⟩;obtain ⟨En,hK⟩:=ex (cM xs x.cond (i+1));have HKR:=hY hK;rw [hK] at tS HKB;have py:=HKB;have HRG:=hY (HR.u.ext HO.u.2);clear hK HKB;go_wp2_with fail;refine (xQ (some ⟨b,o,none⟩) n c xs (i:Int) _ HRG.u aa ⟨aa,aa⟩).mono ?_;rintro e w4 ⟨rfl,fe⟩;rw [tS];have nB:Hid (w4.ownsRow w.heap.size 56 8 (.slice Ao out.length co) out.length (aI out)/\Ext w w4):=⟨aq HO.u.1 fe,HO.u.2.trans fe⟩;clear fe HO HRG h0 h1 h2 h3 h4 h5 h6 h7 tS;obtain ⟨wr,hwr⟩:∃W:World,W=w4:=⟨_,rfl⟩;subst hwr;have HO:=nB;clear nB;have HK:Hid (∀w',Ext w w'->w'.cell? (aA b (o+i*8+7))=some (iI x.cond)):=fun w' rF=>by
          obtain ⟨b2,o2,y,he,-,hy,-,-,-,-,-,-,-,y7⟩:=re (HR.u.ext rF) bS.u;simp only [fW,iO] at he;obtain ⟨rfl,rfl,-⟩:=he;rw [tG.u] at hy
          cases hy
          exact y7
        have hKn:=py.u;have HRS:Hid (∀w',Ext w w'->Rd w' w'.heap.size 8 (some ⟨b,o+i*8,none⟩) (En - i) (aI ((xs.take En).drop i))):=fun w' rF=>YD (acb (HR.u.ext rF) aa) aa
        have Fz:(i:Int)<=(En:Int):=aa
        have aje:i<=En:=aa
        have Vu:(En:Int)<=(c:Int):=aa
        have axv:En<=c:=aa
        have NB:(0:Int)<=(i:Int):=aa
        have rE:(0:Int)<=(En:Int):=aa
        have hci:¬(c=i):=aa
        have hKb:En<=200000000000:=aa
        clear hKn;go_upto_region 8 with fail;refine dm (S:=(fun w'=>w'.cell? (aA b (o+i*8+7))=some (iI x.cond))) af (HK.u _ HO.u.2.drew) (fun ay4=>?_);refine tq 0 ?_;refine tq 1 ?_;refine tq 2 ?_;refine tq 3 ?_;refine tq 4 ?_;refine tq 6 ?_;refine tq 8 ?_;refine tq 9 ?_;refine tq 10 ?_;refine tq 11 ?_;refine tq 12 ?_;refine o1 5 fun K hK=>?_
        go_simp;have hrs:=HRS.u _ HO.u.2.drew;refine (ik _ (En - i) _ ((xs.take En).drop i) _ hrs aa).mono ?_;rintro e w5 ⟨v5,rfl,jM,cN⟩;obtain ⟨A5,c5,rfl,Fx⟩:=au jM;have iN:Hid (Ext wr w5):=Ext.trans (xZ wr).drew cN;have Ay:=hY Fx;clear hrs jM Fx cN;refine ov hK (HK.u _ (HO.u.2.trans iN.u)) fun ay4=>?_
        refine o1 7 fun K hK=>?_
        go_simp;refine (qO A5 _ c5 (ai ((xs.take En).drop i)) N _ Ay.u (lK wY HCO.u)).mono ?_;rintro e w6 ⟨⟨v6,gs,rfl,agp,px⟩,mC⟩;obtain ⟨A6,c6,rfl,Mp⟩:=au px;have dG:Hid (Ext wr w6):=iN.u.trans mC;have rp:=hY Mp;have Zk:=hY agp;have df:gs.length<=40000000000:=by have h1:=Ka agp;have h2:=jg gs;have h3:=wY (xs:=xs) (j:=i) (i:=En);have h4:=HCO.u;omega
        clear px Mp mC agp Ay iN;refine ov hK (HK.u _ (HO.u.2.trans dG.u)) fun ay4=>?_
        refine o1 13 fun K hK=>?_
        go_simp;refine (kq A6 gs.length c6 gs x.cond _ rp.u aa).mono ?_;rintro e w7 ⟨v7,rfl,Ai,gJ⟩;obtain ⟨A7,c7,rfl,BB⟩:=au Ai;have eQ:Hid (Ext wr w7):=dG.u.trans gJ;have rO:=hY BB;have Ua:=hY (iW gs x.cond);clear Ai BB gJ rp dG;refine ov hK (HK.u _ (HO.u.2.trans eQ.u)) fun ay4=>?_
        refine o1 14 fun K hK=>?_
        have fF:=hY (aq HO.u.1 eQ.u);refine Bk (w0:=w) ah _ _ ah (.slice Ao lo co) lo out ah (by have h9:=fF.u;rw [DU.u] at h9;exact h9) (HO.u.2.trans eQ.u) A7 _ c7 _ ah rO.u (oM Ua.u) ?_;intro v9 w9 g1 g2 g3 g4;obtain ⟨A9,c9,rfl,-⟩:=au g1;have kN:Hid (w9.ownsRow w.heap.size 56 8 (.slice A9 (lo+(gB gs x.cond).length) c9) (lo+(gB gs x.cond).length) (aI (out++gB gs x.cond))/\Ext w w9):=⟨g1,g2⟩;clear g1 g2 g3 g4 fF rO eQ;refine ov hK (HK.u _ kN.u.2) fun ay4=>?_
        refine tq 15 ?_;refine dn ?_;clear ay4 HO;have rA:Hid (MM N xs (s+1) En (out++gB gs x.cond)):=⟨i,out,x,HS.u,tG.u,.inr ⟨hk,HKR.u.symm,gs,Zk.u,rfl⟩⟩;go_wp2;go_roundw
        case rel=>exact ⟨En,s+1,out++gB gs x.cond,A9,c9,oM py.u,rfl,by rw [lA,DU.u],rA,by rw [lA,DU.u];exact kN⟩
        case measure=>simp [intOf];have:=py.u;omega
    · have zh:i=n:=by omega
      subst zh;have HV:Hid (Ty N xs out):=⟨s,by rw [dB.u];exact HS.u⟩;go_wp2;go_ret
      exact ⟨⟨_,out,rfl,HV.u,HO.u.1⟩,HO.u.2⟩
theorem cZ (g:Gt) (gs:List Gt):aR (g::gs)=dt g+aR gs:=by unfold aR;simp
theorem di:aR []=0:=rfl
theorem ang {k a b c a' b' c':Int}:dt ⟨k,a,b,c⟩=dt ⟨k,a',b',c'⟩:=rfl
theorem Px (a:Int):dt (g1 4 a)=1:=rfl
theorem agq (a:Int):dt (g1 7 a)=1000:=rfl
theorem agr (a:Int):dt (g1 8 a)=1000:=rfl
theorem yC (a b:Int):dt (fL a b)=10:=rfl
theorem wZ {g:Gt} (h:9<=g.k/\g.k<=12):dt g=10:=by
 refine Qc aj aj ?_;unfold ar;split
 ·omega
 ·split
  ·omega
  ·split<;>omega
theorem YE (g:Gt):aR (dec g)<=710*dt g/\aR (dec g)<=7100:=by
 have hp:=uh g;have hl:=KY g
 cases h0:(g.k==10)
 ·cases h1:(g.k==11)
  ·cases h2:(g.k==12)
   ·rw [FJ h0 h1 h2,cZ,di];omega
   ·have hc:dt g=10:=wZ (oM (dc.1 h2));rw [Gs h0 h1 h2,hc];simp only [nY,lN,cZ,di,Px,agq,agr,yC];omega
  ·have hc:dt g=10:=wZ (oM (dc.1 h1));rw [xH h0 h1,hc];simp only [cZ,di,yC];omega
 ·have hc:dt g=10:=wZ (oM (dc.1 h0));rw [Gq h0,hc];simp only [cZ,di,yC,Px];omega
theorem ew (o:Oq) (xs:List Oq):ai (o::xs)=ai [o]++ai xs:=bJ [o] xs
theorem iw {o:Oq} (h:(o.k==1)=true):ai [o]=[o.g]:=by unfold ai;simp [h]
theorem iy {o:Oq} (h:(o.k==1)=false):ai [o]=[]:=by unfold ai;simp [h]
theorem YF (o:Oq):aR (ai (jl o))<=710*aR (ai [o])/\aR (ai (jl o))<=7100/\(jl o).length<=15:=by
 unfold jl
 cases h:(o.k==1)
 ·rw [aK ag,iy h];split
  ·simp [ai,aR]
  ·rw [iy h];simp [aR]
 ·rw [aX rfl,fT,iw h,cZ,di,iW];have:=YE o.g;have:=mA o.g;omega
theorem tR:∀xs:List Oq,aR (ai (aP xs))<=710*aR (ai xs)/\aR (ai (aP xs))<=7100*xs.length/\(aP xs).length<=15*xs.length
 |[]=>by simp [aP,ai,aR]
 |o::xs=>by
  have h1:=YF o;have h2:=tR xs;have e:aP (o::xs)=jl o++aP xs:=rfl;rw [e,bJ,ew,eJ,eJ,lA,ij];omega
theorem YG {gs:List Gt} (h:∀g∈gs,9<=g.k/\g.k<=12):aR gs=10*gs.length:=by
 induction gs with
 |nil=>rfl
 |cons g gs ih=>
  rw [cZ,wZ (h g (nV ..)),ih (fun x hx=>h x (pz _ hx)),ij];omega
theorem YH:∀way:List Int,∀g∈TK way,g.k=9
 |[],g,h=>by simp [TK] at h
 |[_],g,h=>by simp [TK] at h
 |[a,b],g,h=>by simp [TK,fL] at h;subst h;rfl
 |a::b::c::r,g,h=>by
  have ih:=YH (b::c::r);unfold TK at h;rcases mM.1 h with h|h
  ·rcases qR.1 h with h|h
   ·subst h;rfl
   ·exact ih g h
  ·rcases qR.1 h with h|h
   ·subst h;rfl
   ·exact ih g h
theorem YI (x:Gr) (a b:Int):∀(f:Nat) (now:List Int),∀g∈(wH x a b f now).1,g.k=11
 |0,_,g,h=>by simp [wH] at h
 |f+1,now,g,h=>by
  rw [wH] at h;split at h
  ·rcases qR.1 h with h|h
   ·subst h;rfl
   ·exact YI x a b f _ g h
  ·simp at h
theorem YJ {x:Gr} {mode:Int} {g:Gt} {p:List Int} (hm:may g x p=true):aR (Bg x mode g p).1<=10*dt g:=by
 have hp:=uh g;have hlen:=BJ x mode g p
 cases h1:(ar g.k==1)
 ·have hk:g.k=9:=by
   unfold may LU at hm;simp only [lF,yX] at hm;rcases hm.1.2 with h|h
   ·rw [h1] at h;cases h
   ·exact dc.1 h
  have hc:dt g=10:=wZ aa;have iG:∀h∈(Bg x mode g p).1,9<=h.k/\h.k<=12:=by
   intro h hh
   cases YK:(mode==1)
   ·rw [EE YK,yr hm h1] at hh;rcases mM.1 hh with hh|hh
    ·have:=YI _ _ _ _ _ h hh;omega
    ·simp at hh;subst hh;show (9:Int)<=9/\(9:Int)<=12;omega
   ·rw [ED YK,Xy h1] at hh;unfold lr at hh;split at hh
    ·have:=YH _ h hh;omega
    ·simp at hh
  rw [YG iG,hc];omega
 ·have e:(Bg x mode g p).1=[g1 g.k (loc p g.a)]:=by
   cases YK:(mode==1)
   ·rw [EE YK,yq hm h1]
   ·rw [ED YK,Xx h1]
  rw [e,cZ,di];have:dt (g1 g.k (loc p g.a))=dt g:=rfl;omega
theorem AP (c:Int) (gs:List Gt):ai (gs.map (ZH c))=gs:=by
 induction gs with
 |nil=>rfl
 |cons g gs ih=>
  rw [KB,ew,ih,iw rfl];rfl
theorem Kc {x:Gr} {mode:Int}:∀(xs:List Oq) (now:List Int) (out:List Oq) (q:List Int),nH x mode xs now=some (out,q)->aR (ai out)<=10*aR (ai xs)/\out.length<=10*xs.length
 |[],now,out,q,h=>by
  simp [nH] at h;obtain ⟨rfl,rfl⟩:=h;simp [ai,aR]
 |o::r,now,out,q,h=>by
  unfold nH at h;rw [ew,eJ,ij];split at h
  ·rename_i hk;split at h
   ·rename_i hm;rw [yR] at h;obtain ⟨⟨o2,q2⟩,h2,h3⟩:=h;obtain ⟨h4,h5⟩:=Kc r _ o2 q2 h2;simp only [Prod.mk.injEq] at h3;obtain ⟨rfl,rfl⟩:=h3;have h6:=YJ (mode:=mode) hm;have h7:=BJ x mode o.g now;rw [bJ,AP,eJ,iw hk,cZ,di,lA,jk];omega
   ·cases h
  ·rename_i hk;have hk':(o.k==1)=false:=sU hk
   split at h
   ·split at h
    ·rw [yR] at h;obtain ⟨⟨o2,q2⟩,h2,h3⟩:=h;obtain ⟨h4,h5⟩:=Kc r _ o2 q2 h2;simp only [Prod.mk.injEq] at h3;obtain ⟨rfl,rfl⟩:=h3;have e:ai [Hs now o]=[]:=iy hk';rw [ew,e,iy hk',lN,di,ij];omega
    ·cases h
   ·obtain ⟨h4,h5⟩:=Kc r _ out q h;omega
theorem YL {x:Gr} {xs:List Oq} {p:List Int} {mode:Int} {out:List Oq} {q:List Int} (h:wP x xs p mode=some (out,q)):aR (ai out)<=10*aR (ai xs)/\out.length<=10*xs.length:=by
 unfold wP at h;split at h
 ·exact Kc _ _ _ _ h
 ·cases h
theorem YM (x:Gr) (g:Gt):aR (zo x g)<=14/\(zo x g).length<=5:=by
 unfold zo;split
 ·simp [cZ,di,yC]
 ·simp [cZ,di,yC,Px]
theorem Fl (x:Gr):∀gs:List Gt,aR (gs.flatMap (zo x))<=14*gs.length/\(gs.flatMap (zo x)).length<=5*gs.length
 |[]=>by simp [aR]
 |g::gs=>by
  have h1:=YM x g;have h2:=Fl x gs;rw [fK,eJ,lA,ij];omega
theorem Tz (x:Gr) (g:Gt):aR (iZ x g)<=5*dt g/\(iZ x g).length<=15:=by
 have hp:=uh g;unfold iZ;split
 ·rename_i ho;split
  ·rw [cZ,di];simp;omega
  ·rename_i h1;unfold eo at ho;have hk:g.k=9\/g.k=11:=by
    simp only [lF,yX] at ho;rcases ho.2 with h|h
    ·exact absurd h h1
    ·rcases h.2 with h|h
     ·exact .inl (dc.1 h)
     ·exact .inr (dc.1 h)
   have hc:dt g=10:=wZ aa;have hd:(dec g).length<=3:=by
    rcases hk with hk|hk
    ·rw [FJ cG cG cG];simp
    ·rw [xH cG cG];simp
   have:=Fl x (dec g);omega
 ·rw [di];simp
theorem alB (x:Gr) (o:Oq):aR (ai (BI x o))<=5*aR (ai [o])/\(BI x o).length<=15:=by
 unfold BI;split
 ·rename_i h;have:=Tz x o.g;rw [fT,iw h,cZ,di,iW];omega
 ·rename_i h;rw [iy (sU h),di];simp
theorem Rl (x:Gr) (xs:List Oq):aR (ai (fM x xs))<=5*aR (ai xs)/\(fM x xs).length<=15*xs.length:=by
 have key:∀xs:List Oq,aR (ai (xs.flatMap (BI x)))<=5*aR (ai xs)/\(xs.flatMap (BI x)).length<=15*xs.length:=by
  intro xs
  induction xs with
  |nil=>simp [ai,aR]
  |cons o xs ih=>
   have h1:=alB x o;rw [fK,bJ,ew,eJ,eJ,lA,ij];omega
 unfold fM;split
 ·exact key xs
 ·simp [ai,aR]
def nR (x:Rt) (y:Gr) (mode:Int) (r:Option Cm):Prop:=
 if (Nc x && hU y && decide (x.n<=y.n))=true then
  ∃l1 l2,Ty y.n (aP x.ops) l1/\(match wP y (aP l1) (rY y (ai (aP l1))) mode with
   |none=>r=none
   |some t=>if gO y t.1=true then Ty y.n (fM y t.1) l2/\r=some ⟨y.n,x.bits,if Df y (ai l2)=true then l2 else fM y t.1,rY y (ai (aP l1)),t.2⟩ else r=none)
 else r=none
def acd (w:World) (r:Option Cm) (e:Ending) (w':World):Prop:=match r with
 |none=>e=.returned (.tuple #[.agg jG,.bool false])
 |some z=>∃(A1 A2 A3:OA) (c1 c2 c3 b1:Nat),e=.returned (.tuple #[.agg #[iI z.n,iI z.bits,.slice A1 z.ops.length c1,.slice A2 z.st.length c2,.slice A3 z.fin.length c3],.bool true])/\w'.ownsRow w.heap.size 56 8 (.slice A1 z.ops.length c1) z.ops.length (aI z.ops)/\
   w'.ownsRow w.heap.size 3 1 (.slice A2 z.st.length c2) z.st.length (aG z.st)/\w'.ownsRow w.heap.size 3 1 (.slice A3 z.fin.length c3) z.fin.length (aG z.fin)/\(∀g,(Value.slice A2 z.st.length c2).ownBlock=some g->g<b1)/\∀g,(Value.slice A3 z.fin.length c3).ownBlock=some g->b1<=g
theorem bG {w:World} {g t:Nat} {a b c d e:Value} (h:ay w g t #[a,b,c,d,e]):(w.cell? (aA g 0)=some a/\w.cell? (aA g 1)=some b/\w.cell? (aA g 2)=some c/\w.cell? (aA g 3)=some d/\w.cell? (aA g 4)=some e)/\w.frozen? (aA g 0)=false/\w.frozen? (aA g 1)=false/\w.frozen? (aA g 2)=false/\w.frozen? (aA g 3)=false/\w.frozen? (aA g 4)=false:=
 ⟨⟨h.cell 0,h.cell 1,h.cell 2,h.cell 3,h.cell 4⟩,h.frozen 0,h.frozen 1,h.frozen 2,h.frozen 3,h.frozen 4⟩
def ic (w:World) (g:Nat) (a b c d e:Value):World:=((((w.setCell (aA g 0) a).setCell (aA g 1) b).setCell (aA g 2) c).setCell (aA g 3) d).setCell (aA g 4) e
theorem ay.ic {w:World} {g t:Nat} {z0 z1 z2 z3 z4:Value} (h:ay w g t #[z0,z1,z2,z3,z4]) (a b c d e:Value):ay (ic w g a b c d e) g t #[a,b,c,d,e]:=((((h.ba 0 a).ba 1 b).ba 2 c).ba 3 d).ba 4 e
theorem iA {w0 w:World} (h:Ext w0 w) {g:Nat} (hg:w0.heap.size<=g) (a b c d e:Value):Ext w0 (ic w g a b c d e):=
 ((((h.setCell (p:=(aA g 0)) hg a).setCell (p:=(aA g 1)) hg b).setCell (p:=(aA g 2)) hg c).setCell (p:=(aA g 3)) hg d).setCell (p:=(aA g 4)) hg e
theorem mL {w:World} {B e s n g t:Nat} {v:Value} {xs:List Value} {z0 z1 z2 z3 z4:Value} (h:w.ownsRow B e s v n xs) (h':ay w g t #[z0,z1,z2,z3,z4]) (he:e≠t) (a b c d f:Value):(ic w g a b c d f).ownsRow B e s v n xs:=
 fI (fI (fI (fI (fI h h' he 0 a) (h'.ba 0 a) he 1 b) ((h'.ba 0 a).ba 1 b) he 2 c) (((h'.ba 0 a).ba 1 b).ba 2 c) he 3 d) ((((h'.ba 0 a).ba 1 b).ba 2 c).ba 3 d) he 4 f
theorem Kd (x:Gr) (mode:Int):∀(xs:List Oq) (now:List Int),perm now=true->∀t,nH x mode xs now=some t->t.2.length=now.length
 |[],now,_,t,h=>by simp [nH] at h;subst h;rfl
 |o::r,now,hp,t,h=>by
  unfold nH at h;split at h
  ·split at h
   ·rw [yR] at h;obtain ⟨t2,h2,rfl⟩:=h;have h3:=QT (x:=x) (mode:=mode) (g:=o.g) hp;rw [Kd x mode r _ h3.1 t2 h2,h3.2]
   ·cases h
  ·split at h
   ·split at h
    ·rw [yR] at h;obtain ⟨t2,h2,rfl⟩:=h
     exact Kd x mode r now hp t2 h2
    ·cases h
   ·exact Kd x mode r now hp t h
theorem ags {x:Gr} {xs:List Oq} {p:List Int} {mode:Int} {t:List Oq ×List Int} (h:wP x xs p mode=some t):(1<=p.length/\p.length<=4)/\t.2.length=p.length/\(p.length:Int)=x.n:=by
 unfold wP at h;split at h
 ·rename_i hc;rw [lF] at hc;have hl:=hc.1;unfold lay at hl;simp only [lF] at hl;have hp:=hl.1.2;have h9:=Kd x mode xs p hp t h;have h8:=yp.1 hp
  exact ⟨h8.1,h9,dc.1 hl.2⟩
 ·cases h
theorem adF {x:Gr} (h:hU x=true):1<=x.n/\x.n<=4:=by
 unfold hU conn at h;simp only [lF,lu] at h;omega
theorem nR.bd {x:Rt} {y:Gr} {mode:Int} {z:Cm} (h:nR x y mode (some z)):(1<=z.n/\z.n<=4)/\z.ops.length<=40000000000/\z.st.length<=4/\z.fin.length<=4:=by
 unfold nR at h;split at h
 ·rename_i hc;obtain ⟨l1,l2,h1,h2⟩:=h;simp only [lF] at hc;have hv:=(Pk hc.1.1).2;have a1:=tR x.ops;have a2:=qP h1;have a3:=tR l1
  cases hro:wP y (aP l1) (rY y (ai (aP l1))) mode with
  |none=>rw [hro] at h2;cases h2
  |some t=>
   rw [hro] at h2;simp only at h2;split at h2
   ·obtain ⟨h3,h4⟩:=h2
    cases h4
    obtain ⟨t1,t2⟩:=t;have b1:=YL hro;have b2:=Rl y t1;have b3:=qP h3;have b4:=ags hro;have b5:=b4.2.2;have b6:=b4.2.1;have b7:=b4.1;refine ⟨by show 1<=y.n/\y.n<=4;omega,?_,b4.1.2,by show t2.length<=4;have b8:t2.length=(rY y (ai (aP l1))).length:=b6;omega⟩;simp only at b2 b3 |-;split<;>omega
   ·cases h2
 ·cases h
structure ace (w W:World) (x:Rt) (A1:OA) (c1:Nat) (y:Gr) (A2:OA) (le c2:Nat):Prop where
 r:ay W w.heap.size 26 #[iI x.n,iI x.kb,iI x.bits,.slice A1 x.ops.length c1]
 g:ay W (w.heap.size+1) 42 #[iI y.n,.slice A2 le c2]
 z:ay W (w.heap.size+1+1) 29 jG
 x_:Ext w W
theorem ace.ext {w W W':World} {x:Rt} {y:Gr} {A1 A2:OA} {c1 c2 le:Nat} (h:ace w W x A1 c1 y A2 le c2) (hx:Ext W W'):ace w W' x A1 c1 y A2 le c2:=⟨h.r.ext hx,h.g.ext hx,h.z.ext hx,h.x_.trans hx⟩
theorem acf (y:Gr) (gs:List Gt) (hn:1<=y.n/\y.n<=4):(rY y gs).length<=4:=by
 have key:∀(ps:List (List Int)) (s:List Int ×Int),s.1.length<=4->(∀p∈ps,p.length<=4)->(ps.foldl (tO y gs) s).1.length<=4:=by
  intro ps
  induction ps with
  |nil=>exact fun s h _=>h
  |cons p ps ih=>
   intro s h hp;refine ih _ ?_ (fun q hq=>hp q (pz _ hq));unfold tO;split
   ·exact hp p (nV ..)
   ·exact h
 refine key _ _ ag (fun p hp=>?_);have h9:=JN _ _ p hp;simp at h9;omega
theorem nK {P:Prop} (h:P:=by
 go_wp2_with fail;refine bR (v:=.tuple #[.agg jG,.bool false]) ?_ rfl ?_
 rotate_left
 ·exact ⟨⟨none,HV9.u,rfl⟩,mJ.u⟩
 ·exact bF rfl _ _ _ _ _ _ _ rfl rfl Yu.u underlying29 rfl af):P:=h
theorem uC (A1:OA) (c1:Nat) (x:Rt) (u:Value) (y:Gr) (mode:Int) (w:World) (h1:Rd w w.heap.size 8 A1 x.ops.length (aI x.ops)) (hn:x.ops.length<=2000000000000) (hu:eR w w.heap.size u y) (hl:y.es.length<=2000000000000):
  Calls prog 26 #[.agg #[iI x.n,iI x.kb,iI x.bits,.slice A1 x.ops.length c1],u,iI mode] w fun e w'=>(∃r,nR x y mode r/\acd w r e w')/\Ext w w':=by
 have HU:=hY hu;obtain ⟨A2,c2,rfl,hes⟩:=hu;obtain ⟨le,hle⟩:=ex (y.es.length);rw [hle] at HU hes |-;have Zj:=hY hle;have oF:le<=2000000000000:=aa
 have mI:=hY h1;have zw:Hid (ace w (((w.alloc (cO #[iI x.n,iI x.kb,iI x.bits,.slice A1 x.ops.length c1] 26)).alloc (cO #[iI y.n,.slice A2 le c2] 42)).alloc (cO jG 29)) x A1 c1 y A2 le c2):=⟨((ay.new w _ _).alloc _).alloc _,(ay.newAt ag).alloc _,ay.newAt ag,by unfold Ext;exact xx⟩;clear h1 hes hle hl;go_enter func26,ntmps26;go_upto_region 1 with fail;generalize (((w.alloc (cO #[iI x.n,iI x.kb,iI x.bits,.slice A1 x.ops.length c1] 26)).alloc (cO #[iI y.n,.slice A2 le c2] 42)).alloc (cO jG 29))=W1 at*
 obtain ⟨⟨r0,r1,r2,r3⟩,-⟩:=aB zw.u.r;have alC:=hY (mI.u.ext zw.u.x_);go_wp2_with fail;refine (pV A1 c1 x _ alC.u hn).mono ?_;rintro e w2 ⟨rfl,bH⟩;have rA:=hY (zw.u.ext bH);clear zw alC bH r0 r1 r2 r3;obtain ⟨⟨g0,g1⟩,-⟩:=bt rA.u.g
 cases hvr:Nc x
 ·skip;obtain ⟨⟨z0,z1,z2,z3,z4⟩,f0,f1,f2,f3,f4⟩:=bG rA.u.z;have Yu:=hY (rA.u.z.ic (iI 0) (iI 0) (nS) (nS) (nS));have mJ:=hY (iA rA.u.x_ (g:=w.heap.size+1+1) aa (iI 0) (iI 0) (nS) (nS) (nS));have HV9:Hid (nR x y mode none):=by unfold Hid nR;rw [hvr];rfl
  exact nK
 have QS:=hY (ka HU.u rA.u.x_);go_wp2_with fail;refine (dJ _ y _ QS.u gf).mono ?_;rintro e w3 ⟨rfl,bT⟩;have zx:=hY (rA.u.ext bT);clear rA QS bT g0 g1;obtain ⟨⟨g0,g1⟩,-⟩:=bt zx.u.g;obtain ⟨⟨r0,r1,r2,r3⟩,-⟩:=aB zx.u.r
 cases BH:hU y
 ·skip;obtain ⟨⟨z0,z1,z2,z3,z4⟩,f0,f1,f2,f3,f4⟩:=bG zx.u.z;have Yu:=hY (zx.u.z.ic (iI 0) (iI 0) (nS) (nS) (nS));have mJ:=hY (iA zx.u.x_ (g:=w.heap.size+1+1) aa (iI 0) (iI 0) (nS) (nS) (nS));have HV9:Hid (nR x y mode none):=by unfold Hid nR;rw [hvr,BH];rfl
  exact nK
 by_cases hnn:x.n<=y.n
 rotate_left
 ·have Ba:decide (x.n>y.n)=true:=aj
  have Fs:decide (y.n<x.n)=true:=aj
  obtain ⟨⟨z0,z1,z2,z3,z4⟩,f0,f1,f2,f3,f4⟩:=bG zx.u.z;have Yu:=hY (zx.u.z.ic (iI 0) (iI 0) (nS) (nS) (nS));have mJ:=hY (iA zx.u.x_ (g:=w.heap.size+1+1) aa (iI 0) (iI 0) (nS) (nS) (nS));have HV9:Hid (nR x y mode none):=by unfold Hid nR;rw [hvr,BH,kP hnn];rfl
  exact nK
 have Ba:decide (x.n>y.n)=false:=aj
 have Fs:decide (y.n<x.n)=false:=aj
 have FR:Hid ((Nc x && hU y && decide (x.n<=y.n))=true):=by unfold Hid;rw [hvr,BH,xC hnn];rfl
 have hvb:=Pk hvr;have hyn:1<=y.n/\y.n<=4:=by
  exact adF BH
 have HB:Hid ((aP x.ops).length<=1800/\aR (ai (aP x.ops))<=852000):=by have h9:=tR x.ops;unfold Hid;omega
 have alD:Hid (∀(gs:List Gt) (A:OA) (c:Nat) (w':World),gs.length<=200000000000->Ext w w'->Rd w' w'.heap.size 4 A gs.length (ak gs)->Calls prog 47 #[.slice A gs.length c,.agg #[iI y.n,.slice A2 le c2]] w' fun e w''=>(∃u,e=.returned u/\w''.ownsRow w'.heap.size 3 1 u (rY y gs).length (aG (rY y gs)))/\Ext w' w''):=fun gs A c w' hg hx hr=>rZ A gs.length c gs _ y w' hr hg (ka HU.u hx) gf hyn.1 hyn.2
 have HEX:Hid (∀(w':World),Ext w w'->∀(A:OA) (n c:Nat) (gs:List Gt),Rd w' w'.heap.size 4 A n (ak gs)->n<=2000000000000->Calls prog 50 #[.slice A n c,.agg #[iI y.n,.slice A2 le c2]] w' fun e w''=>e=.returned (.bool (Df y gs))/\Ext w' w''):=fun w' hx A n c gs hr hg=>rM A n c gs _ y w' hr (ka HU.u hx) hg gf
 have atJ:=hvb.2;clear hvr BH hnn hvb hyn;obtain ⟨W5,hW5⟩:∃W:World,W=w3:=⟨_,rfl⟩;subst hW5;have HS:=zx;clear zx;go_upto_region 3 with fail;clear g0 g1 r0 r1 r2 r3 Ba Fs;have HK3:Hid (∀w',Ext W5 w'->w'.cell? (aA w.z 3)=some (.slice A1 x.ops.length c1)/\w'.cell? (aA (w.z+1) 0)=some (iI y.n)):=fun w' hx=>⟨(HS.u.r.ext hx).cell 3,(HS.u.g.ext hx).cell 0⟩
 refine dm (S:=(fun w'=>w'.cell? (aA w.z 3)=some (.slice A1 x.ops.length c1)/\w'.cell? (aA (w.z+1) 0)=some (iI y.n))) af (HK3.u _ (xZ W5).drew) (fun ay4=>?_);refine tq 0 ?_;refine tq 1 ?_;refine tq 3 ?_;refine tq 4 ?_;refine o1 2 fun K hK=>?_
 go_simp;refine (gD A1 _ c1 x.ops _ ((mI.u.ext HS.u.x_).ext (xZ W5).drew) aa).mono ?_;rintro e w6 ⟨v6,rfl,px,mC⟩;obtain ⟨A6,c6,rfl,Mp⟩:=au px;have dG:Hid (Ext W5 w6):=Ext.trans (xZ W5).drew mC;have rp:=hY Mp;have HC6:=hY (JQ px);clear px Mp mC;refine ov hK (HK3.u _ dG.u) fun ay4=>?_
 refine o1 5 fun K hK=>?_
 go_simp;refine (ll A6 _ c6 (aP x.ops) y.n _ rp.u (oM HB.u.1) HC6.u (oM HB.u.2)).mono ?_;rintro e w7 ⟨⟨v7,l1,rfl,Py,Ai⟩,gJ⟩;obtain ⟨A7,c7,rfl,BB⟩:=au Ai;have eQ:Hid (Ext W5 w7):=dG.u.trans gJ;have rO:=hY BB;have Kl:=hY Py;have HBL:Hid (l1.length<=853800/\aR (ai l1)<=852000):=by have h8:=qP Py;have:=HB.u;unfold Hid;omega
 clear Ai BB gJ Py rp HC6;refine ov hK (HK3.u _ eQ.u) fun ay4=>?_
 refine o1 6 fun K hK=>?_
 go_simp;refine (gD A7 _ c7 l1 _ rO.u (oM HBL.u)).mono ?_;rintro e w8 ⟨v8,rfl,ho8,zW⟩;obtain ⟨A8,c8,rfl,hr8⟩:=au ho8;have HX8:Hid (Ext W5 w8):=eQ.u.trans zW;have HR8:=hY hr8;have Mb:Hid ((aP l1).length<=12807000/\aR (ai (aP l1))<=604920000):=by have h8:=tR l1;have:=HBL.u;unfold Hid;omega
 clear ho8 hr8 zW rO dG eQ;refine ov hK (HK3.u _ HX8.u) fun ay4=>?_
 refine tq 7 ?_;refine dn ?_;have HS8:=hY (HS.u.ext HX8.u);clear ay4 HK3 HS HX8;have HCL:Hid (∀(A:OA) (c:Nat) (w':World),Ext w w'->Rd w' w'.heap.size 4 A (ai (aP l1)).length (ak (ai (aP l1)))->Calls prog 47 #[.slice A (ai (aP l1)).length c,.agg #[iI y.n,.slice A2 le c2]] w' fun e w''=>(∃u,e=.returned u/\w''.ownsRow w'.heap.size 3 1 u (rY y (ai (aP l1))).length (aG (rY y (ai (aP l1)))))/\Ext w' w''):=fun A c w' hx hr=>alD.u _ A c w' (oN (jg (ai (aP l1))) Mb.u) hx hr
 clear alD;go_upto_region 4 with fail;have HK4:Hid (∀w',Ext w8 w'->w'.cell? (aA (w.z+1) 0)=some (iI y.n)/\w'.cell? (aA (w.z+1) 1)=some (.slice A2 le c2)):=fun w' hx=>⟨(HS8.u.g.ext hx).cell 0,(HS8.u.g.ext hx).cell 1⟩
 refine dm (S:=(fun w'=>w'.cell? (aA (w.z+1) 0)=some (iI y.n)/\w'.cell? (aA (w.z+1) 1)=some (.slice A2 le c2))) af (HK4.u _ (xZ w8).drew) (fun ay4=>?_);refine tq 0 ?_;refine tq 2 ?_;refine o1 1 fun K hK=>?_
 go_simp;refine (ik A8 _ c8 (aP l1) _ (HR8.u.ext (xZ w8).drew) (oM Mb.u)).mono ?_;rintro e w9 ⟨v9,rfl,AZ,tA⟩;obtain ⟨A9,c9,rfl,xr⟩:=au AZ;have mJ:Hid (Ext w8 w9):=Ext.trans (xZ w8).drew tA;have TY:=hY xr;clear AZ xr tA;refine ov hK (HK4.u _ mJ.u) fun ay4=>?_
 refine o1 3 fun K hK=>?_
 go_simp;refine (HCL.u A9 c9 _ (HS8.u.x_.trans mJ.u) TY.u).mono ?_;rintro e wa ⟨⟨va,rfl,hoa⟩,hxa⟩;obtain ⟨Aa,ca,rfl,hra⟩:=au hoa;have QD:Hid (Ext w8 wa):=mJ.u.trans hxa;have HOA:Hid (wa.ownsRow w.heap.size 3 1 (.slice Aa (rY y (ai (aP l1))).length ca) (rY y (ai (aP l1))).length (aG (rY y (ai (aP l1))))):=aC hoa (HS8.u.x_.trans mJ.u).size;clear hoa hra hxa TY mJ;refine ov hK (HK4.u _ QD.u) fun ay4=>?_
 refine tq 4 ?_;refine dn ?_;have QW:=hY (HS8.u.ext QD.u);have Ti:=hY (HR8.u.ext QD.u);clear ay4 HK4 HS8 QD HR8 HCL;obtain ⟨⟨g0,g1⟩,-⟩:=bt QW.u.g;have QS:=hY (ka HU.u QW.u.x_);have hca:=JQ HOA.u;have Yk:=hY (Rd.own HOA.u);obtain ⟨p,hp⟩:=ex (rY y (ai (aP l1)));have HPP:=hY hp;have xq:p.length<=2000000000000:=by
  have h9:(rY y (ai (aP l1))).length<=4:=acf y _ (by have h8:=FR.u;simp only [lF] at h8;exact adF h8.1.2);rw [hp] at h9;omega
 rw [hp] at hca Yk |-;clear hp;go_wp2_with fail;refine (yw A8 _ c8 (aP l1) _ y Aa p.length ca p mode _ Ti.u (oM Mb.u) QS.u gf Yk.u xq hca).mono ?_;rintro e wb ⟨vb1,vb2,b1,rfl,alG,Kp,Tj,agu,hxb⟩;obtain ⟨Ar,cr,rfl,hrr⟩:=au alG;obtain ⟨Ab,cb,rfl,-⟩:=au agu;have Rc:=hY (QW.u.ext hxb);have ZK:=hY hrr;have JY:=hY agu;have agv:=hY (aq HOA.u hxb);have aqL:Hid (w.heap.size<=wa.heap.size):=QW.u.x_.size;have ie:Hid (∀g,(Value.slice Aa (rY y (ai (aP l1))).length ca).ownBlock=some g->g<b1):=fun g hg=>sC (HOA.u.lt g hg).2 Tj.1
 have HBW:=hY Tj;clear alG Kp agu hxb hrr QW Ti QS Yk hca HOA g0 g1 Tj;obtain ⟨⟨g0,g1⟩,-⟩:=bt Rc.u.g;have QS:=hY (ka HU.u Rc.u.x_)
 cases hro:wP y (aP l1) p mode with
 |none=>
  have Gc:Hid (wP y (aP l1) (rY y (ai (aP l1))) mode=none):=by rw [HPP.u];exact hro
  have YN:Hid (Rd wb wb.heap.size 8 Ar 0 (aI [])):=by have h9:=ZK.u;rw [hro] at h9;exact h9
  clear hro ZK JY agv;go_wp2_with fail;refine (nF Ar 0 cr [] _ y _ YN.u QS.u aa gf).mono ?_;rintro e wc ⟨vc,rfl,hoc,Ox⟩;have YO:=hY (Rc.u.ext Ox);clear hoc Ox Rc QS g0 g1 YN;obtain ⟨⟨z0,z1,z2,z3,z4⟩,f0,f1,f2,f3,f4⟩:=bG YO.u.z;have Yu:=hY (YO.u.z.ic (iI 0) (iI 0) (nS) (nS) (nS));have mJ:=hY (iA YO.u.x_ (g:=w.heap.size+1+1) aa (iI 0) (iI 0) (nS) (nS) (nS));have HV9:Hid (nR x y mode none):=by unfold Hid nR;rw [aX FR.u];refine ⟨l1,[],Kl.u,?_⟩;rw [Gc.u]
  exact nK
 |some t=>
  have Gc:Hid (wP y (aP l1) (rY y (ai (aP l1))) mode=some t):=by rw [HPP.u];exact hro
  have YN:Hid (Rd wb wb.heap.size 8 Ar t.1.length (aI t.1)):=by have h9:=ZK.u;rw [hro] at h9;exact h9
  have YP:Hid (wb.ownsRow b1 3 1 (.slice Ab t.2.length cb) t.2.length (aG t.2)):=by have h9:=JY.u;rw [hro] at h9;exact h9
  have HBT:Hid (t.1.length<=128070000/\aR (ai t.1)<=6049200000):=by
   obtain ⟨t1,t2⟩:=t;have h9:=YL hro;have:=Mb.u;unfold Hid;simp only;omega
  clear ZK JY;go_wp2_with fail;refine (nF Ar _ cr t.1 _ y _ YN.u QS.u (oM HBT.u) gf).mono ?_;rintro e wc ⟨vc,rfl,hoc,Ox⟩;obtain ⟨Ac,cc,rfl,hrc⟩:=au hoc;have YO:=hY (Rc.u.ext Ox);have adG:=hY (aq agv.u Ox);have YQ:=hY (aq YP.u Ox);have YR:=hY (aC hoc Rc.u.x_.size);have Zx:=hY (JQ hoc);have HBO:Hid ((fM y t.1).length<=1921050000/\aR (ai (fM y t.1))<=30246000000):=by have h9:=Rl y t.1;have:=HBT.u;unfold Hid;omega
  clear hoc Ox hrc Rc QS g0 g1 YN agv YP hro
  cases Tc:gO y t.1
  ·skip;obtain ⟨⟨z0,z1,z2,z3,z4⟩,f0,f1,f2,f3,f4⟩:=bG YO.u.z;have Yu:=hY (YO.u.z.ic (iI 0) (iI 0) (nS) (nS) (nS));have mJ:=hY (iA YO.u.x_ (g:=w.heap.size+1+1) aa (iI 0) (iI 0) (nS) (nS) (nS));have HV9:Hid (nR x y mode none):=by unfold Hid nR;rw [aX FR.u];refine ⟨l1,[],Kl.u,?_⟩;rw [Gc.u];show (if gO y t.1=true then _ else none=none);rw [aK (by simp [Tc])]
   exact nK
  have HOO:=hY Tc;obtain ⟨⟨g0,g1⟩,-⟩:=bt YO.u.g;have HRC:=hY (Rd.own YR.u);clear Tc;go_wp2_with fail;refine (ll Ac _ cc (fM y t.1) y.n _ HRC.u (oM HBO.u) Zx.u (oM HBO.u)).mono ?_;rintro e wd ⟨⟨vd,l2,rfl,Py,hod⟩,hxd⟩;obtain ⟨Ad,cd,rfl,-⟩:=au hod;have HSD:=hY (YO.u.ext hxd);have HOD:=hY (aC hod YO.u.x_.size);have alK:=hY (aq adG.u hxd);have alL:=hY (aq YR.u hxd);have YP:Hid (wd.ownsRow w.heap.size 3 1 (.slice Ab t.2.length cb) t.2.length (aG t.2)):=aC (aq YQ.u hxd) (oN HBW.u.1 aqL.u);have HDS:Hid ((∀g,(Value.slice Aa (rY y (ai (aP l1))).length ca).ownBlock=some g->g<b1)/\∀g,(Value.slice Ab t.2.length cb).ownBlock=some g->b1<=g):=⟨ie.u,fun g hg=>(YQ.u.lt g hg).1⟩;have Hw:=hY Py;have HBD:Hid (l2.length<=32167050000/\aR (ai l2)<=30246000000):=by have h9:=qP Py;have:=HBO.u;unfold Hid;omega
  rw [<-HPP.u];clear Py hod hxd YO adG YR YQ Zx HRC g0 g1;go_upto_region 10 with fail;have HKA:Hid (∀w',Ext wd w'->w'.cell? (aA (w.z+1) 0)=some (iI y.n)/\w'.cell? (aA (w.z+1) 1)=some (.slice A2 le c2)):=fun w' hx=>⟨(HSD.u.g.ext hx).cell 0,(HSD.u.g.ext hx).cell 1⟩
  have HBE:=qP Hw.u;refine dm (S:=(fun w'=>w'.cell? (aA (w.z+1) 0)=some (iI y.n)/\w'.cell? (aA (w.z+1) 1)=some (.slice A2 le c2))) af (HKA.u _ (xZ wd).drew) (fun ay4=>?_);refine tq 0 ?_;refine tq 2 ?_;refine o1 1 fun K hK=>?_
  go_simp;refine (ik Ad _ cd l2 _ ((Rd.own HOD.u).ext (xZ wd).drew) (oM HBD.u)).mono ?_;rintro e we ⟨ve,rfl,Yn,MS⟩;obtain ⟨Ae,ce,rfl,hre⟩:=au Yn;have Oz:Hid (Ext wd we):=Ext.trans (xZ wd).drew MS;have HRE:=hY hre;have afC:Hid ((ai l2).length<=2000000000000):=by have h8:=jg (ai l2);have:=HBD.u;unfold Hid;omega
  clear Yn hre MS HBE;refine ov hK (HKA.u _ Oz.u) fun ay4=>?_
  refine o1 3 fun K hK=>?_
  go_simp;refine (HEX.u _ (HSD.u.x_.trans Oz.u) Ae _ ce (ai l2) HRE.u afC.u).mono ?_;rintro e wf ⟨rfl,hxf⟩;have HXF:Hid (Ext wd wf):=Oz.u.trans hxf;clear hxf Oz HRE;refine ov hK (HKA.u _ HXF.u) fun ay4=>?_
  refine tq 4 ?_;refine dn ?_;have Ke:=hY (HSD.u.ext HXF.u);have HOF:=hY (aq HOD.u HXF.u);have alM:=hY (aq alK.u HXF.u);have aqN:=hY (aq alL.u HXF.u);have alN:=hY (aq YP.u HXF.u);clear ay4 HKA HSD HOD alK alL YP HXF HEX
  cases hex:Df y (ai l2)
  ·skip;obtain ⟨⟨z0,z1,z2,z3,z4⟩,f0,f1,f2,f3,f4⟩:=bG Ke.u.z;obtain ⟨⟨g0,g1⟩,-⟩:=bt Ke.u.g;obtain ⟨⟨r0,r1,r2,r3⟩,-⟩:=aB Ke.u.r;have Yu:=hY (Ke.u.z.ic (iI y.n) (iI x.bits) (.slice Ac (fM y t.1).length cc) (.slice Aa (rY y (ai (aP l1))).length ca) (.slice Ab t.2.length cb));have mJ:=hY (iA Ke.u.x_ (g:=w.heap.size+1+1) aa (iI y.n) (iI x.bits) (.slice Ac (fM y t.1).length cc) (.slice Aa (rY y (ai (aP l1))).length ca) (.slice Ab t.2.length cb));have kN:=hY (mL aqN.u Ke.u.z ae (iI y.n) (iI x.bits) (.slice Ac (fM y t.1).length cc) (.slice Aa (rY y (ai (aP l1))).length ca) (.slice Ab t.2.length cb));have HP9:=hY (mL alM.u Ke.u.z ae (iI y.n) (iI x.bits) (.slice Ac (fM y t.1).length cc) (.slice Aa (rY y (ai (aP l1))).length ca) (.slice Ab t.2.length cb));have HQ9:=hY (mL alN.u Ke.u.z ae (iI y.n) (iI x.bits) (.slice Ac (fM y t.1).length cc) (.slice Aa (rY y (ai (aP l1))).length ca) (.slice Ab t.2.length cb));have HV9:Hid (nR x y mode (some ⟨y.n,x.bits,fM y t.1,rY y (ai (aP l1)),t.2⟩)):=by
    unfold Hid nR;rw [aX FR.u];refine ⟨l1,l2,Kl.u,?_⟩;rw [Gc.u];simp only;rw [aX HOO.u]
    exact ⟨Hw.u,by rw [aK (by simp [hex])]⟩
   go_wp2_with fail;refine bR (v:=.tuple #[.agg #[iI y.n,iI x.bits,.slice Ac (fM y t.1).length cc,.slice Aa (rY y (ai (aP l1))).length ca,.slice Ab t.2.length cb],.bool true]) ?_ rfl ?_
   rotate_left
   ·exact ⟨⟨some _,HV9.u,Ac,Aa,Ab,cc,ca,cb,b1,rfl,kN.u,HP9.u,HQ9.u,HDS.u.1,HDS.u.2⟩,mJ.u⟩
   ·exact bF rfl _ _ _ _ _ _ _ rfl rfl Yu.u underlying29 rfl af
  ·skip;obtain ⟨⟨z0,z1,z2,z3,z4⟩,f0,f1,f2,f3,f4⟩:=bG Ke.u.z;obtain ⟨⟨g0,g1⟩,-⟩:=bt Ke.u.g;obtain ⟨⟨r0,r1,r2,r3⟩,-⟩:=aB Ke.u.r;have Yu:=hY (Ke.u.z.ic (iI y.n) (iI x.bits) (.slice Ad l2.length cd) (.slice Aa (rY y (ai (aP l1))).length ca) (.slice Ab t.2.length cb));have mJ:=hY (iA Ke.u.x_ (g:=w.heap.size+1+1) aa (iI y.n) (iI x.bits) (.slice Ad l2.length cd) (.slice Aa (rY y (ai (aP l1))).length ca) (.slice Ab t.2.length cb));have kN:=hY (mL HOF.u Ke.u.z ae (iI y.n) (iI x.bits) (.slice Ad l2.length cd) (.slice Aa (rY y (ai (aP l1))).length ca) (.slice Ab t.2.length cb));have HP9:=hY (mL alM.u Ke.u.z ae (iI y.n) (iI x.bits) (.slice Ad l2.length cd) (.slice Aa (rY y (ai (aP l1))).length ca) (.slice Ab t.2.length cb));have HQ9:=hY (mL alN.u Ke.u.z ae (iI y.n) (iI x.bits) (.slice Ad l2.length cd) (.slice Aa (rY y (ai (aP l1))).length ca) (.slice Ab t.2.length cb));have HV9:Hid (nR x y mode (some ⟨y.n,x.bits,l2,rY y (ai (aP l1)),t.2⟩)):=by
    unfold Hid nR;rw [aX FR.u];refine ⟨l1,l2,Kl.u,?_⟩;rw [Gc.u];simp only;rw [aX HOO.u]
    exact ⟨Hw.u,by rw [aX hex]⟩
   go_wp2_with fail;refine bR (v:=.tuple #[.agg #[iI y.n,iI x.bits,.slice Ad l2.length cd,.slice Aa (rY y (ai (aP l1))).length ca,.slice Ab t.2.length cb],.bool true]) ?_ rfl ?_
   rotate_left
   ·exact ⟨⟨some _,HV9.u,Ad,Aa,Ab,cd,ca,cb,b1,rfl,kN.u,HP9.u,HQ9.u,HDS.u.1,HDS.u.2⟩,mJ.u⟩
   ·exact bF rfl _ _ _ _ _ _ _ rfl rfl Yu.u underlying29 rfl af
end Go.Proofs.YtiajdbllccmokaaGreatDoor
