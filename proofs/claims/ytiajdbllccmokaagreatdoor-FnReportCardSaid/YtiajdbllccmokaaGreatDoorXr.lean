import Derived.Test.YtiajdbllccmokaaGreatDoorXo
import Derived.Test.YtiajdbllccmokaaGreatDoorXn
namespace Go.Proofs.YtiajdbllccmokaaGreatDoor
open Go.ChangeShapes Go.WideShapes Go.ChangeAt Go.RowKit Go.Deep Go.Proofs.Tryz
set_option linter.unusedVariables false
set_option linter.unusedSimpArgs false
set_option maxRecDepth 100000
set_option maxHeartbeats 16000000
def Kt (ts:List Pt) (m:Int) (j:Nat):Int:=if atT (ts.drop j) m<(ts.drop j).length then ((j+atT (ts.drop j) m:Nat):Int) else -1
def Ku (ts:List Pt) (m:Int) (j:Nat):Nat:=j+plT (ts.drop j) m
theorem yh {α:Type} {xs:List α} {i:Nat} {x:α} (h:xs[i]?=some x):xs.drop i=x::xs.drop (i+1):=by
 obtain ⟨hl,rfl⟩:=gU.1 h
 exact xv hl
theorem aju {ts:List Pt} {m:Int} {i:Nat} {x:Pt} (h:ts[i]?=some x) (hm:x.m=m):Kt ts m i=i:=by
 unfold Kt atT;rw [yh h,Iv];simp [hm]
theorem ac5 {ts:List Pt} {m:Int} {i:Nat} {x:Pt} (h:ts[i]?=some x) (hm:¬x.m=m):Kt ts m i=Kt ts m (i+1):=by
 unfold Kt atT;have hb:(x.m==m)=false:=sU hm
 rw [yh h,Iv,hb];simp only [ij,cond_false,Nat.add_lt_add_iff_right]
 by_cases hl:List.findIdx (fun t=>t.m==m) (ts.drop (i+1))<(ts.drop (i+1)).length
 ·rw [aX hl,aX hl];congr 1;omega
 ·rw [aK hl,aK hl]
theorem ajv {ts:List Pt} {m:Int} {i:Nat} {x:Pt} (h:ts[i]?=some x) (hm:m<x.m):Ku ts m i=i:=by
 unfold Ku plT;rw [yh h,Iv];simp [hm]
theorem ac6 {ts:List Pt} {m:Int} {i:Nat} {x:Pt} (h:ts[i]?=some x) (hm:¬m<x.m):Ku ts m i=Ku ts m (i+1):=by
 unfold Ku plT;have hb:decide (m<x.m)=false:=sU hm
 rw [yh h,Iv,hb];simp only [cond_false];omega
theorem aeZ (ts:List Pt) (m:Int):Ku ts m 0<=ts.length:=by
 unfold Ku plT;rw [xE,lM]
 exact List.findIdx_le_length
theorem aba {ts:List Pt} {m:Int} {j:Nat} (h:ts.length<=j):Kt ts m j= -1:=by
 unfold Kt;rw [uD h];rfl
theorem abb {ts:List Pt} {m:Int}:Ku ts m ts.length=ts.length:=by
 unfold Ku plT;rw [uD (lI _)];rfl
theorem Sp {α:Type} {xs:List α} {i:Nat} {x:α} (h:xs[i]?=some x) (f:α->α):xs.modify i f=xs.set i (f x):=by
 apply KA;intro j;rw [List.getElem?_modify,List.getElem?_set]
 by_cases hj:i=j
 ·subst hj;rw [aX rfl,h];simp [(gU.1 h).1]
 ·rw [aK hj];simp [hj]
theorem Jp (xs:List Pt) (m:Nat):(aN xs).take (m*2)=aN (xs.take m):=by
 induction xs generalizing m with
 |nil=>simp
 |cons x xs ih=>
  cases m with
  |zero=>simp
  |succ m=>
   rw [uF];show (Pt.cells x++aN xs).take ((m+1)*2)=Pt.cells x++aN (xs.take m);rw [Nu,<-ih];rw [lE oP,Pt.aE];congr 2;omega
theorem Jq (xs:List Pt) (m:Nat):(aN xs).drop (m*2)=aN (xs.drop m):=by
 induction xs generalizing m with
 |nil=>simp
 |cons x xs ih=>
  cases m with
  |zero=>simp
  |succ m=>
   rw [Iq];show (Pt.cells x++aN xs).drop ((m+1)*2)=aN (xs.drop m);rw [Nv,uD oP,Pt.aE,lN,<-ih];congr 1;omega
theorem tz {xs:List Pt} {i:Nat} {x:Pt} (h:xs[i]?=some x) (u:Int):(aN xs).set (i*2+1) (iI u)=aN (xs.set i ⟨x.m,u⟩):=by
 induction xs generalizing i with
 |nil=>simp at h
 |cons y xs ih=>
  cases i with
  |zero=>
   simp at h;subst h;rfl
  |succ i=>
   rw [List.getElem?_cons_succ] at h;rw [Nn];show (Pt.cells y++aN xs).set ((i+1)*2+1) _=Pt.cells y++aN (xs.set i _);rw [Nj _ _ oP,<-ih h,Pt.aE];congr 2;omega
theorem Wv {w:World} {B n m:Nat} {A:OA} {xs:List Pt} (h:Rd w B 2 A n (aN xs)) (hm:m<=n):Rd w B 2 A m (aN (xs.take m)):=by
 rw [<-Jp]
 exact zf h hm
theorem Sq {w:World} {B n m b o:Nat} {xs:List Pt} (h:Rd w B 2 (some ⟨b,o,none⟩) n (aN xs)) (hm:m<=n):Rd w B 2 (some ⟨b,o+m*2,none⟩) (n - m) (aN (xs.drop m)):=by
 rw [<-Jq];refine ⟨?_,fun h0=>?_⟩
 ·rw [lU,h.1];omega
 ·obtain ⟨b',o',e,hb,hc⟩:=h.2 aa;injection e with e;injection e with e1 e2;subst e1 e2;refine ⟨b,o+m*2,rfl,hb,fun j u hu=>?_⟩;rw [xw] at hu;have:=hc _ _ hu;rw [Iy]
  exact this
theorem DF {P:Prop} (h:P:=by
 obtain ⟨A8,c8,rfl,-⟩:=au g1;obtain ⟨g,hg,-⟩:=kS g1 aa;subst hg;have vE:Hid (w8.ownsRow w.heap.size 179 2 (.slice (some ⟨g,0,none⟩) (p+1+(n - p)) c8) (p+1+(n - p)) (aN (ts.take p++[⟨m,0⟩]++ts.drop p))/\Ext w w8):=⟨g1,g2⟩;clear g1 g2 g3 g4;have iY:(ts.take p++[(⟨m,0⟩:Pt)]++ts.drop p)[p]?=some ⟨m,0⟩:=by
  have:=HN.u;rw [uE,yL fq,lT,show p - min p ts.length=0 by omega];rfl
 obtain ⟨l,hl⟩:=ey (p+1+(n - p));obtain ⟨ws,um⟩:=ey (ts.take p++[(⟨m,0⟩:Pt)]++ts.drop p);obtain ⟨x,hx⟩:∃x:Pt,x=⟨m,0⟩:=⟨_,rfl⟩;have cH:x.c=0:=by rw [hx]
 rw [<-hl,<-um] at vE;rw [<-hl];rw [<-um] at Jr iY;have Ww:Hid (ws.set p ⟨x.m,(x.c+d) % 8⟩=IX ts m d):=by rw [hx];exact Jr.u
 rw [<-hx] at iY;have HP:Hid (ws[p]?=some x/\p<l/\0<=x.c/\x.c<=7):=⟨iY,aa,aa,aa⟩;have RW:l<=200000000001:=aa
 clear iY hx um hl cH Jr km fF HD FX;have MW:ws.length=l:=(Rd.own vE.u.1).len Pt.aE aa;have xf:(aN ws)[p*2+1]?=some (iI x.c):=by
  have:=tT Pt.aE ws p x HP.u.1 1 aa
  exact this
 have HC:Hid (w8.cell? (aA g (p*2+1))=some (iI x.c)/\w8.frozen? (aA g (p*2+1))=false):=by
  refine ⟨?_,vE.u.1.frozenAt _⟩;obtain ⟨b',o',e',-,sg⟩:=(Rd.own vE.u.1).2 (oM HP.u);injection e' with e';injection e' with e1 e2;subst e1 e2;have:=sg _ _ xf;rw [lM] at this
  exact this
 have VV:(0:Int)<=(p:Int):=aa
 have xq:(p:Int)<(l:Int):=oM HP.u
 have FB:IntKind.i64.wrap (x.c+d)=x.c+d:=lH _ (oM HP.u);have Wy:wrap64 (x.c+d)=x.c+d:=oQ
 obtain ⟨c1,f1⟩:=HC.u;go_wp2_with fail;refine (eD (x.c+d) _ (oM HP.u)).mono ?_;rintro e wq ⟨rfl,rfl⟩;have rP:Hid ((w8.setCell (aA g (p*2+1)) (iI ((x.c+d) % 8))).ownsRow w.heap.size 179 2 (.slice (some ⟨g,0,none⟩) l c8) l (aN (IX ts m d))/\Ext w (w8.setCell (aA g (p*2+1)) (iI ((x.c+d) % 8)))):=by
  have h1:=vE.u.1.stored (p*2+1) (iI ((x.c+d) % 8));rw [tz HP.u.1,Ww.u] at h1
  exact ⟨h1.1,vE.u.2.setCell (vE.u.1.lt g rfl).1 _⟩
 go_upto_region 16 with fail;clear c1 f1 xf HC VV xq FB Wy
 (try clear WA)
 (try clear na)
 (try clear KX)
 (try clear FY)
 (try clear hd)
 (try clear MX)
 (try clear hpc)
 (try clear ae0)
 (try clear QA)
 (try clear Sr)
 generalize w8.setCell (aA g (p*2+1)) (iI ((x.c+d) % 8))=W2 at*
 have Ss:(IX ts m d).length=l:=(Rd.own rP.u.1).len Pt.aE aa;obtain ⟨zs,Bj⟩:=ey (IX ts m d);have HZ:Hid (fg ts m d=zs.filter fun t=>!(t.c==0)):=by rw [Bj];rfl
 rw [<-Bj] at rP Ss;clear Bj;have sr:Hid ((W2.alloc (cO #[] 179)).ownsRow W2.heap.size 179 2 (.slice (some ⟨W2.heap.size,0,none⟩) 0 0) 0 (aN ((zs.take 0).filter fun t=>!(t.c==0)))/\Ext W2 (W2.alloc (cO #[] 179))):=⟨aJ W2 W2 _ 2 (xZ _),(xZ _).alloc _⟩;have HRZ:=hY (Rd.own rP.u.1);go_upto_region 18 with fail;generalize W2.alloc (cO #[] 179)=W3 at*
 go_loopw [11,12] (fun rv iv wr=>∃(k q:Nat) (A':OA) (cap:Nat),rv=.slice A' q cap/\iv=iI k/\k<=l/\q<=k/\Hid (wr.ownsRow W2.heap.size 179 2 (.slice A' q cap) q (aN ((zs.take k).filter fun t=>!(t.c==0)))/\Ext W2 wr)) (fun _ iv _=>l - (intOf iv).toNat)
 case atStart=>exact ⟨0,0,_,0,rfl,rfl,lJ _,lI _,sr⟩
 case round=>
  obtain ⟨k,q,A',cap,rfl,rfl,hk,hq,HD⟩:=hrel;clear sr
  by_cases bh:k<l
  ·have bS:Hid (k<l/\q<=k/\l<=400000000000):=⟨bh,hq,aa⟩;obtain ⟨b,o,y,he,-,hy,y0,y1⟩:=Qp (HRZ.u.ext HD.u.2) bh;simp only [fW,iO] at he;obtain ⟨rfl,rfl,-⟩:=he;rw [lM] at y0 y1;have HY:=hY hy;clear hy;have dP:Hid (IntKind.i64.wrap ((k:Int)+1)=((k+1:Nat):Int)):=by unfold Hid;rw [lH _ aa];rfl
   have xi:Hid (wrap64 ((k:Int)+1)=((k+1:Nat):Int)):=oX
   by_cases Fq:y.c=0
   ·have HF:Hid ((zs.take (k+1)).filter (fun t=>!(t.c==0))=(zs.take k).filter fun t=>!(t.c==0)):=by
     unfold Hid;rw [aL HY.u,zR];simp [Fq]
    have hyb:(y.c !=0)=false:=uU
    clear Fq;go_wp2;go_roundw
    case rel=>exact ⟨k+1,q,A',cap,rfl,by first|rfl|rw [dP.u]|rw [xi.u],oM bS.u,oM bS.u,by rw [HF.u];exact HD⟩
    case measure=>have h5:=xi.u;have h6:=dP.u;simp [intOf,h5,h6];have:=bS.u;omega
   ·have HF:Hid ((zs.take (k+1)).filter (fun t=>!(t.c==0))=((zs.take k).filter fun t=>!(t.c==0))++[y]):=by
     unfold Hid;rw [aL HY.u,zR];simp [Fq]
    have hyb:(y.c !=0)=true:=uV
    clear Fq;go_wp2_with (at_builtin;refine Lt (w0:=W2) rfl _ _ rfl _ q _ rfl HD.u.1 HD.u.2 y _ _ rfl rfl (oM bS.u) ?_;intro v9 w9 g1 g2 g3 g4)
    obtain ⟨A9,c9,rfl,-⟩:=au g1;have yH:Hid (w9.ownsRow W2.heap.size 179 2 (.slice A9 (q+1) c9) (q+1) (aN ((zs.take (k+1)).filter fun t=>!(t.c==0)))/\Ext W2 w9):=⟨by rw [HF.u];exact g1,g2⟩;clear g1 g2 g3 g4;go_wp2;go_roundw
    case rel=>exact ⟨k+1,q+1,A9,c9,rfl,by first|rfl|rw [dP.u]|rw [xi.u],oM bS.u,oM bS.u,yH⟩
    case measure=>have h5:=xi.u;have h6:=dP.u;simp [intOf,h5,h6];have:=bS.u;omega
  ·have uo:k=l:=aa
   subst uo;have HV:Hid (wr.ownsRow w.heap.size 179 2 (.slice A' q cap) (fg ts m d).length (aN (fg ts m d))/\Ext w wr):=by
    have h1:=HD.u.1;rw [lE aa,<-HZ.u] at h1;have h2:(fg ts m d).length=q:=(Rd.own h1).len Pt.aE aa;rw [h2]
    exact ⟨aC h1 rP.u.2.size,rP.u.2.trans HD.u.2⟩
   go_wp2;go_ret
   exact ⟨⟨_,rfl,HV.u.1⟩,HV.u.2⟩):P:=h
theorem DH {P:Prop} (h:P:=by
 obtain ⟨b,o,y,he,-,hy,y0,y1⟩:=Qp (HRZ.u.ext HD.u.2) bh;simp only [fW,iO] at he;obtain ⟨rfl,rfl,-⟩:=he;rw [lM] at y0 y1;have HY:=hY hy;clear hy;have dP:Hid (IntKind.i64.wrap ((k:Int)+1)=((k+1:Nat):Int)):=by unfold Hid;rw [lH _ aa];rfl
 have xi:Hid (wrap64 ((k:Int)+1)=((k+1:Nat):Int)):=oX
 by_cases Fq:y.c=0
 ·have HF:Hid ((zs.take (k+1)).filter (fun t=>!(t.c==0))=(zs.take k).filter fun t=>!(t.c==0)):=by
   unfold Hid;rw [aL HY.u,zR];simp [Fq]
  have hyb:(y.c !=0)=false:=uU
  clear Fq;go_wp2;go_roundw
  case rel=>exact ⟨k+1,q,A',cap,rfl,by first|rfl|rw [dP.u]|rw [xi.u],oM bS.u,oM bS.u,by rw [HF.u];exact HD⟩
  case measure=>have h5:=xi.u;have h6:=dP.u;simp [intOf,h5,h6];have:=bS.u;omega
 ·have HF:Hid ((zs.take (k+1)).filter (fun t=>!(t.c==0))=((zs.take k).filter fun t=>!(t.c==0))++[y]):=by
   unfold Hid;rw [aL HY.u,zR];simp [Fq]
  have hyb:(y.c !=0)=true:=uV
  clear Fq;go_wp2_with (at_builtin;refine Lt (w0:=W2) rfl _ _ rfl _ q _ rfl HD.u.1 HD.u.2 y _ _ rfl rfl (oM bS.u) ?_;intro v9 w9 g1 g2 g3 g4)
  obtain ⟨A9,c9,rfl,-⟩:=au g1;have yH:Hid (w9.ownsRow W2.heap.size 179 2 (.slice A9 (q+1) c9) (q+1) (aN ((zs.take (k+1)).filter fun t=>!(t.c==0)))/\Ext W2 w9):=⟨by rw [HF.u];exact g1,g2⟩;clear g1 g2 g3 g4;go_wp2;go_roundw
  case rel=>exact ⟨k+1,q+1,A9,c9,rfl,by first|rfl|rw [dP.u]|rw [xi.u],oM bS.u,oM bS.u,yH⟩
  case measure=>have h5:=xi.u;have h6:=dP.u;simp [intOf,h5,h6];have:=bS.u;omega):P:=h
theorem wy {P:Prop} (h:P:=by
 clear xm;go_wp2;go_roundw
 case rel=>exact ⟨i,by rw [HA.u.1],by rw [HA.u.2],by first|rfl|rw [eM]|rw [iG],oM bS.u,HE⟩
 case measure=>have h5:=iG;have h7:=bS.u;simp [intOf];try omega):P:=h
theorem DI {P:Prop} (h:P:=by
 injection e' with e';injection e' with e1 e2;subst e1 e2;have:=sg _ _ xf;rw [lM] at this
 exact this):P:=h
theorem DJ (A:OA) (n c:Nat) (ts:List Pt) (m d:Int) (w:World) (h:Rd w w.heap.size 2 A n (aN ts)) (hn:n<=200000000000) (hc:n<=c) (hts:∀t∈ts,0<=t.c/\t.c<=7) (hd: -50<=d/\d<=50) (hA:(A=none/\c=0)\/∃b o,A=some ⟨b,o,none⟩):
  Calls prog 132 #[.slice A n c,iI m,iI d] w fun e w'=>(∃v,e=.returned v/\w'.ownsRow w.heap.size 179 2 v (fg ts m d).length (aN (fg ts m d)))/\Ext w w':=by
 have hlen:=h.len Pt.aE aa;have HN:=hY hlen;have HR:=hY h;have HTS:=hY hts;have hw0:IntKind.i64.wrap ((n:Int) - 1)=(n:Int) - 1:=lH _ aa;have ZC:wrap64 ((n:Int) - 1)=(n:Int) - 1:=bo
 have H0:Hid (Kt ts m n= -1/\Ku ts m n=n):=⟨aba aa,by rw [<-hlen];exact abb⟩;clear hlen h hts;go_enter func132,ntmps132;go_wp2
 go_loopw [7,8,9] (fun av pv iv wr=>∃j:Nat,av=iI (Kt ts m j)/\pv=iI (Ku ts m j:Nat)/\iv=iI ((j:Int) - 1)/\j<=n/\Hid (Ext w wr)) (fun _ _ iv _=>(intOf iv+1).toNat)
 case atStart=>exact ⟨n,by rw [H0.u.1],by rw [H0.u.2],by first|rfl|rw [hw0]|rw [ZC],lI _,xZ _⟩
 case round=>
  obtain ⟨j,rfl,rfl,rfl,hj,HE⟩:=hrel;clear H0 hw0 ZC
  by_cases FY:0<j
  ·obtain ⟨i,rfl⟩:∃i,j=i+1:=⟨j - 1,aa⟩;have zh:i<n:=aa
   have bS:Hid (i<n/\n<=200000000000):=⟨zh,hn⟩;have e1:((i+1:Nat):Int) - 1=(i:Int):=aa
   rw [e1];have NB:(0:Int)<=(i:Int):=aa
   have hi1:(i:Int)>=0:=NB;have eM:IntKind.i64.wrap ((i:Int) - 1)=(i:Int) - 1:=lH _ aa;have iG:wrap64 ((i:Int) - 1)=(i:Int) - 1:=bo
   obtain ⟨b,o,x,rfl,hb,hx,x0,x1⟩:=Qp (HR.u.ext HE.u) zh;have HX:=hY hx;clear hx hb e1 hj FY;have avj:(i:Int)<(n:Int):=aa
   by_cases xm:x.m=m
   ·have xmb:(x.m==m)=true:=sU xm
    have xmg:¬m<x.m:=aa
    have avl:¬x.m>m:=xmg;have HA:Hid (Kt ts m i=i/\Ku ts m i=Ku ts m (i+1)):=⟨aju HX.u xm,ac6 HX.u xmg⟩
    exact wy
   ·have xmb:(x.m==m)=false:=sU xm
    by_cases xg:m<x.m
    ·have xg2:x.m>m:=xg;have HA:Hid (Kt ts m i=Kt ts m (i+1)/\Ku ts m i=i):=⟨ac5 HX.u xm,ajv HX.u xg⟩
     exact wy
    ·have xg2:¬x.m>m:=xg;have HA:Hid (Kt ts m i=Kt ts m (i+1)/\Ku ts m i=Ku ts m (i+1)):=⟨ac5 HX.u xm,ac6 HX.u xg⟩
     exact wy
  ·obtain rfl:j=0:=aa
   have na:¬((0:Nat):Int) - 1>=0:=aa
   have KX:¬(0:Int)<=((0:Nat):Int) - 1:=aa
   by_cases TP:atT ts m<ts.length
   ·have hav:Kt ts m 0=(atT ts m:Int):=by unfold Kt;rw [xE,aX TP,lM]
    obtain ⟨p,hp⟩:=ex (atT ts m);have Jr:Hid (∀x:Pt,ts[p]?=some x->ts.set p ⟨x.m,(x.c+d) % 8⟩=IX ts m d):=fun x hx=>by
     unfold IX;rw [aX TP,hp]
     exact (Sp hx (fun t=>⟨t.m,(t.c+d) % 8⟩)).symm
    rw [hp] at TP hav;have MX:p<n:=oM HN.u
    obtain ⟨x,hx⟩:∃x,ts[p]?=some x:=⟨_,lB TP⟩;have Ox:=HTS.u x (lG hx);rw [hav];have HP:Hid (ts[p]?=some x/\p<n/\0<=x.c/\x.c<=7):=⟨hx,MX,Ox.1,Ox.2⟩;have Ww:=hY (Jr.u x hx);have WA:¬((p:Int)<0):=aa
    clear Jr hp hav hx Ox TP;go_upto_region 11 with (at_builtin;refine lW (w0:=w) rfl _ _ rfl _ 0 [] rfl (aJ w wr _ 2 HE.u) (HE.u.alloc _) A n c ts rfl ((HR.u.ext HE.u).ext ((xZ _).alloc _)) aa ?_;intro v5 w5 g1 g2 g3 g4)
    rw [lM,lN] at g1;obtain ⟨A5,c5,rfl,-⟩:=au g1;obtain ⟨g,hg,-⟩:=kS g1 aa;subst hg
    try rw [lM]
    have iK:Hid (w5.ownsRow w.heap.size 179 2 (.slice (some ⟨g,0,none⟩) n c5) n (aN ts)/\Ext w w5):=⟨g1,g2⟩;clear g1 g2 g3 g4 HE HR;have MW:ts.length=n:=(Rd.own iK.u.1).len Pt.aE aa;have xf:(aN ts)[p*2+1]?=some (iI x.c):=by
     have:=tT Pt.aE ts p x HP.u.1 1 aa
     exact this
    have HC:Hid (w5.cell? (aA g (p*2+1))=some (iI x.c)/\w5.frozen? (aA g (p*2+1))=false):=by
     refine ⟨?_,iK.u.1.frozenAt _⟩;obtain ⟨b',o',e',-,sg⟩:=(Rd.own iK.u.1).2 (oM HP.u)
     exact DI
    have VV:(0:Int)<=(p:Int):=aa
    have xq:(p:Int)<(n:Int):=oM HP.u
    have FB:IntKind.i64.wrap (x.c+d)=x.c+d:=lH _ (oM HP.u);have Wy:wrap64 (x.c+d)=x.c+d:=oQ
    obtain ⟨c1,f1⟩:=HC.u;go_wp2_with fail;refine (eD (x.c+d) _ (oM HP.u)).mono ?_;rintro e wq ⟨rfl,rfl⟩;have rP:Hid ((w5.setCell (aA g (p*2+1)) (iI ((x.c+d) % 8))).ownsRow w.heap.size 179 2 (.slice (some ⟨g,0,none⟩) n c5) n (aN (IX ts m d))/\Ext w (w5.setCell (aA g (p*2+1)) (iI ((x.c+d) % 8)))):=by
     have h1:=iK.u.1.stored (p*2+1) (iI ((x.c+d) % 8));rw [tz HP.u.1,Ww.u] at h1
     exact ⟨h1.1,iK.u.2.setCell (iK.u.1.lt g rfl).1 _⟩
    go_upto_region 16 with fail;clear c1 f1 xf HC VV xq FB Wy
    (try clear WA)
    (try clear na)
    (try clear KX)
    (try clear FY)
    (try clear hd)
    (try clear MX)
    (try clear hpc)
    (try clear ae0)
    (try clear QA)
    (try clear Sr)
    generalize w5.setCell (aA g (p*2+1)) (iI ((x.c+d) % 8))=W2 at*
    have Ss:(IX ts m d).length=n:=(Rd.own rP.u.1).len Pt.aE aa;obtain ⟨zs,Bj⟩:=ey (IX ts m d);have HZ:Hid (fg ts m d=zs.filter fun t=>!(t.c==0)):=by rw [Bj];rfl
    rw [<-Bj] at rP Ss;clear Bj;have sr:Hid ((W2.alloc (cO #[] 179)).ownsRow W2.heap.size 179 2 (.slice (some ⟨W2.heap.size,0,none⟩) 0 0) 0 (aN ((zs.take 0).filter fun t=>!(t.c==0)))/\Ext W2 (W2.alloc (cO #[] 179))):=⟨aJ W2 W2 _ 2 (xZ _),(xZ _).alloc _⟩;have HRZ:=hY (Rd.own rP.u.1);go_upto_region 18 with fail;generalize W2.alloc (cO #[] 179)=W3 at*
    go_loopw [11,12] (fun rv iv wr=>∃(k q:Nat) (A':OA) (cap:Nat),rv=.slice A' q cap/\iv=iI k/\k<=n/\q<=k/\Hid (wr.ownsRow W2.heap.size 179 2 (.slice A' q cap) q (aN ((zs.take k).filter fun t=>!(t.c==0)))/\Ext W2 wr)) (fun _ iv _=>n - (intOf iv).toNat)
    case atStart=>exact ⟨0,0,_,0,rfl,rfl,lJ _,lI _,sr⟩
    case round=>
     obtain ⟨k,q,A',cap,rfl,rfl,hk,hq,HD⟩:=hrel;clear sr
     by_cases bh:k<n
     ·have bS:Hid (k<n/\q<=k/\n<=400000000000):=⟨bh,hq,aa⟩
      exact DH
     ·have uo:k=n:=aa
      subst uo;have HV:Hid (wr.ownsRow w.heap.size 179 2 (.slice A' q cap) (fg ts m d).length (aN (fg ts m d))/\Ext w wr):=by
       have h1:=HD.u.1;rw [lE aa,<-HZ.u] at h1;have h2:(fg ts m d).length=q:=(Rd.own h1).len Pt.aE aa;rw [h2]
       exact ⟨aC h1 rP.u.2.size,rP.u.2.trans HD.u.2⟩
      go_wp2;go_ret
      exact ⟨⟨_,rfl,HV.u.1⟩,HV.u.2⟩
   ·have hav:Kt ts m 0= -1:=by unfold Kt;rw [xE,aK TP]
    have hpv:Ku ts m 0=plT ts m:=by unfold Ku;rw [xE,lM]
    have Sr:=aeZ ts m;rw [hpv] at Sr;obtain ⟨p,hp⟩:=ex (plT ts m);have Jr:Hid ((ts.take p++[(⟨m,0⟩:Pt)]++ts.drop p).set p ⟨m,(0+d) % 8⟩=IX ts m d):=by
     unfold Hid IX;rw [aK TP,hp,Int.zero_add,uE,Nj _ _ fq,lT];rw [show p - min p ts.length=0 by rw [hp] at Sr;omega,uE];rfl
    rw [hav,hpv,hp];rw [hp] at Sr;have MX:p<=n:=oM HN.u
    have VV:(0:Int)<=(p:Int):=aa
    have hpc:(p:Int)<=(c:Int):=aa
    have ae0:(p:Int)<=(n:Int):=aa
    have QA:(-1:Int)<0:=aa
    clear hav hpv hp TP;rcases hA with ⟨rfl,rfl⟩|⟨b,o,rfl⟩
    ·have ND:n=0:=by
      rcases zQ n with h0|h0
      ·exact h0
      ·obtain ⟨b,o,e,-⟩:=HR.u.2 h0
       cases e
     subst ND;obtain rfl:p=0:=aa
     have ht0:ts=[]:=xu HN.u;subst ht0;have HD:Hid (∀w',Rd w' w'.heap.size 2 none 0 (aN [])):=fun w'=>⟨ag,fun h0=>absurd h0 aa⟩
     go_upto_region 11 with (at_builtin;refine lW (w0:=w) rfl _ _ rfl _ 0 [] rfl (aJ w wr _ 2 HE.u) (HE.u.alloc _) none 0 0 [] rfl (HD.u _) aa ?_;intro v5 w5 g1 g2 g3 g4)
     have iN:=hY g2;clear g1 g2 g3 g4
     go_upto_region 15 with (first
      |(at_builtin;refine lW (w0:=w) rfl _ _ rfl _ 0 [] rfl (aJ w w5 _ 2 iN) (iN.alloc _) none 0 _ [] rfl (HD.u _) aa ?_;intro v6 w6 g1 g2 g3 g4;rw [lM,lN] at g1;have km:Hid (w6.ownsRow w.heap.size 179 2 v6 0 (aN [])/\Ext w w6):=⟨g1,g2⟩;clear g1 g2 g3 g4)
      |(at_builtin;refine Lt (w0:=w) rfl _ _ rfl _ 0 [] rfl km.u.1 km.u.2 ⟨m,0⟩ _ _ rfl rfl aa ?_;intro v7 w7 g1 g2 g3 g4;have fF:Hid (w7.ownsRow w.heap.size 179 2 v7 (0+1) (aN ([]++[⟨m,0⟩]))/\Ext w w7):=⟨g1,g2⟩;clear g1 g2 g3 g4)
      |(at_builtin;refine lW (w0:=w) rfl _ _ rfl _ (0+1) _ rfl fF.u.1 fF.u.2 none 0 _ [] rfl (HD.u _) aa ?_;intro v8 w8 g1 g2 g3 g4))
     obtain ⟨A8,c8,rfl,-⟩:=au g1;obtain ⟨g,hg,-⟩:=kS g1 aa;subst hg;have vE:Hid (w8.ownsRow w.heap.size 179 2 (.slice (some ⟨g,0,none⟩) (0+1+0) c8) (0+1+0) (aN ([]++[⟨m,0⟩]++[]))/\Ext w w8):=⟨g1,g2⟩;clear g1 g2 g3 g4;have iY:([]++[(⟨m,0⟩:Pt)]++[])[0]?=some ⟨m,0⟩:=rfl;obtain ⟨l,hl⟩:=ey (0+1+0);obtain ⟨ws,um⟩:=ey ([]++[(⟨m,0⟩:Pt)]++[]);obtain ⟨x,hx⟩:∃x:Pt,x=⟨m,0⟩:=⟨_,rfl⟩;have cH:x.c=0:=by rw [hx]
     rw [<-hl,<-um] at vE
     (try rw [show (0:Nat)+1+0=l from hl.symm])
     rw [<-um] at iY;have Ww:Hid (ws.set 0 ⟨x.m,(x.c+d) % 8⟩=IX [] m d):=by rw [hx,um];exact Jr.u
     rw [<-hx] at iY;have HP:Hid (ws[0]?=some x/\0<l/\0<=x.c/\x.c<=7):=⟨iY,aa,aa,aa⟩;have RW:l<=200000000001:=aa
     clear iY hx um hl cH Jr km fF HD;have MW:ws.length=l:=(Rd.own vE.u.1).len Pt.aE aa;have xf:(aN ws)[1]?=some (iI x.c):=by
      have:=tT Pt.aE ws 0 x HP.u.1 1 aa
      exact this
     have HC:Hid (w8.cell? (aA g 1)=some (iI x.c)/\w8.frozen? (aA g 1)=false):=by
      refine ⟨?_,vE.u.1.frozenAt _⟩;obtain ⟨b',o',e',-,sg⟩:=(Rd.own vE.u.1).2 (oM HP.u)
      exact DI
     have VV:(0:Int)<=(0:Int):=aa
     have xq:(0:Int)<(l:Int):=oM HP.u
     have FB:IntKind.i64.wrap (x.c+d)=x.c+d:=lH _ (oM HP.u);have Wy:wrap64 (x.c+d)=x.c+d:=oQ
     obtain ⟨c1,f1⟩:=HC.u;go_wp2_with fail;refine (eD (x.c+d) _ (oM HP.u)).mono ?_;rintro e wq ⟨rfl,rfl⟩;have rP:Hid ((w8.setCell (aA g 1) (iI ((x.c+d) % 8))).ownsRow w.heap.size 179 2 (.slice (some ⟨g,0,none⟩) l c8) l (aN (IX [] m d))/\Ext w (w8.setCell (aA g 1) (iI ((x.c+d) % 8)))):=by
      have h1:=vE.u.1.stored (0*2+1) (iI ((x.c+d) % 8));rw [tz HP.u.1,Ww.u] at h1
      exact ⟨h1.1,vE.u.2.setCell (vE.u.1.lt g rfl).1 _⟩
     go_upto_region 16 with fail;clear c1 f1 xf HC VV xq FB Wy
     (try clear WA)
     (try clear na)
     (try clear KX)
     (try clear FY)
     (try clear hd)
     (try clear MX)
     (try clear hpc)
     (try clear ae0)
     (try clear QA)
     (try clear Sr)
     generalize w8.setCell (aA g 1) (iI ((x.c+d) % 8))=W2 at*
     have Ss:(IX [] m d).length=l:=(Rd.own rP.u.1).len Pt.aE aa;obtain ⟨zs,Bj⟩:=ey (IX [] m d);have HZ:Hid (fg [] m d=zs.filter fun t=>!(t.c==0)):=by rw [Bj];rfl
     rw [<-Bj] at rP Ss;clear Bj;have sr:Hid ((W2.alloc (cO #[] 179)).ownsRow W2.heap.size 179 2 (.slice (some ⟨W2.heap.size,0,none⟩) 0 0) 0 (aN ((zs.take 0).filter fun t=>!(t.c==0)))/\Ext W2 (W2.alloc (cO #[] 179))):=⟨aJ W2 W2 _ 2 (xZ _),(xZ _).alloc _⟩;have HRZ:=hY (Rd.own rP.u.1);go_upto_region 18 with fail;generalize W2.alloc (cO #[] 179)=W3 at*
     go_loopw [11,12] (fun rv iv wr=>∃(k q:Nat) (A':OA) (cap:Nat),rv=.slice A' q cap/\iv=iI k/\k<=l/\q<=k/\Hid (wr.ownsRow W2.heap.size 179 2 (.slice A' q cap) q (aN ((zs.take k).filter fun t=>!(t.c==0)))/\Ext W2 wr)) (fun _ iv _=>l - (intOf iv).toNat)
     case atStart=>exact ⟨0,0,_,0,rfl,rfl,lJ _,lI _,sr⟩
     case round=>
      obtain ⟨k,q,A',cap,rfl,rfl,hk,hq,HD⟩:=hrel;clear sr
      by_cases bh:k<l
      ·have bS:Hid (k<l/\q<=k/\l<=400000000000):=⟨bh,hq,aa⟩
       exact DH
      ·have uo:k=l:=aa
       subst uo;have HV:Hid (wr.ownsRow w.heap.size 179 2 (.slice A' q cap) (fg [] m d).length (aN (fg [] m d))/\Ext w wr):=by
        have h1:=HD.u.1;rw [lE aa,<-HZ.u] at h1;have h2:(fg [] m d).length=q:=(Rd.own h1).len Pt.aE aa;rw [h2]
        exact ⟨aC h1 rP.u.2.size,rP.u.2.trans HD.u.2⟩
       go_wp2;go_ret
       exact ⟨⟨_,rfl,HV.u.1⟩,HV.u.2⟩
    ·have FX:Hid (∀w',Ext w w'->Rd w' w'.heap.size 2 (some ⟨b,o,none⟩) p (aN (ts.take p))):=fun w' hx=>Wv (HR.u.ext hx) MX
     by_cases Rw:c=p
     ·have HD:Hid (∀w',Ext w w'->Rd w' w'.heap.size 2 (some ⟨b,o,none⟩) (n - p) (aN (ts.drop p))):=fun w' hx=>by
       have e1:ts.drop p=[]:=uD (oM HN.u);rw [e1,show n - p=0 by omega]
       exact ⟨ag,fun h0=>absurd h0 aa⟩
      go_upto_region 11 with (at_builtin;refine lW (w0:=w) rfl _ _ rfl _ 0 [] rfl (aJ w wr _ 2 HE.u) (HE.u.alloc _) (some ⟨b,o,none⟩) n c ts rfl ((HR.u.ext HE.u).ext ((xZ _).alloc _)) aa ?_;intro v5 w5 g1 g2 g3 g4)
      have iN:=hY g2;clear g1 g2 g3 g4
      go_upto_region 15 with (first
       |(at_builtin;refine lW (w0:=w) rfl _ _ rfl _ 0 [] rfl (aJ w w5 _ 2 iN) (iN.alloc _) (some ⟨b,o,none⟩) p _ (ts.take p) rfl (FX.u _ (iN.alloc _)) aa ?_;intro v6 w6 g1 g2 g3 g4;rw [lM,lN] at g1;have km:Hid (w6.ownsRow w.heap.size 179 2 v6 p (aN (ts.take p))/\Ext w w6):=⟨g1,g2⟩;clear g1 g2 g3 g4)
       |(at_builtin;refine Lt (w0:=w) rfl _ _ rfl _ p (ts.take p) rfl km.u.1 km.u.2 ⟨m,0⟩ _ _ rfl rfl aa ?_;intro v7 w7 g1 g2 g3 g4;have fF:Hid (w7.ownsRow w.heap.size 179 2 v7 (p+1) (aN (ts.take p++[⟨m,0⟩]))/\Ext w w7):=⟨g1,g2⟩;clear g1 g2 g3 g4)
       |(at_builtin;refine lW (w0:=w) rfl _ _ rfl _ (p+1) _ rfl fF.u.1 fF.u.2 (some ⟨b,o,none⟩) (n - p) _ (ts.drop p) rfl (HD.u _ fF.u.2) aa ?_;intro v8 w8 g1 g2 g3 g4))
      exact DF
     ·have HD:Hid (∀w',Ext w w'->Rd w' w'.heap.size 2 (some ⟨b,o+p*2,none⟩) (n - p) (aN (ts.drop p))):=fun w' hx=>Sq (HR.u.ext hx) MX
      go_upto_region 11 with (at_builtin;refine lW (w0:=w) rfl _ _ rfl _ 0 [] rfl (aJ w wr _ 2 HE.u) (HE.u.alloc _) (some ⟨b,o,none⟩) n c ts rfl ((HR.u.ext HE.u).ext ((xZ _).alloc _)) aa ?_;intro v5 w5 g1 g2 g3 g4)
      have iN:=hY g2;clear g1 g2 g3 g4
      go_upto_region 15 with (first
       |(at_builtin;refine lW (w0:=w) rfl _ _ rfl _ 0 [] rfl (aJ w w5 _ 2 iN) (iN.alloc _) (some ⟨b,o,none⟩) p _ (ts.take p) rfl (FX.u _ (iN.alloc _)) aa ?_;intro v6 w6 g1 g2 g3 g4;rw [lM,lN] at g1;have km:Hid (w6.ownsRow w.heap.size 179 2 v6 p (aN (ts.take p))/\Ext w w6):=⟨g1,g2⟩;clear g1 g2 g3 g4)
       |(at_builtin;refine Lt (w0:=w) rfl _ _ rfl _ p (ts.take p) rfl km.u.1 km.u.2 ⟨m,0⟩ _ _ rfl rfl aa ?_;intro v7 w7 g1 g2 g3 g4;have fF:Hid (w7.ownsRow w.heap.size 179 2 v7 (p+1) (aN (ts.take p++[⟨m,0⟩]))/\Ext w w7):=⟨g1,g2⟩;clear g1 g2 g3 g4)
       |(at_builtin;refine lW (w0:=w) rfl _ _ rfl _ (p+1) _ rfl fF.u.1 fF.u.2 (some ⟨b,o+p*2,none⟩) (n - p) _ (ts.drop p) rfl (HD.u _ fF.u.2) aa ?_;intro v8 w8 g1 g2 g3 g4))
      exact DF
theorem IC {x:Gr} {g:Gt} (hv:vg g x.n=true) (h9:(g.k==9)=true):eo x g=pB x g:=by
 have h1:(ar g.k==1)=false:=by rw [yg (.inl h9)];rfl
 unfold eo;rw [hv,h1,h9];simp
theorem Js {x:Gr} {g:Gt} (hv:vg g x.n=true) (h9:(g.k==9)=true) (hc:pB x g=true):iZ x g=zo x g:=by
 have h1:(ar g.k==1)=false:=by rw [yg (.inl h9)];rfl
 rw [Oi oO h1,ajl h9];simp
theorem amp {x:Gr} {g:Gt} (hv:vg g x.n=true) (h9:(g.k==9)=true) (he:fJ x.es g.a g.b=true):eo x g=true/\iZ x g=[g]:=by
 have hc:pB x g=true:=by unfold pB;rw [he];rfl
 refine ⟨oO,?_⟩;rw [Js hv h9 hc];unfold zo;rw [aX he,<-VL hv h9]
theorem amq {x:Gr} {g:Gt} (hv:vg g x.n=true) (h9:(g.k==9)=true) (he:fJ x.es g.a g.b=false) (MY:fJ x.es g.b g.a=true):eo x g=true/\iZ x g=[g1 4 g.a,g1 4 g.b,fL g.b g.a,g1 4 g.a,g1 4 g.b]:=by
 have hc:pB x g=true:=by unfold pB;rw [he,MY];rfl
 refine ⟨oO,?_⟩;rw [Js hv h9 hc];unfold zo;rw [aK (by simp [he])]
theorem amr {x:Gr} {g:Gt} (hv:vg g x.n=true) (h9:(g.k==9)=true) (he:fJ x.es g.a g.b=false) (MY:fJ x.es g.b g.a=false):eo x g=false:=by
 rw [IC hv h9];unfold pB;rw [he,MY];rfl
theorem WB {x:Gr} {a b:Int} (hv:vg (fL a b) x.n=true):eo x (fL a b)=pB x (fL a b):=IC hv rfl
theorem ajw {x:Gr} {g:Gt} (hv:vg g x.n=true) (h:(g.k==11)=true):hJ x (dec g)=eo x g/\wg x (dec g)=iZ x g:=by
 have h2:=VK hv (yg (.inr h));obtain ⟨n1,n2,p1,p2,p3,p4,p5,p6⟩:=h2;have v1:=ac0 n1 n2 p1 p2 p3 p4 p5;have v2:=ac0 n1 n2 p3 p4 p1 p2 (sK p5);have h1:(ar g.k==1)=false:=by rw [yg (.inr h)];rfl
 have c1:pB x (fL g.a g.b)=pB x g:=rfl;have c2:pB x (fL g.b g.a)=pB x g:=by unfold pB;exact Bool.or_comm _ _
 have e1:eo x g=pB x g:=by unfold eo;rw [hv,h1,h];simp
 have e2:hJ x (dec g)=pB x g:=by
  unfold hJ;rw [VM h];simp [WB v1,WB v2,c1,c2]
 refine ⟨by rw [e1,e2],?_⟩
 cases hc:pB x g
 ·rw [RY (by rw [e2];exact hc),Jd (by rw [e1];exact hc)]
 ·rw [Oj (by rw [e2];exact hc),Oi (by rw [e1];exact hc) h1,VM h];have l1:iZ x (fL g.a g.b)=zo x (fL g.a g.b):=Js v1 rfl (by rw [c1];exact hc);have l2:iZ x (fL g.b g.a)=zo x (fL g.b g.a):=Js v2 rfl (by rw [c2];exact hc);simp [l1,l2]
end Go.Proofs.YtiajdbllccmokaaGreatDoor
