import Derived.Test.YtodhjgngkkcjgaaGreatDoorXbg
import Derived.Test.YtodhjgngkkcjgaaGreatDoorXbf
import Derived.Test.YtodhjgngkkcjgaaGreatDoorXbe
namespace Go.Proofs.YtodhjgngkkcjgaaGreatDoor
open Go.ChangeShapes Go.WideShapes Go.ChangeAt Go.RowKit Go.Deep Go.Proofs.Tryz
set_option linter.unusedVariables false
set_option linter.unusedSimpArgs false
set_option maxRecDepth 100000
set_option maxHeartbeats 16000000
def cst (x:Gr) (p:List Int) (g:Gt):Int:=if ar g.k=2 then gd x (loc p g.a) (loc p g.b) else 0
def EU (x:Gr) (p:List Int) (gs:List Gt):Int:=(gs.map (cst x p)).sum
def vy (x:Gr) (p:List Int) (gs:List Gt):Int:=if lay x p=true then (if (gs.all fun g=>vg g x.n)=true then EU x p gs else -1) else -1
theorem MY {x:Gr} {p:List Int} {gs:List Gt} {k:Nat} {g:Gt} (h:gs[k]?=some g):EU x p (gs.take (k+1))=EU x p (gs.take k)+cst x p g:=by
 unfold EU;rw [aS h];simp
theorem amw (x:Gr) (p:List Int) (g:Gt): -1<=cst x p g/\cst x p g<=4:=by
 unfold cst;split
 ·exact sD _ _ _
 ·omega
theorem Yh (x:Gr) (p:List Int) (gs:List Gt): -(gs.length:Int)<=EU x p gs/\EU x p gs<=4*gs.length:=by
 unfold EU
 induction gs with
 |nil=>simp
 |cons g gs ih=>
  have:=amw x p g;simp only [DL,NA,ki];omega
theorem PI {x:Gr} {p:List Int} {gs:List Gt} (h:lay x p=false):vy x p gs= -1:=aM aZ
theorem aeO {x:Gr} {p:List Int} {gs:List Gt} {k:Nat} {g:Gt} (hl:lay x p=true) (h:gs[k]?=some g) (hv:vg g x.n=false):vy x p gs= -1:=by
 unfold vy;rw [aY hl,aM];intro h9;rw [lq.1 h9 g (lG h)] at hv
 cases hv
theorem aeP {x:Gr} {p:List Int} {gs:List Gt} (hl:lay x p=true) (h:(gs.all fun g=>vg g x.n)=true):vy x p gs=EU x p gs:=by
 unfold vy;rw [aY hl,aY h]
theorem aid (x:Gr) (p:List Int) (gs:List Gt): -(gs.length:Int) - 1<=vy x p gs/\vy x p gs<=4*gs.length:=by
 have h:=Yh x p gs;unfold vy;split
 ·split<;>omega
 ·omega
def xi (x:Gr) (gs:List Gt) (s:List Int ×Int) (p:List Int):List Int ×Int:=if 0<=vy x p gs/\(s.2<0\/vy x p gs<s.2) then (p,vy x p gs) else s
def LO (x:Gr) (gs:List Gt) (ps:List (List Int)):List Int ×Int:=ps.foldl (xi x gs) ([], -1)
def vH (x:Gr) (gs:List Gt):List Int:=(LO x gs (ES x.n.toNat x.n.toNat [])).1
theorem aax {x:Gr} {gs:List Gt} {ps:List (List Int)} {k:Nat} {p:List Int} (h:ps[k]?=some p):LO x gs (ps.take (k+1))=xi x gs (LO x gs (ps.take k)) p:=by
 unfold LO;rw [aS h,rZ];rfl
theorem lh {w w':World} {v:Value} {x:Gr} (h:fB w w.heap.size v x) (hx:Ext w w'):fB w' w'.heap.size v x:=by
 obtain ⟨A1,c1,e,h1⟩:=h
 exact ⟨A1,c1,e,h1.ext hx⟩
theorem yg (A:OA) (n c:Nat) (gs:List Gt) (v:Value) (x:Gr) (Ap:OA) (np cp:Nat) (p:List Int) (w:World) (h:Rd w w.heap.size 4 A n (aq gs)) (hn:n<=200000000000) (hv:fB w w.heap.size v x) (hl:x.es.length<=2000000000000) (hp:Rd w w.heap.size 1 Ap np (aD p)) (hnp:np<=2000000000000) (Yt:np<=cp):
  Calls prog 108 #[.slice A n c,v,.slice Ap np cp] w fun e w'=>e=.returned (iI (vy x p gs))/\Ext w w':=by
 have cT:=hY (h.len Gt.aG aa);have HLP:=hY (hp.len bG aa);have HR:=hY h;have HP:=hY hp;have HV:=hY hv;obtain ⟨A1,c1,rfl,hes⟩:=hv;obtain ⟨le,hle⟩:=ex (x.es.length);rw [hle] at HV |-;have abj:le<=2000000000000:=aa
 have HLE:=hY hle;have cH:Hid (Ext w (w.alloc (cO #[iI x.n,.slice A1 le c1] 63))):=(xZ w).alloc _;have jI:Hid (au (w.alloc (cO #[iI x.n,.slice A1 le c1] 63)) w.heap.size 63 #[iI x.n,.slice A1 le c1]):=au.new w _ _;clear h hp hes hle hl;go_enter func108,ntmps108;go_upto_region 1 with fail;generalize w.alloc (cO #[iI x.n,.slice A1 le c1] 63)=W1 at*
 have HPA:=hY (HP.u.ext cH.u);obtain ⟨⟨t0,t1⟩,-⟩:=bu jI.u;go_wp2_with fail;refine (bU Ap np cp p _ HPA.u hnp Yt).mono ?_;rintro e w2 ⟨rfl,bz⟩;have eK:Hid (Ext w w2):=cH.u.trans bz;have dv:=hY (jI.u.ext bz);clear t0 t1 cH jI HPA bz;obtain ⟨⟨t0,t1⟩,-⟩:=bu dv.u
 cases hpe:perm p
 ·have oU:Hid (vy x p gs= -1):=PI (by unfold lay;rw [hpe];simp);go_wp2_with fail;go_ret
  exact ⟨eB oU.u.symm,eK.u⟩
 cases zV:((np:Int)==x.n)
 ·have SM:((np:Int) !=x.n)=true:=by simp [bne,zV]
  have oU:Hid (vy x p gs= -1):=PI (by unfold lay;rw [HLP.u,zV];simp);go_wp2_with fail;go_ret
  exact ⟨eB oU.u.symm,eK.u⟩
 have SM:((np:Int) !=x.n)=false:=by simp [bne,zV]
 have HGV:=hY (lh HV.u eK.u);go_wp2_with fail;refine (dO _ x _ HGV.u rj).mono ?_;rintro e w3 ⟨rfl,bO⟩;have fD:Hid (Ext w w3):=eK.u.trans bO;have nT:=hY (dv.u.ext bO);clear t0 t1 eK dv HGV bO
 cases mo:je x
 ·have oU:Hid (vy x p gs= -1):=PI (by unfold lay;rw [mo];simp);go_wp2_with fail;go_ret
  exact ⟨eB oU.u.symm,fD.u⟩
 have Vf:Hid (lay x p=true):=by unfold Hid lay;rw [HLP.u,hpe,mo,zV];rfl
 have HN4:Hid (x.n=(np:Int)):=by simpa [Hid] using (eS.1 zV).symm
 clear hpe zV SM mo;go_wp2
 go_loopw [7,8] (fun nv iv wr=>∃k:Nat,k<=n/\iv=iI k/\nv=iI (EU x p (gs.take k))/\Hid ((gs.take k).all (fun g=>vg g x.n)=true)/\Hid (Ext w wr/\au wr w.heap.size 63 #[iI x.n,.slice A1 le c1])) (fun _ i _=>n - (intOf i).toNat)
 case atStart=>exact ⟨0,lJ _,rfl,rfl,rfl,fD.u,nT.u⟩
 case round=>
  clear fD nT;obtain ⟨k,hk,rfl,rfl,FC,HW⟩:=hrel;have hcb:=Yh x p (gs.take k);have wE:(gs.take k).length<=k:=qE _ _;obtain ⟨a,ha⟩:=ex (EU x p (gs.take k));have HA:=hY ha;rw [ha] at hcb |-;have hab: -200000000000<=a/\a<=800000000000:=aa
  clear ha hcb wE
  by_cases ba:k<n
  ·obtain ⟨b,o,y,rfl,-,hy,y0,y1,y2,y3⟩:=bT (HR.u.ext HW.u.1) ba;have bZ:=hY ba;have HY:=hY hy;have dy:=hY (wC k aa);obtain ⟨⟨t0,t1⟩,-⟩:=bu HW.u.2;clear hy;go_wp2;go_still_tail 6,af;change wpList _ _ _ _ _ wr.drew;go_wp2_with fail;refine (bn y x.n _).mono ?_;rintro e w5 ⟨rfl,cI⟩;have Qg:Hid (Ext w w5/\au w5 w.heap.size 63 #[iI x.n,.slice A1 le c1]):=⟨HW.u.1.trans ((xZ wr).drew.trans cI),(HW.u.2.drew).ext cI⟩;clear cI HW y0 y1 y2 y3 t0 t1
   cases hv:vg y x.n
   ·have oU:Hid (vy x p gs= -1):=aeO Vf.u HY.u hv;go_wp2_with fail;go_ret
    exact ⟨eB oU.u.symm,Qg.u.1⟩
   have HVY:=hY hv;have PJ:Hid ((gs.take (k+1)).all (fun g=>vg g x.n)=true):=by
    unfold Hid;rw [aS HY.u,qG,FC.u];simp [hv]
   clear hv FC;obtain ⟨b2,o2,y',he,hby,Lr,y0,y1,y2,y3⟩:=bT (HR.u.ext Qg.u.1) bZ.u;simp only [iG,jR] at he;obtain ⟨rfl,rfl,-⟩:=he;rw [HY.u] at Lr
   cases Lr
   go_wp2_with fail;refine (bc y.k _).mono ?_;rintro e wq ⟨rfl,rfl⟩
   by_cases har:ar y.k=2
   ·have av9:(ar y.k==2)=true:=sU har
    have awa:decide (ar y.k=2)=true:=sU har
    obtain ⟨hN,-,hya,hyb,-⟩:=qM HVY.u;have zn:=HN4.u;obtain ⟨ja,za,hja,alY,hza,-⟩:=Kd (p:=p) (i:=y.a) HLP.u hya.1 aa;obtain ⟨jb,zb,hjb,alZ,vX,-⟩:=Kd (p:=p) (i:=y.b) HLP.u hyb.1 aa;have HZ:Hid (loc p y.a=za/\loc p y.b=zb):=by
     refine ⟨?_,?_⟩
     ·rw [hja];unfold loc;rw [yp,lP,hza];rfl
     ·rw [hjb];unfold loc;rw [yp,lP,vX];rfl
    have HGD:Hid (cst x p y=gd x za zb):=by unfold Hid cst;rw [aY har,HZ.u.1,HZ.u.2]
    rw [hja] at y1;rw [hjb] at y2;have HPB:=HP.u.ext Qg.u.1;obtain ⟨bp,op,za',hAp,hbp,aq2,ca⟩:=du HPB alY;subst hAp;obtain ⟨bp2,op2,zb',Tp,-,aq3,cb⟩:=du HPB alZ;simp only [iG,jR] at Tp;obtain ⟨rfl,rfl,-⟩:=Tp;rw [hza] at aq2
    cases aq2
    rw [vX] at aq3
    cases aq3
    have pU:=sD x za zb;obtain ⟨d,hd⟩:=ex (gd x za zb);have HD:=hY hd;have HCS:Hid (EU x p (gs.take (k+1))=a+d):=by unfold Hid;rw [MY HY.u,HA.u,HGD.u,hd]
    rw [hd] at pU;have hwa:IntKind.i64.wrap (a+d)=a+d:=lH _ aa;have hwb:wrap64 (a+d)=a+d:=bk
    have aCN:(0:Int)<=(ja:Int):=aa
    have aCO:(0:Int)<=(jb:Int):=aa
    have aCP:(ja:Int)<(np:Int):=aa
    have aCQ:(jb:Int)<(np:Int):=aa
    have HGV:=hY (lh HV.u Qg.u.1);obtain ⟨⟨t0,t1⟩,-⟩:=bu Qg.u.2;clear hja hjb hza vX hd hya hyb hN zn HPB;have HK:Hid (∀w',Ext w5 w'->(w'.cell? (aA w.z 0)=some (iI x.n)/\w'.cell? (aA w.z 1)=some (.slice A1 le c1))/\w'.cell? (aA b (o+k*4+1))=some (iI (ja:Int))/\w'.cell? (aA b (o+k*4+2))=some (iI (jb:Int))/\w'.cell? (aA bp (op+ja))=some (iI za)/\w'.cell? (aA bp (op+jb))=some (iI zb)):=fun w' hx=>⟨⟨(Qg.u.2.ext hx).cell 0,(Qg.u.2.ext hx).cell 1⟩,(hx.cell (p:=(aA b (o+k*4+1))) hby).trans y1,(hx.cell (p:=(aA b (o+k*4+2))) hby).trans y2,(hx.cell (p:=(aA bp (op+ja))) hbp).trans ca,(hx.cell (p:=(aA bp (op+jb))) hbp).trans cb⟩
    go_upto_region 10 with fail;refine dt (S:=(fun w'=>(w'.cell? (aA w.z 0)=some (iI x.n)/\w'.cell? (aA w.z 1)=some (.slice A1 le c1))/\w'.cell? (aA b (o+k*4+1))=some (iI (ja:Int))/\w'.cell? (aA b (o+k*4+2))=some (iI (jb:Int))/\w'.cell? (aA bp (op+ja))=some (iI za)/\w'.cell? (aA bp (op+jb))=some (iI zb))) af (HK.u _ (xZ w5).drew) (fun aEQ=>?_);refine tq 0 ?_;refine tq 1 ?_;refine tq 2 ?_;refine tq 3 ?_;refine tq 4 ?_;refine tq 5 ?_;refine tq 6 ?_;refine tq 7 ?_;refine tq 8 ?_;refine tq 9 ?_;refine tq 10 ?_;refine tq 11 ?_;refine tq 12 ?_;refine tq 13 ?_;refine tq 14 ?_;refine tq 15 ?_;refine tq 16 ?_;refine tq 17 ?_;refine o1 18 fun K hK=>?_
    go_simp;refine (bV _ x za zb _ (lh HGV.u (xZ w5).drew) rj).mono ?_;rintro e w6 ⟨rfl,oy⟩;have dL:Hid (Ext w5 w6):=Ext.trans (xZ w5).drew oy;rw [HD.u];refine ov hK (HK.u _ dL.u) fun aEQ=>?_
    refine tq 19 ?_;refine tq 20 ?_;refine dn ?_;clear aEQ HK dL;have HW6:Hid (Ext w w6/\au w6 w.heap.size 63 #[iI x.n,.slice A1 le c1]):=⟨Qg.u.1.trans ((xZ w5).drew.trans oy),(Qg.u.2.drew).ext oy⟩;clear oy Qg HGV t0 t1 y0 y1 y2 y3 ca cb;go_wp2;go_roundw
    case rel=>exact ⟨k+1,oM bZ.u,by first|rfl|rw [dy.u.1]|rw [dy.u.2],by rw [HCS.u],PJ,HW6⟩
    case measure=>simp [intOf,dy.u.2];have:=bZ.u;omega
   ·have av9:(ar y.k==2)=false:=sU har
    have awa:decide (ar y.k=2)=false:=sU har
    have HCS:Hid (EU x p (gs.take (k+1))=a):=by unfold Hid;rw [MY HY.u,HA.u];unfold cst;rw [aM har];omega
    clear har y0 y1 y2 y3;go_wp2_with fail;go_roundw
    case rel=>exact ⟨k+1,oM bZ.u,by first|rfl|rw [dy.u.1]|rw [dy.u.2],by rw [HCS.u],PJ,Qg⟩
    case measure=>simp [intOf,dy.u.2];have:=bZ.u;omega
  ·have jJ:k=n:=aa
   subst jJ;have oU:Hid (vy x p gs=a):=by
    have h1:=FC.u;have h2:=HA.u;rw [lE il] at h1 h2;unfold Hid;rw [aeP Vf.u h1,h2]
   go_wp2;go_ret
   exact ⟨eB oU.u.symm,HW.u.1⟩
theorem Kr {P:Prop} (h:P:=by
 go_wp2_with fail;go_roundw
 case rel=>exact ⟨k+1,(p,C),A4,c4,oM bZ.u,by first|rfl|rw [dy.u.1]|rw [dy.u.2],rfl,by rw [HLP.u],MF,(by have:=HGE.u;unfold Hid;simp only;omega),PK,jP⟩
 case measure=>simp [intOf,dy.u.2];have:=bZ.u;omega):P:=h
theorem Ks {P:Prop} (h:P:=by
 go_wp2_with fail;go_roundw
 case rel=>exact ⟨k+1,s,Ab,cb,oM bZ.u,by first|rfl|rw [dy.u.1]|rw [dy.u.2],rfl,rfl,MF,Tr,PK,jP⟩
 case measure=>simp [intOf,dy.u.2];have:=bZ.u;omega):P:=h
theorem vA (A:OA) (n c:Nat) (gs:List Gt) (v:Value) (x:Gr) (w:World) (h:Rd w w.heap.size 4 A n (aq gs)) (hn:n<=200000000000) (hv:fB w w.heap.size v x) (hl:x.es.length<=2000000000000) (h1:1<=x.n) (h4:x.n<=4):
  Calls prog 85 #[.slice A n c,v] w fun e w'=>(∃u,e=.returned u/\w'.ownsRow w.heap.size 3 1 u (vH x gs).length (aD (vH x gs)))/\Ext w w':=by
 have cT:=hY (h.len Gt.aG aa);have HR:=hY h;have HV:=hY hv;obtain ⟨A1,c1,rfl,hes⟩:=hv;obtain ⟨le,hle⟩:=ex (x.es.length);rw [hle] at HV |-;have abj:le<=2000000000000:=aa
 have HLE:=hY hle;obtain ⟨N,hN⟩:=lD (aa:0<=x.n);have HN:=hY hN;have hN4:1<=N/\N<=4:=aa
 have HW1:Hid (Ext w (w.alloc (cO #[iI (N:Int),.slice A1 le c1] 63))/\au (w.alloc (cO #[iI (N:Int),.slice A1 le c1] 63)) w.heap.size 63 #[iI (N:Int),.slice A1 le c1]):=⟨(xZ w).alloc _,au.new w _ _⟩;rw [hN] at HV |-;clear h hes hle hl hN h1 h4;go_enter func85,ntmps85;go_upto_region 1 with fail;have hW1:(w.alloc (cO #[iI (N:Int),.slice A1 le c1] 63)).heap.size=w.heap.size+1:=bX _ _;generalize w.alloc (cO #[iI (N:Int),.slice A1 le c1] 63)=W1 at*
 go_upto_region 2 with fail;have vk:Hid ((W1.alloc (cO #[] 3)).ownsRow w.heap.size 3 1 (.slice (some ⟨w.heap.size+1,0,none⟩) 0 0) 0 (aD [])):=by have h9:=aN w W1 3 1 HW1.u.1;rw [hW1] at h9;exact h9
 have HW2:Hid (Ext w (W1.alloc (cO #[] 3))/\au (W1.alloc (cO #[] 3)) w.heap.size 63 #[iI (N:Int),.slice A1 le c1]):=⟨HW1.u.1.alloc _,HW1.u.2.alloc _⟩;clear HW1 hW1;generalize W1.alloc (cO #[] 3)=W2 at*
 obtain ⟨⟨t0,t1⟩,-⟩:=bu HW2.u.2;go_wp2_with fail;refine (rR N hN4.1 hN4.2 _).mono ?_;rintro e w3 ⟨⟨v3,vs,rfl,ie,To⟩,bO⟩;obtain ⟨A3,c3,rfl,-⟩:=ak ie;obtain ⟨ps,hps⟩:=ex (ES N N []);have HPS:=hY hps;have zV:ps.length<=256:=by
  have h8:=Fz hN4.2 N [];have h9:(4:Nat) ^ N<=4 ^ 4:=DB aa hN4.2;rw [hps] at h8;omega
 have HPA:Hid (∀p∈ps,p.length<=4):=fun p hp=>by
  rw [<-hps] at hp;have:=PA _ _ p hp;simp at this;omega
 rw [hps] at ie To |-;obtain ⟨m,hm⟩:=ex (ps.length);have HM:=hY hm;rw [hm] at ie zV |-;have mf:Hid (w3.ownsRow w.heap.size 25 1 (.slice A3 m c3) m vs/\fu w w3 vs ps):=⟨aC ie HW2.u.1.size,To.base HW2.u.1.size⟩;have ZM:Hid (Ext w w3/\au w3 w.heap.size 63 #[iI (N:Int),.slice A1 le c1]):=⟨HW2.u.1.trans bO,HW2.u.2.ext bO⟩;have nT:=hY (aj vk.u bO);have HC0:Hid (([], -1)=LO x gs (ps.take 0)):=rfl;clear ie To bO hps hm HW2 vk t0 t1;go_wp2
 go_loopw [5,6,8] (fun bv lv iv wr=>∃(k:Nat) (s:List Int ×Int) (Ab:OA) (cb:Nat),k<=m/\iv=iI k/\lv=iI s.2/\bv=.slice Ab s.1.length cb/\Hid (s=LO x gs (ps.take k))/\Hid (-1<=s.2/\s.2<=800000000000)/\Hid (wr.ownsRow w.heap.size 3 1 (.slice Ab s.1.length cb) s.1.length (aD s.1))/\Hid (Ext w3 wr)) (fun _ _ i _=>m - (intOf i).toNat)
 case atStart=>exact ⟨0,([], -1),_,0,lJ _,rfl,rfl,rfl,HC0,bN,nT,xZ _⟩
 case round=>
  clear nT HC0;obtain ⟨k,s,Ab,cb,hk,rfl,rfl,rfl,HS,Tr,HOB,HX⟩:=hrel;have ZN:=Tr.u
  by_cases ba:k<m
  ·have bZ:=hY ba;have how:=aj mf.u.1 HX.u;obtain ⟨gw,uw,hXw,-,hvw,hcw,-⟩:=AK how ba;have hpk:ps[k]?=some (ps[k]'(by rw [HM.u];exact ba)):=lB _;generalize ps[k]'(by rw [HM.u];exact ba)=p at hpk;obtain ⟨A4,c4,hv4,uJ⟩:=(mf.u.2.ext HX.u).2 k p hpk;rw [hvw] at hv4
   cases hv4
   subst hXw;have HPK:=hY hpk;have qh:=hY uJ;have HR4:=hY (Rd.own uJ);have hc4:=xK uJ;have hp4:=HPA.u p (lG hpk);have dy:=hY (wC k aa);obtain ⟨⟨t0,t1⟩,-⟩:=bu (ZM.u.2.ext HX.u);have qc:Hid (Ext w wr):=ZM.u.1.trans HX.u;have hcb:=aid x p gs;rw [cT.u] at hcb;obtain ⟨C,hC⟩:=ex (vy x p gs);have HC:=hY hC;rw [hC] at hcb;have aCS: -200000000001<=C/\C<=800000000000:=aa
   have bf:=hY (aax (x:=x) (gs:=gs) hpk);obtain ⟨lp,MG⟩:=ex (p.length);have HLP:=hY MG;rw [MG] at HR4 hc4 hp4 hcw;clear how hvw hpk uJ hC hcb MG;go_wp2;go_still_tail 6,af;change wpList _ _ _ _ _ wr.drew;go_wp2_with fail;refine (yg A n c gs _ x A4 lp c4 p _ (HR.u.ext (qc.u.trans (xZ wr).drew)) hn (by have h9:=lh HV.u (qc.u.trans (xZ wr).drew);exact h9) rj (HR4.u.ext (xZ wr).drew) aa hc4).mono ?_;rintro e w5 ⟨rfl,cI⟩;rw [HC.u];have jP:Hid (Ext w3 w5):=HX.u.trans ((xZ wr).drew.trans cI);have aeQ:Hid (Ext wr w5):=(xZ wr).drew.trans cI;have aCT:w5.cell? (aA gw k)=some (.slice A4 lp c4):=by
    have h9:=aj (mf.u.1) HX.u
    exact (Below.cell aeQ.u (p:=(aA gw k)) (h9.lt gw rfl).2).trans hcw
   clear cI hcw t0 t1
   by_cases uU:0<=C
   ·have d1:decide (0<=C)=true:=sU uU
    have d2:decide (C>=0)=true:=sU uU
    have HGE:=hY uU
    by_cases pH:s.2<0
    ·have d3:decide (s.2<0)=true:=sU pH
     have MF:Hid ((p,C)=LO x gs (ps.take (k+1))):=by
      unfold Hid;rw [bf.u,<-HS.u];unfold xi;rw [HC.u,aY ⟨uU,.inl pH⟩]
     have PK:=hY (aj qh.u aeQ.u);clear uU pH
     exact Kr
    ·have d3:decide (s.2<0)=false:=sU pH
     by_cases hls:C<s.2
     ·have d4:decide (C<s.2)=true:=sU hls
      have MF:Hid ((p,C)=LO x gs (ps.take (k+1))):=by
       unfold Hid;rw [bf.u,<-HS.u];unfold xi;rw [HC.u,aY ⟨uU,.inr hls⟩]
      have PK:=hY (aj qh.u aeQ.u);clear pH hls
      exact Kr
     ·have d4:decide (C<s.2)=false:=sU hls
      have MF:Hid (s=LO x gs (ps.take (k+1))):=by
       unfold Hid;rw [bf.u,<-HS.u];unfold xi;rw [HC.u,aM aa]
      have PK:=hY (aj HOB.u aeQ.u);clear pH hls uU
      exact Ks
   ·have d1:decide (0<=C)=false:=sU uU
    have d2:decide (C>=0)=false:=sU uU
    have MF:Hid (s=LO x gs (ps.take (k+1))):=by
     unfold Hid;rw [bf.u,<-HS.u];unfold xi;rw [HC.u,aM aa]
    have PK:=hY (aj HOB.u aeQ.u);clear uU
    exact Ks
  ·have jJ:k=m:=aa
   subst jJ;have oU:Hid (vH x gs=s.1):=by
    unfold Hid vH;rw [HN.u,yp,HPS.u,HS.u,lE (by rw [HM.u];exact lI _)]
   go_wp2;go_ret;rw [oU.u]
   exact ⟨⟨_,rfl,HOB.u⟩,ZM.u.1.trans HX.u⟩
def Tt (x:Rt):Bool:=lX x.n 1 4 && lX x.Lh 1 x.n && lX x.bits 0 3 && decide (x.ops.length<=120) && lst x.ops x.n x.bits
theorem aeR {x lo hi:Int} (h1:lo<=x) (h2:x<=hi):lX x lo hi=true:=by unfold lX;rw [vP h1,vP h2];rfl
theorem aeS {x lo hi:Int} (h:x<lo\/hi<x):lX x lo hi=false:=by
 unfold lX;rcases h with h|h
 ·rw [lZ aa];rfl
 ·rw [lZ (p:=x<=hi) aa,ic]
theorem aeT {x:Rt} (h:Tt x=true):(1<=x.n/\x.n<=4)/\x.ops.length<=120:=by
 unfold Tt lX at h;simp only [lF,kh] at h;omega
theorem AZ {P:Prop} (h:P:=by
 clear hn;go_wp2_with fail;refine (bP _ _ _ _ Hn.u).mono ?_;rintro e wq ⟨rfl,rfl⟩;go_wp2_with fail;go_ret
 exact ⟨aI HF.u.symm,fD.u⟩):P:=h
theorem xj {P:Prop} (h:P:=by
 go_wp2;go_ret
 exact ⟨aI (HI.u.trans HF.u).symm,aK⟩):P:=h
theorem sT (A1:OA) (c1:Nat) (x:Rt) (w:World) (h1:Rd w w.heap.size 8 A1 x.ops.length (aJ x.ops)) (s1:x.ops.length<=2000000000000):
  Calls prog 81 #[.agg #[iI x.n,iI x.Lh,iI x.bits,.slice A1 x.ops.length c1]] w fun e w'=>e=.returned (.bool (Tt x))/\Ext w w':=by
 have mC:=hY h1;have qc:Hid (Ext w (w.alloc (cO #[iI x.n,iI x.Lh,iI x.bits,.slice A1 x.ops.length c1] 60))):=(xZ w).alloc _;have bW:Hid (au (w.alloc (cO #[iI x.n,iI x.Lh,iI x.bits,.slice A1 x.ops.length c1] 60)) w.heap.size 60 #[iI x.n,iI x.Lh,iI x.bits,.slice A1 x.ops.length c1]):=au.new w _ _;go_enter func81,ntmps81;go_upto_region 1 with fail;have fD:=qc;have nT:=bW;clear qc bW;generalize w.alloc (cO #[iI x.n,iI x.Lh,iI x.bits,.slice A1 x.ops.length c1] 60)=W1 at*
 obtain ⟨⟨t0,t1,t2,t3⟩,-⟩:=aB nT.u
 by_cases hn:x.n<1\/4<x.n
 ·have Hn:=hY hn;have HF:Hid (Tt x=false):=by unfold Hid Tt;rw [aeS (x:=x.n) hn];simp
  exact AZ
 have jX:1<=x.n/\x.n<=4:=⟨aa,aa⟩;have Yi:=hY jX;clear hn jX;go_wp2_with fail;refine (aF _ _ _ _ Yi.u.1 Yi.u.2).mono ?_;rintro e wq ⟨rfl,rfl⟩
 by_cases hn:x.Lh<1\/x.n<x.Lh
 ·have Hn:=hY hn;have HF:Hid (Tt x=false):=by unfold Hid Tt;rw [aeS (x:=x.Lh) hn];simp
  exact AZ
 have jX:1<=x.Lh/\x.Lh<=x.n:=⟨aa,aa⟩;have FD:=hY jX;clear hn jX;go_wp2_with fail;refine (aF _ _ _ _ FD.u.1 FD.u.2).mono ?_;rintro e wq ⟨rfl,rfl⟩
 by_cases hn:x.bits<0\/3<x.bits
 ·have Hn:=hY hn;have HF:Hid (Tt x=false):=by unfold Hid Tt;rw [aeS (x:=x.bits) hn];simp
  exact AZ
 have jX:0<=x.bits/\x.bits<=3:=⟨aa,aa⟩;have Cq:=hY jX;clear hn jX;go_wp2_with fail;refine (aF _ _ _ _ Cq.u.1 Cq.u.2).mono ?_;rintro e wq ⟨rfl,rfl⟩
 by_cases hl:120<x.ops.length
 ·have HF:Hid (Tt x=false):=by unfold Hid Tt;rw [lZ (p:=x.ops.length<=120) aa];simp
  have EH:decide ((x.ops.length:Int)>120)=true:=ai
  have KR:decide ((120:Int)<(x.ops.length:Int))=true:=ai
  go_wp2_with fail;go_ret
  exact ⟨aI HF.u.symm,fD.u⟩
 have hl':x.ops.length<=120:=aa
 have EH:decide ((x.ops.length:Int)>120)=false:=ai
 have KR:decide ((120:Int)<(x.ops.length:Int))=false:=ai
 clear hl;have HI:Hid (Tt x=lst x.ops x.n x.bits):=by unfold Hid Tt;rw [aeR Yi.u.1 Yi.u.2,aeR FD.u.1 FD.u.2,aeR Cq.u.1 Cq.u.2,vP hl'];rfl
 go_wp2;clear EH KR
 go_loopw [3,4] (fun kn i wr=>∃k j:Nat,k<=x.ops.length/\j<=k/\i=iI k/\kn=iI j/\Hid (Cl x.n x.bits (x.ops.take k)=some j)/\au wr w.heap.size 60 #[iI x.n,iI x.Lh,iI x.bits,.slice A1 x.ops.length c1]/\Ext w wr) (fun _ i _=>x.ops.length - (intOf i).toNat)
 case atStart=>exact ⟨0,0,lJ _,lJ _,rfl,rfl,hY rfl,nT.u,fD.u⟩
 case round=>
  obtain ⟨k,j,hk,hj,rfl,rfl,HQ,hB,hx⟩:=hrel;have b0:=hB.ck 0;have b2:=hB.ck 2;have b3:=hB.ck 3;have ah3:=hB.lt
  by_cases ba:k<x.ops.length
  ·obtain ⟨b,o,g,rfl,hb,hg,h0,h1',h2,h3,h4,h5,h6,h7⟩:=nB (mC.u.ext hx) ba;have HG:=hY hg;clear hg;go_wp2_with fail;refine (kq g x.n x.bits _).mono ?_;rintro e w1 ⟨rfl,dw⟩;have hO:au w1 wr.heap.size 41 (jE g):=(au.new wr _ _).ext dw;have qA:=(hB.alloc (cO (jE g) 41)).ext dw;have aK:Ext w w1:=Ext.trans (hx.alloc _) dw;clear h0 h1' h2 h3 h4 h5 h6 h7 b0 b2 b3 hB hx dw;have o0:=hO.ck 0;have o6:=hO.ck 6;have o7:=hO.ck 7;clear hO
   cases hv:dM g x.n x.bits
   ·have HF:=hY (uf HG.u HQ.u (Fw hv))
    exact xj
   by_cases hc:(j:Int)<g.cond
   ·have HF:=hY (uf HG.u HQ.u (Pr hc))
    exact xj
   have uF:g.cond<=(j:Int):=aa
   cases h2:(g.k==2)
   ·have HN:=hY (Cn HG.u HQ.u (XU hv hc h2));rw [aM eY] at HN;clear hc;go_wp2;go_roundw
    case rel=>exact ⟨k+1,j,aa,aa,az,rfl,HN,qA,aK⟩
    case measure=>simp [intOf];omega
   cases Qs:(g.bit==(j:Int))
   ·have HF:=hY (uf HG.u HQ.u (Ps h2 Qs));have hbn:(g.bit !=(j:Int))=true:=fQ
    clear hc
    exact xj
   have HN:=hY (Cn HG.u HQ.u (XV hv hc Qs));rw [aY h2] at HN;have hbn:(g.bit !=(j:Int))=false:=fQ
   clear hc;go_wp2;go_roundw
   case rel=>exact ⟨k+1,j+1,aa,aa,az,az,HN,qA,aK⟩
   case measure=>simp [intOf];omega
  ·rw [lE aa] at HQ;have HF:=hY (Pu HQ.u);go_wp2;go_ret
   exact ⟨aI (HI.u.trans HF.u).symm,hx⟩
theorem SQ {p:List Int} (h:perm p=true):∀q∈p,0<=q/\q<=4:=by
 intro q hq;have hl:=(qm h).2;unfold perm at h;rw [lF] at h;have hG:=h.1;obtain ⟨i,hi⟩:=Tz.1 hq;have hil:=(gu.1 hi).1;unfold qP at hG;have:=lq.1 hG i (DJ.2 hil);unfold okP at this;rw [lP,hi] at this;simp at this;omega
theorem xl {x:Cm} (h:vC x=true):x.st.length<=4/\(∀q∈x.st,0<=q/\q<=4)/\x.fin.length<=4/\(∀q∈x.fin,0<=q/\q<=4)/\x.ops.length<=1200/\0<=x.bits/\x.bits<=4:=by
 unfold vC at h;simp only [lF,kh] at h;obtain ⟨⟨⟨⟨⟨⟨⟨h1,h2⟩,_⟩,_⟩,h5⟩,h6⟩,_⟩,_⟩:=h;have hb:=xJ h6
 exact ⟨(qm h1).2,SQ h1,(qm h2).2,SQ h2,h5,hb.1,aa⟩
def KP (x:Cm):List ByteArray:=[ew ⟨#[111,110]⟩ x.st,⟨#[98,105,116,115,32]⟩++cP x.bits]
def lj (x:Cm) (k:Nat):List ByteArray:=KP x++(x.ops.take k).map kC
def lines (x:Cm):List ByteArray:=KP x++x.ops.map kC++[ew ⟨#[97,116]⟩ x.fin]
def ctx (x:Cm):ByteArray:=if vC x=true then jn ⟨#[10]⟩ (lines x) else ⟨#[]⟩
theorem PL {x:Cm} (h:vC x=false):ctx x=⟨#[]⟩:=by unfold ctx;rw [aM fV]
theorem PM {x:Cm} (h:vC x=true):ctx x=jn ⟨#[10]⟩ (lines x):=by unfold ctx;rw [aY h]
theorem Er {x:Cm} {k:Nat} {o:Oq} (h:x.ops[k]?=some o):lj x (k+1)=lj x k++[kC o]:=by
 unfold lj;rw [aS h,qF,vJ];rfl
theorem Kt {x:Cm}:lj x x.ops.length++[ew ⟨#[97,116]⟩ x.fin]=lines x:=by
 unfold lj lines;rw [pg]
theorem Es {x:Cm} (h:vC x=true):∀l∈lines x,l.size<=1000:=by
 obtain ⟨h1,_,h3,_⟩:=xl h;have e1:(⟨#[111,110]⟩:ByteArray).size=2:=rfl;have e2:(⟨#[98,105,116,115,32]⟩:ByteArray).size=5:=rfl;have e3:(⟨#[97,116]⟩:ByteArray).size=2:=rfl;intro l hl;unfold lines KP at hl;rw [iT,iT] at hl;rcases hl with (hl|hl)|hl
 ·rw [jw,oZ] at hl;rcases hl with rfl|rfl
  ·rw [fI,e1];omega
  ·rw [lL,e2,jT];omega
 ·obtain ⟨o,_,rfl⟩:=qH.1 hl;have:=RU o;omega
 ·rw [oZ] at hl;subst hl;rw [fI,e3];omega
theorem Ds (x:Cm):(lines x).length=2+x.ops.length+1:=by
 unfold lines KP;rw [lA,lA,jK];rfl
def Cm.mid (x:Cm):Prop:=x.ops.length<=2000000000000/\x.st.length<=2000000000000/\x.fin.length<=2000000000000
theorem Cm.small.mid {x:Cm} (h:x.small):x.mid:=⟨lK h.1 ae,lK h.2.1 ae,lK h.2.2 ae⟩
theorem Ku {P:Prop} (h:P:=by
 go_wp2_with (at_builtin;refine Gv (w0:=w1) rfl _ _ rfl _ _ (lj x k) rfl (aj bj uH) (hx.trans uH) (kC y) _ _ rfl rfl aa ?_;intro v9 w9 kM nj hg9 Wv)
 go_roundw
 case rel=>exact ⟨k+1,aa,az,by rw [HS.u];exact kM,nj⟩
 case measure=>simp [intOf];omega):P:=h
theorem Kv {P:Prop} (h:P:=by
 rintro e qO ⟨rfl,wX⟩;go_wp2;go_ret
 exact ⟨kR HF.u.symm,xL.trans (nj.trans wX)⟩):P:=h
theorem Kw {P:Prop} (h:P:=by
 have HF:=hY (PL hv);clear hv;go_wp2;go_ret
 exact ⟨kR HF.u.symm,dN.trans aK⟩):P:=h
theorem gO (A1 A2 A3:OA) (c1 c2 c3:Nat) (x:Cm) (w:World) (h1:Rd w w.heap.size 8 A1 x.ops.length (aJ x.ops)) (h2:Rd w w.heap.size 1 A2 x.st.length (aD x.st)) (h3:Rd w w.heap.size 1 A3 x.fin.length (aD x.fin)) (k2:x.st.length<=c2) (k3:x.fin.length<=c3) (hs:x.mid):
  Calls prog 7 #[.agg #[iI x.n,iI x.bits,.slice A1 x.ops.length c1,.slice A2 x.st.length c2,.slice A3 x.fin.length c3]] w fun e w'=>e=.returned (.string (ctx x))/\Ext w w':=by
 have HV:Hid (∀w',Ext w w'->Calls prog 9 #[.agg #[iI x.n,iI x.bits,.slice A1 x.ops.length c1,.slice A2 x.st.length c2,.slice A3 x.fin.length c3]] w' fun e w''=>e=.returned (.bool (vC x))/\Ext w' w''):=fun w' q=>gl A1 A2 A3 c1 c2 c3 x w' (h1.ext q) (oM hs.1) (h2.ext q) (h3.ext q) (oM hs.2.1) (oM hs.2.2) k2 k3
 have H1:=hY h1;have H2:=hY h2;have H3:=hY h3;clear h1 h2 h3 hs k2 k3;go_enter func7,ntmps7;go_upto_region 1 with fail;have dx:au (w.alloc (cO #[iI x.n,iI x.bits,.slice A1 x.ops.length c1,.slice A2 x.st.length c2,.slice A3 x.fin.length c3] 27)) w.heap.size 27 #[iI x.n,iI x.bits,.slice A1 x.ops.length c1,.slice A2 x.st.length c2,.slice A3 x.fin.length c3]:=au.new _ _ _;have dN:Ext w (w.alloc (cO #[iI x.n,iI x.bits,.slice A1 x.ops.length c1,.slice A2 x.st.length c2,.slice A3 x.fin.length c3] 27)):=(xZ w).alloc _;generalize (w.alloc (cO #[iI x.n,iI x.bits,.slice A1 x.ops.length c1,.slice A2 x.st.length c2,.slice A3 x.fin.length c3] 27))=Wb at*
 have bW:=hY dx;have d0:=dx.ck 0;have d1:=dx.ck 1;have d2:=dx.ck 2;have d3:=dx.ck 3;have d4:=dx.ck 4;clear dx;go_wp2_with fail;refine (HV.u _ dN).mono ?_;rintro e w1 ⟨rfl,aK⟩;clear d0 d1 d2 d3 d4
 cases hv:vC x
 ·exact Kw
 have HF:=hY (PM hv);have SS:=hY (Es hv);obtain ⟨qw,hm2,CQ,hm3,pR,eT,hb4⟩:=xl hv;have HM2:=hY hm2;have HM3:=hY hm3;have xL:=dN.trans aK;have qA:=bW.u.ext aK;clear hv hm2 hm3 bW dN aK;have jI:=hY qA;have HLA:=hY (@Kt x);have By:=hY (Ds x);have d1:=qA.ck 1;have d3:=qA.ck 3;have e5:(⟨#[98,105,116,115,32]⟩:ByteArray).size=5:=rfl;have j5:∀w',(Op.stringOp .add (⟨#[98,105,116,115,32]⟩:ByteArray) (cP x.bits)).run prog w'=.ok (.string (⟨#[98,105,116,115,32]⟩++cP x.bits)) w':=fun w'=>iR w' _ _ (by rw [jT,e5];omega)
 have HK:Hid (∀w',Ext w1 w'->w'.cell? (aA w.z 1)=some (iI x.bits)/\w'.cell? (aA w.z 3)=some (.slice A2 x.st.length c2)):=fun w' q=>⟨(jI.u.ext q).cell 1,(jI.u.ext q).cell 3⟩
 clear qA;go_wp2
 go_region_held3 (fun w'=>w'.cell? (aA w.z 1)=some (iI x.bits)/\w'.cell? (aA w.z 3)=some (.slice A2 x.st.length c2))
  (first|go_keep|exact HK.u _ aL)
  (first
   |(go_at_call 19;(with_reducible refine (Kf ⟨#[111,110]⟩ A2 _ c2 x.st _ (H2.u.ext (xL.trans (xZ w1).drew)) qw HM2.u ae).mono ?_);rintro e w5 ⟨rfl,cf⟩;replace cf:Ext w1 w5:=Ext.trans (xZ w1).drew cf)
   |(go_at_call 20;(with_reducible refine (bA x.bits ⟨eT,hb4⟩ _).mono ?_);rintro e w6 ⟨rfl,qB⟩;replace qB:Ext w1 w6:=cf.trans qB))
 clear HK d1 d3 j5;have ho:(w6.alloc (cO #[.string (ew ⟨#[111,110]⟩ x.st),.string (⟨#[98,105,116,115,32]⟩++cP x.bits)] 9)).ownsRow w1.heap.size 9 1 (.slice (some ⟨w6.heap.size,0,none⟩) 2 2) (2+0) (df (lj x 0)):=bS qB _ _ 1 2 _ _ rfl (by unfold lj KP;rfl) rfl aa;have gG:Ext w1 (w6.alloc (cO #[.string (ew ⟨#[111,110]⟩ x.st),.string (⟨#[98,105,116,115,32]⟩++cP x.bits)] 9)):=qB.alloc _;go_upto_region 4 with fail;generalize (w6.alloc (cO #[.string (ew ⟨#[111,110]⟩ x.st),.string (⟨#[98,105,116,115,32]⟩++cP x.bits)] 9))=w7 at*
 generalize (Value.slice (some ⟨w6.heap.size,0,none⟩) 2 2)=v7 at*
 clear qB cf;go_wp2
 go_loopw [3,4] (fun v i wr=>∃k:Nat,k<=x.ops.length/\i=iI k/\wr.ownsRow w1.heap.size 9 1 v (2+k) (df (lj x k))/\Ext w1 wr) (fun _ i _=>x.ops.length - (intOf i).toNat)
 case atStart=>exact ⟨0,lJ _,rfl,ho,gG⟩
 case round=>
  obtain ⟨k,hk,rfl,bj,hx⟩:=hrel;have hB:=jI.u.ext hx;have d2:=hB.ck 2;have d4:=hB.ck 4;clear hB
  by_cases ba:k<x.ops.length
  ·obtain ⟨b,o,y,hA,hb,hy,r0,r1,r2,r3,r4,r5,r6,r7⟩:=nB (H1.u.ext (xL.trans hx)) ba;have HS:=hY (Er hy);rw [hA] at d2;clear hy hA;have lu:(0:Int)<=(k:Int):=aa
   have jJ:(k:Int)<(x.ops.length:Int):=aa
   go_wp2_with fail;refine (qT y _).mono ?_;rintro e w8 ⟨rfl,uH⟩;clear r0 r1 r2 r3 r4 r5 r6 r7 d2 d4
   exact Ku
  ·obtain rfl:k=x.ops.length:=aa
   clear ba;go_wp2_with fail;refine (Kf ⟨#[97,116]⟩ A3 _ c3 x.fin _ (H3.u.ext (xL.trans hx)) CQ HM3.u ae).mono ?_;rintro e w8 ⟨rfl,uH⟩;clear d2 d4;go_wp2_with (at_builtin;refine Gv (w0:=w1) rfl _ _ rfl _ _ (lj x x.ops.length) rfl (aj bj uH) (hx.trans uH) (ew ⟨#[97,116]⟩ x.fin) _ _ rfl rfl aa ?_;intro v9 w9 kM nj hg9 Wv)
   rw [HLA.u] at kM;obtain ⟨A9,c9,rfl,Cb⟩:=ak kM;refine (LA A9 _ c9 (lines x) ⟨#[10]⟩ _ Cb aa SS.u ae).mono ?_
   exact Kv
theorem kE (A1 A2 A3:OA) (c1 c2 c3:Nat) (x:Cm) (w:World) (h1:Rd w w.heap.size 8 A1 x.ops.length (aJ x.ops)) (h2:Rd w w.heap.size 1 A2 x.st.length (aD x.st)) (h3:Rd w w.heap.size 1 A3 x.fin.length (aD x.fin)) (k2:x.st.length<=c2) (k3:x.fin.length<=c3) (hs:x.small):
  Calls prog 7 #[.agg #[iI x.n,iI x.bits,.slice A1 x.ops.length c1,.slice A2 x.st.length c2,.slice A3 x.fin.length c3]] w fun e w'=>e=.returned (.string (ctx x))/\Ext w w':=
 gO A1 A2 A3 c1 c2 c3 x w h1 h2 h3 k2 k3 hs.mid
theorem MZ {b0 b1 b2 b3:Nat} (v:Value) (x:Cm) (w:World) (h:GG w b0 b1 b2 b3 v x) (hs:x.small):Calls prog 7 #[v] w fun e w'=>e=.returned (.string (ctx x))/\Ext w w':=by
 obtain ⟨A1,A2,A3,c1,c2,c3,rfl,h1,_,h2,_,h3,_⟩:=h
 exact kE A1 A2 A3 c1 c2 c3 x w (Rd.own h1) (Rd.own h2) (Rd.own h3) (oR h2) (oR h3) hs
theorem eF (v:Value) (x:Cm) (w:World) (h:tr w w.heap.size v x) (hs:x.mid) (hg:GN w):Calls prog 6 #[v] w fun e w'=>e=.returned (.string (ctx x))/\Ext w w':=by
 obtain ⟨A1,A2,A3,c1,c2,c3,rfl,z1,z2,z3⟩:=id h;have HV:Hid (∀w',Ext w w'->Calls prog 8 #[.agg #[iI x.n,iI x.bits,.slice A1 x.ops.length c1,.slice A2 x.st.length c2,.slice A3 x.fin.length c3]] w' fun e w''=>e=.returned (.bool (vC x))/\Ext w' w''):=fun w' q=>gm A1 A2 A3 c1 c2 c3 x w' (z1.ext q) hs.1 (z2.ext q) (z3.ext q) hs.2.1 hs.2.2
 have Wy:=h;clear z1 z2 z3;have HGN:=hY hg;clear hg;obtain ⟨_,_,_,_,_,_,e,h1,h2,h3⟩:=Wy;simp only [Value.agg.injEq,Array.mk.injEq,TT,Value.slice.injEq,true_and,and_true] at e;obtain ⟨⟨rfl,rfl⟩,⟨rfl,rfl⟩,rfl,rfl⟩:=e;have H1:=hY h1;have H2:=hY h2;have H3:=hY h3;clear h h1 h2 h3 hs;go_enter func6,ntmps6;go_upto_region 1 with fail;have dx:au (w.alloc (cO #[iI x.n,iI x.bits,.slice A1 x.ops.length c1,.slice A2 x.st.length c2,.slice A3 x.fin.length c3] 27)) w.heap.size 27 #[iI x.n,iI x.bits,.slice A1 x.ops.length c1,.slice A2 x.st.length c2,.slice A3 x.fin.length c3]:=au.new _ _ _;have dN:Ext w (w.alloc (cO #[iI x.n,iI x.bits,.slice A1 x.ops.length c1,.slice A2 x.st.length c2,.slice A3 x.fin.length c3] 27)):=(xZ w).alloc _;generalize (w.alloc (cO #[iI x.n,iI x.bits,.slice A1 x.ops.length c1,.slice A2 x.st.length c2,.slice A3 x.fin.length c3] 27))=Wb at*
 have bW:=hY dx;have d0:=dx.ck 0;have d1:=dx.ck 1;have d2:=dx.ck 2;have d3:=dx.ck 3;have d4:=dx.ck 4;clear dx;go_wp2_with fail;refine (HV.u _ dN).mono ?_;rintro e w1 ⟨rfl,aK⟩;clear d0 d1 d2 d3 d4
 cases hv:vC x
 ·exact Kw
 have HF:=hY (PM hv);have SS:=hY (Es hv);obtain ⟨qw,hm2,CQ,hm3,pR,eT,hb4⟩:=xl hv;have HM2:=hY hm2;have HM3:=hY hm3;have xL:=dN.trans aK;have qA:=bW.u.ext aK;clear hv hm2 hm3 bW dN aK;have jI:=hY qA;have HLA:=hY (@Kt x);have By:=hY (Ds x);have d1:=qA.ck 1;have d3:=qA.ck 3;have e5:(⟨#[98,105,116,115,32]⟩:ByteArray).size=5:=rfl;have j5:∀w',(Op.stringOp .add (⟨#[98,105,116,115,32]⟩:ByteArray) (cP x.bits)).run prog w'=.ok (.string (⟨#[98,105,116,115,32]⟩++cP x.bits)) w':=fun w'=>iR w' _ _ (by rw [jT,e5];omega)
 have jO:∀w',(Op.stringOp .add (⟨#[111,110]⟩:ByteArray) (ew ⟨#[]⟩ x.st)).run prog w'=.ok (.string (ew ⟨#[111,110]⟩ x.st)) w':=fun w'=>(iR w' _ _ (by rw [fI];have e0:(⟨#[]⟩:ByteArray).size=0:=rfl;have e6:(⟨#[111,110]⟩:ByteArray).size=2:=rfl;omega)).trans (by rw [RT];rfl)
 have jA:∀w',(Op.stringOp .add (⟨#[97,116]⟩:ByteArray) (ew ⟨#[]⟩ x.fin)).run prog w'=.ok (.string (ew ⟨#[97,116]⟩ x.fin)) w':=fun w'=>(iR w' _ _ (by rw [fI];have e0:(⟨#[]⟩:ByteArray).size=0:=rfl;have e6:(⟨#[97,116]⟩:ByteArray).size=2:=rfl;omega)).trans (by rw [RT];rfl)
 have JA:=hY jA;clear jA;have HK:Hid (∀w',Ext w1 w'->w'.cell? (aA w.z 1)=some (iI x.bits)/\w'.cell? (aA w.z 3)=some (.slice A2 x.st.length c2)):=fun w' q=>⟨(jI.u.ext q).cell 1,(jI.u.ext q).cell 3⟩
 clear qA;go_wp2
 go_region_held3 (fun w'=>w'.cell? (aA w.z 1)=some (iI x.bits)/\w'.cell? (aA w.z 3)=some (.slice A2 x.st.length c2))
  (first|go_keep|exact HK.u _ aL)
  (first
   |(go_at_call 15;(with_reducible refine (uP A2 _ c2 x.st _ (H2.u.ext (xL.trans (xZ w1).drew)) qw HM2.u).mono ?_);rintro e w5 ⟨rfl,cf⟩;replace cf:Ext w1 w5:=Ext.trans (xZ w1).drew cf)
   |(go_at_call 16;(with_reducible refine (cK x.bits ⟨eT,hb4⟩ _).mono ?_);rintro e w6 ⟨rfl,qB⟩;replace qB:Ext w1 w6:=cf.trans qB))
 clear HK d1 d3 j5 jO;have ho:(w6.alloc (cO #[.string (ew ⟨#[111,110]⟩ x.st),.string (⟨#[98,105,116,115,32]⟩++cP x.bits)] 9)).ownsRow w1.heap.size 9 1 (.slice (some ⟨w6.heap.size,0,none⟩) 2 2) (2+0) (df (lj x 0)):=bS qB _ _ 1 2 _ _ rfl (by unfold lj KP;rfl) rfl aa;have gG:Ext w1 (w6.alloc (cO #[.string (ew ⟨#[111,110]⟩ x.st),.string (⟨#[98,105,116,115,32]⟩++cP x.bits)] 9)):=qB.alloc _;go_upto_region 4 with fail;generalize (w6.alloc (cO #[.string (ew ⟨#[111,110]⟩ x.st),.string (⟨#[98,105,116,115,32]⟩++cP x.bits)] 9))=w7 at*
 generalize (Value.slice (some ⟨w6.heap.size,0,none⟩) 2 2)=v7 at*
 clear qB cf;have d2:=(jI.u.ext gG).ck 2;go_wp2
 go_loopw [3,21] (fun v i wr=>∃k:Nat,k<=x.ops.length/\i=iI k/\wr.ownsRow w1.heap.size 9 1 v (2+k) (df (lj x k))/\Ext w1 wr) (fun _ i _=>x.ops.length - (intOf i).toNat)
 case atStart=>exact ⟨0,lJ _,rfl,ho,gG⟩
 case round=>
  clear d2;obtain ⟨k,hk,rfl,bj,hx⟩:=hrel;have hB:=jI.u.ext hx;have d4:=hB.ck 4;clear hB
  by_cases ba:k<x.ops.length
  ·obtain ⟨b,o,y,rfl,hb,hy,r0,r1,r2,r3,r4,r5,r6,r7⟩:=nB (H1.u.ext (xL.trans hx)) ba;have HS:=hY (Er hy);clear hy;have lu:(0:Int)<=(k:Int):=aa
   have jJ:(k:Int)<(x.ops.length:Int):=aa
   go_wp2_with fail;refine (qU y _ (HGN.u.ext (xL.trans (hx.alloc _)))).mono ?_;rintro e w8 ⟨rfl,uH⟩;replace uH:Ext wr w8:=Ext.trans ((xZ wr).alloc _) uH;clear r0 r1 r2 r3 r4 r5 r6 r7 d4
   exact Ku
  ·obtain rfl:k=x.ops.length:=aa
   clear ba;have jA:=JA.u;go_wp2_with fail;refine (uP A3 _ c3 x.fin _ (H3.u.ext (xL.trans hx)) CQ HM3.u).mono ?_;rintro e w8 ⟨rfl,uH⟩;clear d4;go_wp2_with (at_builtin;refine Gv (w0:=w1) rfl _ _ rfl _ _ (lj x x.ops.length) rfl (aj bj uH) (hx.trans uH) (ew ⟨#[97,116]⟩ x.fin) _ _ rfl rfl aa ?_;intro v9 w9 kM nj hg9 Wv)
   rw [HLA.u] at kM;refine (LB _ _ _ (lines x) ⟨#[10]⟩ _ kM aa aa SS.u ae).mono ?_
   exact Kv
theorem um (v:Value) (x:Cm) (w:World) (h:tr w w.heap.size v x) (hs:x.small) (hg:GN w):Calls prog 6 #[v] w fun e w'=>e=.returned (.string (ctx x))/\Ext w w':=
 eF v x w h hs.mid hg
end Go.Proofs.YtodhjgngkkcjgaaGreatDoor
