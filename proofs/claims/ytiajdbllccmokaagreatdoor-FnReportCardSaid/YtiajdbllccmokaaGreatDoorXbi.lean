import Derived.Test.YtiajdbllccmokaaGreatDoorXbe
import Derived.Test.YtiajdbllccmokaaGreatDoorXbc
import Derived.Test.YtiajdbllccmokaaGreatDoorXx
namespace Go.Proofs.YtiajdbllccmokaaGreatDoor
open Go.ChangeShapes Go.WideShapes Go.ChangeAt Go.RowKit Go.Deep Go.Proofs.Tryz
set_option linter.unusedVariables false
set_option linter.unusedSimpArgs false
set_option maxRecDepth 100000
set_option maxHeartbeats 16000000
def cst (x:Gr) (p:List Int) (g:Gt):Int:=if ar g.k=2 then gd x (loc p g.a) (loc p g.b) else 0
def Bi (x:Gr) (p:List Int) (gs:List Gt):Int:=(gs.map (cst x p)).sum
def rX (x:Gr) (p:List Int) (gs:List Gt):Int:=if lay x p=true then (if (gs.all fun g=>vg g x.n)=true then Bi x p gs else -1) else -1
theorem Ia {x:Gr} {p:List Int} {gs:List Gt} {k:Nat} {g:Gt} (h:gs[k]?=some g):Bi x p (gs.take (k+1))=Bi x p (gs.take k)+cst x p g:=by
 unfold Bi;rw [aL h];simp
theorem afW (x:Gr) (p:List Int) (g:Gt): -1<=cst x p g/\cst x p g<=4:=by
 unfold cst;split
 ·exact pL _ _ _
 ·omega
theorem Rb (x:Gr) (p:List Int) (gs:List Gt): -(gs.length:Int)<=Bi x p gs/\Bi x p gs<=4*gs.length:=by
 unfold Bi
 induction gs with
 |nil=>simp
 |cons g gs ih=>
  have:=afW x p g;simp only [KB,Ul,ij];omega
theorem JW {x:Gr} {p:List Int} {gs:List Gt} (h:lay x p=false):rX x p gs= -1:=aK aW
theorem Yi {x:Gr} {p:List Int} {gs:List Gt} {k:Nat} {g:Gt} (hl:lay x p=true) (h:gs[k]?=some g) (hv:vg g x.n=false):rX x p gs= -1:=by
 unfold rX;rw [aX hl,aK];intro h9;rw [kc.1 h9 g (lG h)] at hv
 cases hv
theorem Yj {x:Gr} {p:List Int} {gs:List Gt} (hl:lay x p=true) (h:(gs.all fun g=>vg g x.n)=true):rX x p gs=Bi x p gs:=by
 unfold rX;rw [aX hl,aX h]
theorem abW (x:Gr) (p:List Int) (gs:List Gt): -(gs.length:Int) - 1<=rX x p gs/\rX x p gs<=4*gs.length:=by
 have h:=Rb x p gs;unfold rX;split
 ·split<;>omega
 ·omega
def tO (x:Gr) (gs:List Gt) (s:List Int ×Int) (p:List Int):List Int ×Int:=if 0<=rX x p gs/\(s.2<0\/rX x p gs<s.2) then (p,rX x p gs) else s
def Gg (x:Gr) (gs:List Gt) (ps:List (List Int)):List Int ×Int:=ps.foldl (tO x gs) ([], -1)
def rY (x:Gr) (gs:List Gt):List Int:=(Gg x gs (Bh x.n.toNat x.n.toNat [])).1
theorem Tn {x:Gr} {gs:List Gt} {ps:List (List Int)} {k:Nat} {p:List Int} (h:ps[k]?=some p):Gg x gs (ps.take (k+1))=tO x gs (Gg x gs (ps.take k)) p:=by
 unfold Gg;rw [aL h,sG];rfl
theorem ka {w w':World} {v:Value} {x:Gr} (h:eR w w.heap.size v x) (hx:Ext w w'):eR w' w'.heap.size v x:=by
 obtain ⟨A1,c1,e,h1⟩:=h
 exact ⟨A1,c1,e,h1.ext hx⟩
theorem uB (A:OA) (n c:Nat) (gs:List Gt) (v:Value) (x:Gr) (Ap:OA) (np cp:Nat) (p:List Int) (w:World) (h:Rd w w.heap.size 4 A n (ak gs)) (hn:n<=200000000000) (hv:eR w w.heap.size v x) (hl:x.es.length<=2000000000000) (hp:Rd w w.heap.size 1 Ap np (aG p)) (ZG:np<=2000000000000) (Rw:np<=cp):
  Calls prog 68 #[.slice A n c,v,.slice Ap np cp] w fun e w'=>e=.returned (iI (rX x p gs))/\Ext w w':=by
 have dB:=hY (h.len Gt.aE aa);have HLP:=hY (hp.len bO aa);have HR:=hY h;have HP:=hY hp;have HV:=hY hv;obtain ⟨A1,c1,rfl,hes⟩:=hv;obtain ⟨le,hle⟩:=ex (x.es.length);rw [hle] at HV |-;have Ur:le<=2000000000000:=aa
 have Zj:=hY hle;have dk:Hid (Ext w (w.alloc (cO #[iI x.n,.slice A1 le c1] 42))):=(xZ w).alloc _;have ie:Hid (ay (w.alloc (cO #[iI x.n,.slice A1 le c1] 42)) w.heap.size 42 #[iI x.n,.slice A1 le c1]):=ay.new w _ _;clear h hp hes hle hl;go_enter func68,ntmps68;go_upto_region 1 with fail;generalize w.alloc (cO #[iI x.n,.slice A1 le c1] 42)=W1 at*
 have Yk:=hY (HP.u.ext dk.u);obtain ⟨⟨t0,t1⟩,-⟩:=bt ie.u;go_wp2_with fail;refine (cK Ap np cp p _ Yk.u ZG Rw).mono ?_;rintro e w2 ⟨rfl,bH⟩;have kj:Hid (Ext w w2):=dk.u.trans bH;have fV:=hY (ie.u.ext bH);clear t0 t1 dk ie Yk bH;obtain ⟨⟨t0,t1⟩,-⟩:=bt fV.u
 cases hpe:perm p
 ·have Kv:Hid (rX x p gs= -1):=JW (by unfold lay;rw [hpe];simp);go_wp2_with fail;go_ret
  exact ⟨dZ Kv.u.symm,kj.u⟩
 cases xq:((np:Int)==x.n)
 ·have MC:((np:Int) !=x.n)=true:=by simp [bne,xq]
  have Kv:Hid (rX x p gs= -1):=JW (by unfold lay;rw [HLP.u,xq];simp);go_wp2_with fail;go_ret
  exact ⟨dZ Kv.u.symm,kj.u⟩
 have MC:((np:Int) !=x.n)=false:=by simp [bne,xq]
 have HGV:=hY (ka HV.u kj.u);go_wp2_with fail;refine (dJ _ x _ HGV.u oJ).mono ?_;rintro e w3 ⟨rfl,bT⟩;have iM:Hid (Ext w w3):=kj.u.trans bT;have lq:=hY (fV.u.ext bT);clear t0 t1 kj fV HGV bT
 cases BH:hU x
 ·have Kv:Hid (rX x p gs= -1):=JW (by unfold lay;rw [BH];simp);go_wp2_with fail;go_ret
  exact ⟨dZ Kv.u.symm,iM.u⟩
 have OZ:Hid (lay x p=true):=by unfold Hid lay;rw [HLP.u,hpe,BH,xq];rfl
 have HN4:Hid (x.n=(np:Int)):=by simpa [Hid] using (dc.1 xq).symm
 clear hpe xq MC BH;go_wp2
 go_loopw [7,8] (fun nv iv wr=>∃k:Nat,k<=n/\iv=iI k/\nv=iI (Bi x p (gs.take k))/\Hid ((gs.take k).all (fun g=>vg g x.n)=true)/\Hid (Ext w wr/\ay wr w.heap.size 42 #[iI x.n,.slice A1 le c1])) (fun _ i _=>n - (intOf i).toNat)
 case atStart=>exact ⟨0,lJ _,rfl,rfl,rfl,iM.u,lq.u⟩
 case round=>
  clear iM lq;obtain ⟨k,hk,rfl,rfl,BP,HW⟩:=hrel;have hcb:=Rb x p (gs.take k);have uo:(gs.take k).length<=k:=qU _ _;obtain ⟨a,ha⟩:=ex (Bi x p (gs.take k));have HA:=hY ha;rw [ha] at hcb |-;have hab: -200000000000<=a/\a<=800000000000:=aa
  clear ha hcb uo
  by_cases bh:k<n
  ·obtain ⟨b,o,y,rfl,-,hy,y0,y1,y2,y3⟩:=bE (HR.u.ext HW.u.1) bh;have bS:=hY bh;have HY:=hY hy;have dP:=hY (wC k aa);obtain ⟨⟨t0,t1⟩,-⟩:=bt HW.u.2;clear hy;go_wp2;go_still_tail 6,af;change wpList _ _ _ _ _ wr.drew;go_wp2_with fail;refine (bj y x.n _).mono ?_;rintro e w5 ⟨rfl,cN⟩;have Ko:Hid (Ext w w5/\ay w5 w.heap.size 42 #[iI x.n,.slice A1 le c1]):=⟨HW.u.1.trans ((xZ wr).drew.trans cN),(HW.u.2.drew).ext cN⟩;clear cN HW y0 y1 y2 y3 t0 t1
   cases hv:vg y x.n
   ·have Kv:Hid (rX x p gs= -1):=Yi OZ.u HY.u hv;go_wp2_with fail;go_ret
    exact ⟨dZ Kv.u.symm,Ko.u.1⟩
   have HVY:=hY hv;have JX:Hid ((gs.take (k+1)).all (fun g=>vg g x.n)=true):=by
    unfold Hid;rw [aL HY.u,nX,BP.u];simp [hv]
   clear hv BP;obtain ⟨b2,o2,y',he,Zl,FU,y0,y1,y2,y3⟩:=bE (HR.u.ext Ko.u.1) bS.u;simp only [fW,iO] at he;obtain ⟨rfl,rfl,-⟩:=he;rw [HY.u] at FU
   cases FU
   go_wp2_with fail;refine (aY y.k _).mono ?_;rintro e wq ⟨rfl,rfl⟩
   by_cases Zt:ar y.k=2
   ·have aqa:(ar y.k==2)=true:=sU Zt
    have aqb:decide (ar y.k=2)=true:=sU Zt
    obtain ⟨hN,-,hya,hyb,-⟩:=oh HVY.u;have xT:=HN4.u;obtain ⟨ja,za,hja,afF,hza,-⟩:=EF (p:=p) (i:=y.a) HLP.u hya.1 aa;obtain ⟨jb,zb,hjb,afG,FF,-⟩:=EF (p:=p) (i:=y.b) HLP.u hyb.1 aa;have HZ:Hid (loc p y.a=za/\loc p y.b=zb):=by
     refine ⟨?_,?_⟩
     ·rw [hja];unfold loc;rw [uG,lP,hza];rfl
     ·rw [hjb];unfold loc;rw [uG,lP,FF];rfl
    have RU:Hid (cst x p y=gd x za zb):=by unfold Hid cst;rw [aX Zt,HZ.u.1,HZ.u.2]
    rw [hja] at y1;rw [hjb] at y2;have HPB:=HP.u.ext Ko.u.1;obtain ⟨bp,op,za',hAp,hbp,ak1,ca⟩:=eT HPB afF;subst hAp;obtain ⟨bp2,op2,zb',MY,-,ak2,cb⟩:=eT HPB afG;simp only [fW,iO] at MY;obtain ⟨rfl,rfl,-⟩:=MY;rw [hza] at ak1
    cases ak1
    rw [FF] at ak2
    cases ak2
    have LJ:=pL x za zb;obtain ⟨d,hd⟩:=ex (gd x za zb);have HD:=hY hd;have HCS:Hid (Bi x p (gs.take (k+1))=a+d):=by unfold Hid;rw [Ia HY.u,HA.u,RU.u,hd]
    rw [hd] at LJ;have hwa:IntKind.i64.wrap (a+d)=a+d:=lH _ aa;have hwb:wrap64 (a+d)=a+d:=bo
    have awV:(0:Int)<=(ja:Int):=aa
    have awW:(0:Int)<=(jb:Int):=aa
    have awX:(ja:Int)<(np:Int):=aa
    have awY:(jb:Int)<(np:Int):=aa
    have HGV:=hY (ka HV.u Ko.u.1);obtain ⟨⟨t0,t1⟩,-⟩:=bt Ko.u.2;clear hja hjb hza FF hd hya hyb hN xT HPB;have HK:Hid (∀w',Ext w5 w'->(w'.cell? (aA w.z 0)=some (iI x.n)/\w'.cell? (aA w.z 1)=some (.slice A1 le c1))/\w'.cell? (aA b (o+k*4+1))=some (iI (ja:Int))/\w'.cell? (aA b (o+k*4+2))=some (iI (jb:Int))/\w'.cell? (aA bp (op+ja))=some (iI za)/\w'.cell? (aA bp (op+jb))=some (iI zb)):=fun w' hx=>⟨⟨(Ko.u.2.ext hx).cell 0,(Ko.u.2.ext hx).cell 1⟩,(hx.cell (p:=(aA b (o+k*4+1))) Zl).trans y1,(hx.cell (p:=(aA b (o+k*4+2))) Zl).trans y2,(hx.cell (p:=(aA bp (op+ja))) hbp).trans ca,(hx.cell (p:=(aA bp (op+jb))) hbp).trans cb⟩
    go_upto_region 10 with fail;refine dm (S:=(fun w'=>(w'.cell? (aA w.z 0)=some (iI x.n)/\w'.cell? (aA w.z 1)=some (.slice A1 le c1))/\w'.cell? (aA b (o+k*4+1))=some (iI (ja:Int))/\w'.cell? (aA b (o+k*4+2))=some (iI (jb:Int))/\w'.cell? (aA bp (op+ja))=some (iI za)/\w'.cell? (aA bp (op+jb))=some (iI zb))) af (HK.u _ (xZ w5).drew) (fun ay4=>?_);refine tq 0 ?_;refine tq 1 ?_;refine tq 2 ?_;refine tq 3 ?_;refine tq 4 ?_;refine tq 5 ?_;refine tq 6 ?_;refine tq 7 ?_;refine tq 8 ?_;refine tq 9 ?_;refine tq 10 ?_;refine tq 11 ?_;refine tq 12 ?_;refine tq 13 ?_;refine tq 14 ?_;refine tq 15 ?_;refine tq 16 ?_;refine tq 17 ?_;refine o1 18 fun K hK=>?_
    go_simp;refine (bM _ x za zb _ (ka HGV.u (xZ w5).drew) oJ).mono ?_;rintro e w6 ⟨rfl,mC⟩;have dG:Hid (Ext w5 w6):=Ext.trans (xZ w5).drew mC;rw [HD.u];refine ov hK (HK.u _ dG.u) fun ay4=>?_
    refine tq 19 ?_;refine tq 20 ?_;refine dn ?_;clear ay4 HK dG;have HW6:Hid (Ext w w6/\ay w6 w.heap.size 42 #[iI x.n,.slice A1 le c1]):=⟨Ko.u.1.trans ((xZ w5).drew.trans mC),(Ko.u.2.drew).ext mC⟩;clear mC Ko HGV t0 t1 y0 y1 y2 y3 ca cb;go_wp2;go_roundw
    case rel=>exact ⟨k+1,oM bS.u,by first|rfl|rw [dP.u.1]|rw [dP.u.2],by rw [HCS.u],JX,HW6⟩
    case measure=>simp [intOf,dP.u.2];have:=bS.u;omega
   ·have aqa:(ar y.k==2)=false:=sU Zt
    have aqb:decide (ar y.k=2)=false:=sU Zt
    have HCS:Hid (Bi x p (gs.take (k+1))=a):=by unfold Hid;rw [Ia HY.u,HA.u];unfold cst;rw [aK Zt];omega
    clear Zt y0 y1 y2 y3;go_wp2_with fail;go_roundw
    case rel=>exact ⟨k+1,oM bS.u,by first|rfl|rw [dP.u.1]|rw [dP.u.2],by rw [HCS.u],JX,Ko⟩
    case measure=>simp [intOf,dP.u.2];have:=bS.u;omega
  ·have jT:k=n:=aa
   subst jT;have Kv:Hid (rX x p gs=a):=by
    have h1:=BP.u;have h2:=HA.u;rw [lE gh] at h1 h2;unfold Hid;rw [Yj OZ.u h1,h2]
   go_wp2;go_ret
   exact ⟨dZ Kv.u.symm,HW.u.1⟩
theorem EU {P:Prop} (h:P:=by
 go_wp2_with fail;go_roundw
 case rel=>exact ⟨k+1,(p,C),A4,c4,oM bS.u,by first|rfl|rw [dP.u.1]|rw [dP.u.2],rfl,by rw [HLP.u],Ha,(by have:=HGE.u;unfold Hid;simp only;omega),JY,iN⟩
 case measure=>simp [intOf,dP.u.2];have:=bS.u;omega):P:=h
theorem EV {P:Prop} (h:P:=by
 go_wp2_with fail;go_roundw
 case rel=>exact ⟨k+1,s,Ab,cb,oM bS.u,by first|rfl|rw [dP.u.1]|rw [dP.u.2],rfl,rfl,Ha,Rc,JY,iN⟩
 case measure=>simp [intOf,dP.u.2];have:=bS.u;omega):P:=h
theorem rZ (A:OA) (n c:Nat) (gs:List Gt) (v:Value) (x:Gr) (w:World) (h:Rd w w.heap.size 4 A n (ak gs)) (hn:n<=200000000000) (hv:eR w w.heap.size v x) (hl:x.es.length<=2000000000000) (h1:1<=x.n) (h4:x.n<=4):
  Calls prog 47 #[.slice A n c,v] w fun e w'=>(∃u,e=.returned u/\w'.ownsRow w.heap.size 3 1 u (rY x gs).length (aG (rY x gs)))/\Ext w w':=by
 have dB:=hY (h.len Gt.aE aa);have HR:=hY h;have HV:=hY hv;obtain ⟨A1,c1,rfl,hes⟩:=hv;obtain ⟨le,hle⟩:=ex (x.es.length);rw [hle] at HV |-;have Ur:le<=2000000000000:=aa
 have Zj:=hY hle;obtain ⟨N,hN⟩:=lD (aa:0<=x.n);have HN:=hY hN;have hN4:1<=N/\N<=4:=aa
 have HW1:Hid (Ext w (w.alloc (cO #[iI (N:Int),.slice A1 le c1] 42))/\ay (w.alloc (cO #[iI (N:Int),.slice A1 le c1] 42)) w.heap.size 42 #[iI (N:Int),.slice A1 le c1]):=⟨(xZ w).alloc _,ay.new w _ _⟩;rw [hN] at HV |-;clear h hes hle hl hN h1 h4;go_enter func47,ntmps47;go_upto_region 1 with fail;have hW1:(w.alloc (cO #[iI (N:Int),.slice A1 le c1] 42)).heap.size=w.heap.size+1:=bQ _ _;generalize w.alloc (cO #[iI (N:Int),.slice A1 le c1] 42)=W1 at*
 go_upto_region 2 with fail;have rP:Hid ((W1.alloc (cO #[] 3)).ownsRow w.heap.size 3 1 (.slice (some ⟨w.heap.size+1,0,none⟩) 0 0) 0 (aG [])):=by have h9:=aJ w W1 3 1 HW1.u.1;rw [hW1] at h9;exact h9
 have TX:Hid (Ext w (W1.alloc (cO #[] 3))/\ay (W1.alloc (cO #[] 3)) w.heap.size 42 #[iI (N:Int),.slice A1 le c1]):=⟨HW1.u.1.alloc _,HW1.u.2.alloc _⟩;clear HW1 hW1;generalize W1.alloc (cO #[] 3)=W2 at*
 obtain ⟨⟨t0,t1⟩,-⟩:=bt TX.u.2;go_wp2_with fail;refine (pk N hN4.1 hN4.2 _).mono ?_;rintro e w3 ⟨⟨v3,vs,rfl,jm,Qo⟩,bT⟩;obtain ⟨A3,c3,rfl,-⟩:=au jm;obtain ⟨ps,hps⟩:=ex (Bh N N []);have HPS:=hY hps;have xq:ps.length<=256:=by
  have h8:=BM hN4.2 N [];have h9:(4:Nat) ^ N<=4 ^ 4:=zN aa hN4.2;rw [hps] at h8;omega
 have Yk:Hid (∀p∈ps,p.length<=4):=fun p hp=>by
  rw [<-hps] at hp;have:=JN _ _ p hp;simp at this;omega
 rw [hps] at jm Qo |-;obtain ⟨m,hm⟩:=ex (ps.length);have HM:=hY hm;rw [hm] at jm xq |-;have sr:Hid (w3.ownsRow w.heap.size 27 1 (.slice A3 m c3) m vs/\eO w w3 vs ps):=⟨aC jm TX.u.1.size,Qo.base TX.u.1.size⟩;have SE:Hid (Ext w w3/\ay w3 w.heap.size 42 #[iI (N:Int),.slice A1 le c1]):=⟨TX.u.1.trans bT,TX.u.2.ext bT⟩;have lq:=hY (aq rP.u bT);have MZ:Hid (([], -1)=Gg x gs (ps.take 0)):=rfl;clear jm Qo bT hps hm TX rP t0 t1;go_wp2
 go_loopw [5,6,8] (fun bv lv iv wr=>∃(k:Nat) (s:List Int ×Int) (Ab:OA) (cb:Nat),k<=m/\iv=iI k/\lv=iI s.2/\bv=.slice Ab s.1.length cb/\Hid (s=Gg x gs (ps.take k))/\Hid (-1<=s.2/\s.2<=800000000000)/\Hid (wr.ownsRow w.heap.size 3 1 (.slice Ab s.1.length cb) s.1.length (aG s.1))/\Hid (Ext w3 wr)) (fun _ _ i _=>m - (intOf i).toNat)
 case atStart=>exact ⟨0,([], -1),_,0,lJ _,rfl,rfl,rfl,MZ,bZ,lq,xZ _⟩
 case round=>
  clear lq MZ;obtain ⟨k,s,Ab,cb,hk,rfl,rfl,rfl,HS,Rc,HOB,HX⟩:=hrel;have hsb:=Rc.u
  by_cases bh:k<m
  ·have bS:=hY bh;have how:=aq sr.u.1 HX.u;obtain ⟨gw,uw,hXw,-,hvw,To,-⟩:=wS how bh;have hpk:ps[k]?=some (ps[k]'(by rw [HM.u];exact bh)):=lB _;generalize ps[k]'(by rw [HM.u];exact bh)=p at hpk;obtain ⟨A4,c4,hv4,rk⟩:=(sr.u.2.ext HX.u).2 k p hpk;rw [hvw] at hv4
   cases hv4
   subst hXw;have HPK:=hY hpk;have nB:=hY rk;have VH:=hY (Rd.own rk);have hc4:=ue rk;have hp4:=Yk.u p (lG hpk);have dP:=hY (wC k aa);obtain ⟨⟨t0,t1⟩,-⟩:=bt (SE.u.2.ext HX.u);have ke:Hid (Ext w wr):=SE.u.1.trans HX.u;have hcb:=abW x p gs;rw [dB.u] at hcb;obtain ⟨C,hC⟩:=ex (rX x p gs);have HC:=hY hC;rw [hC] at hcb;have aw1: -200000000001<=C/\C<=800000000000:=aa
   have aZ:=hY (Tn (x:=x) (gs:=gs) hpk);obtain ⟨lp,Hi⟩:=ex (p.length);have HLP:=hY Hi;rw [Hi] at VH hc4 hp4 To;clear how hvw hpk rk hC hcb Hi;go_wp2;go_still_tail 6,af;change wpList _ _ _ _ _ wr.drew;go_wp2_with fail;refine (uB A n c gs _ x A4 lp c4 p _ (HR.u.ext (ke.u.trans (xZ wr).drew)) hn (by have h9:=ka HV.u (ke.u.trans (xZ wr).drew);exact h9) oJ (VH.u.ext (xZ wr).drew) aa hc4).mono ?_;rintro e w5 ⟨rfl,cN⟩;rw [HC.u];have iN:Hid (Ext w3 w5):=HX.u.trans ((xZ wr).drew.trans cN);have Yl:Hid (Ext wr w5):=(xZ wr).drew.trans cN;have aw2:w5.cell? (aA gw k)=some (.slice A4 lp c4):=by
    have h9:=aq (sr.u.1) HX.u
    exact (Below.cell Yl.u (p:=(aA gw k)) (h9.lt gw rfl).2).trans To
   clear cN To t0 t1
   by_cases tS:0<=C
   ·have d1:decide (0<=C)=true:=sU tS
    have d2:decide (C>=0)=true:=sU tS
    have HGE:=hY tS
    by_cases na:s.2<0
    ·have d3:decide (s.2<0)=true:=sU na
     have Ha:Hid ((p,C)=Gg x gs (ps.take (k+1))):=by
      unfold Hid;rw [aZ.u,<-HS.u];unfold tO;rw [HC.u,aX ⟨tS,.inl na⟩]
     have JY:=hY (aq nB.u Yl.u);clear tS na
     exact EU
    ·have d3:decide (s.2<0)=false:=sU na
     by_cases Vi:C<s.2
     ·have d4:decide (C<s.2)=true:=sU Vi
      have Ha:Hid ((p,C)=Gg x gs (ps.take (k+1))):=by
       unfold Hid;rw [aZ.u,<-HS.u];unfold tO;rw [HC.u,aX ⟨tS,.inr Vi⟩]
      have JY:=hY (aq nB.u Yl.u);clear na Vi
      exact EU
     ·have d4:decide (C<s.2)=false:=sU Vi
      have Ha:Hid (s=Gg x gs (ps.take (k+1))):=by
       unfold Hid;rw [aZ.u,<-HS.u];unfold tO;rw [HC.u,aK aa]
      have JY:=hY (aq HOB.u Yl.u);clear na Vi tS
      exact EV
   ·have d1:decide (0<=C)=false:=sU tS
    have d2:decide (C>=0)=false:=sU tS
    have Ha:Hid (s=Gg x gs (ps.take (k+1))):=by
     unfold Hid;rw [aZ.u,<-HS.u];unfold tO;rw [HC.u,aK aa]
    have JY:=hY (aq HOB.u Yl.u);clear tS
    exact EV
  ·have jT:k=m:=aa
   subst jT;have Kv:Hid (rY x gs=s.1):=by
    unfold Hid rY;rw [HN.u,uG,HPS.u,HS.u,lE (by rw [HM.u];exact lI _)]
   go_wp2;go_ret;rw [Kv.u]
   exact ⟨⟨_,rfl,HOB.u⟩,SE.u.1.trans HX.u⟩
end Go.Proofs.YtiajdbllccmokaaGreatDoor
