import Derived.Test.YtodhjgngkkcjgaaGreatDoorXy
import Derived.Test.YtodhjgngkkcjgaaGreatDoorXw
namespace Go.Proofs.YtodhjgngkkcjgaaGreatDoor
open Go.ChangeShapes Go.WideShapes Go.ChangeAt Go.RowKit Go.Deep Go.Proofs.Tryz
set_option linter.unusedVariables false
set_option linter.unusedSimpArgs false
set_option maxRecDepth 100000
set_option maxHeartbeats 16000000
theorem ZW {w:World} {B B' e e' size ad0 n n':Nat} {v v':Value} {xs xs':List Value} (h:w.ownsRow B e size v n xs) (h':w.ownsRow B' e' ad0 v' n' xs') (hne:e≠e') {g:Nat} (hg:v.ownBlock=some g):v'.ownBlock≠some g:=by
 intro Bc;rcases h.2 with ⟨rfl,_⟩|⟨b,cap,cur,rfl,_,hc,_⟩
 ·cases hg
 ·rcases h'.2 with ⟨rfl,_⟩|⟨b',jM,abn,rfl,_,uF,_⟩
  ·cases Bc
  ·injection hg with hg;injection Bc with Bc;subst hg Bc;rw [hc] at uF;injection uF with uF;injection uF with _ uF
   exact hne uF
theorem kD {w w':World} {B B' e e' size ad0 n n':Nat} {v v':Value} {xs xs':List Value} (h:w.ownsRow B e size v n xs) (h':w.ownsRow B' e' ad0 v' n' xs') (hne:e≠e') (hg:w.grownBy w' v'.ownBlock):w'.ownsRow B e size v n xs:=by
 refine h.kept hg ?_
 cases hv:v.ownBlock with
 |none=>exact .inl rfl
 |some k=>exact .inr fun e1=>ZW h h' hne hv e1.symm
def MN (w:World) (r:List Gt ×List Int) (e:Ending) (w':World):Prop:=
 ∃v A len cap,e=.returned (.tuple #[v,.slice A len cap])/\len=r.2.length/\len<=cap/\w'.ownsRow w.heap.size 39 4 v r.1.length (aq r.1)/\w'.ownsRow w.heap.size 3 1 (.slice A len cap) len (aD r.2)/\Ext w w'
theorem Pj {w:World} {B e size n c:Nat} {A:OA} {xs:List Value} (h:w.ownsRow B e size (.slice A n c) n xs):n<=c:=by
 rcases h.2 with ⟨h0,rfl⟩|⟨g,cap,cur,hv,_,_,LR,_⟩
 ·omega
 ·injection hv with _ _ h3;omega
theorem MN.mk {w Wb w':World} {r:List Gt ×List Int} {v:Value} {A:OA} {n cap:Nat} {gs:List Gt} {q:List Int} (hr:r=(gs,q)) (hx:Ext w Wb) (hg:w'.ownsRow Wb.heap.size 39 4 v gs.length (aq gs)) (hp:w'.ownsRow Wb.heap.size 3 1 (.slice A n cap) n (aD q)) (hw:Ext Wb w') (hq:q.length=n):MN w r (.returned (.tuple #[v,.slice A n cap])) w':=by
 subst hr
 exact ⟨v,A,n,cap,rfl,hq.symm,Pj hp,aC hg hx.size,aC hp hx.size,hx.trans hw⟩
theorem JH {w:World} {B n i j:Nat} {A:OA} {xs:List Int} {y z:Int} (h:Rd w B 1 A n (aD xs)) (hi:i<n) (hj:j<n) (hy:xs[i]?=some y) (hz:xs[j]?=some z):
  ∃b o,A=some ⟨b,o,none⟩/\b<B/\w.cell? (aA b (o+i))=some (iI y)/\w.cell? (aA b (o+j))=some (iI z):=by
 obtain ⟨b,o,y',rfl,hb,Lr,c1⟩:=du h hi;obtain ⟨b',o',z',e,_,Ua,c2⟩:=du h hj;injection e with e;injection e with e1 e2;subst e1 e2;rw [hy] at Lr;rw [hz] at Ua;injection Lr with Lr;injection Ua with Ua;subst Lr Ua
 exact ⟨b,o,rfl,hb,c1,c2⟩
def aqf:Value->Nat
 | .slice _ n _=>n
 |_=>0
theorem asL:(39:Nat)≠3:=ae
theorem Fv:(3:Nat)≠39:=ae
theorem AO (g:Gt) (v:Value) (x:Gr) (A:OA) (n c:Nat) (p:List Int) (w:World) (h:fB w w.heap.size v x) (hl:x.es.length<=2000000000000) (hp:Rd w w.heap.size 1 A n (aD p)) (hn:n<=2000000000000) (hc:n<=c):
  Calls prog 133 #[g.val,v,.slice A n c] w (MN w (qX x g p)):=by
 have hlen:=hY (hp.len bG aa);obtain ⟨A1,c1,rfl,h1⟩:=h;have HG:Hid (∀w',Ext w w'->fB w' w'.heap.size (.agg #[iI x.n,.slice A1 x.es.length c1]) x):=fun w' hx=>⟨A1,c1,rfl,h1.ext hx⟩
 clear h1;have KV:au ((w.alloc (.cells #[iI g.k,iI g.a,iI g.b,iI g.c] 39)).alloc (.cells #[iI x.n,.slice A1 x.es.length c1] 63)) w.heap.size 39 #[iI g.k,iI g.a,iI g.b,iI g.c]:=(au.new _ _ _).alloc _;have dx:au ((w.alloc (.cells #[iI g.k,iI g.a,iI g.b,iI g.c] 39)).alloc (.cells #[iI x.n,.slice A1 x.es.length c1] 63)) (w.heap.size+1) 63 #[iI x.n,.slice A1 x.es.length c1]:=au.newAt ag;have dN:Ext w ((w.alloc (.cells #[iI g.k,iI g.a,iI g.b,iI g.c] 39)).alloc (.cells #[iI x.n,.slice A1 x.es.length c1] 63)):=aw
 have MA:=hY KV;have bW:=hY dx;have qc:=hY dN;clear dx dN KV;go_enter func133,ntmps133;go_upto_region 1 with fail;have KV:=MA.u;have dx:=bW.u;have dN:=qc.u;clear bW qc MA;generalize ((w.alloc (.cells #[iI g.k,iI g.a,iI g.b,iI g.c] 39)).alloc (.cells #[iI x.n,.slice A1 x.es.length c1] 63))=Wb at*
 have hE:Ext Wb Wb:=xZ _;go_upto_region 2 with fail;have hoG:(Wb.alloc (.cells #[] 39)).ownsRow Wb.heap.size 39 4 (.slice (some ⟨Wb.heap.size,0,none⟩) 0 0) 0 (aq []):=bS (xZ _) _ _ 4 0 #[] _ rfl rfl rfl aa;have hxG:Ext Wb (Wb.alloc (.cells #[] 39)):=(xZ _).alloc _;generalize (Wb.alloc (.cells #[] 39))=Wg at*
 go_upto_region 3 with (at_builtin;refine oJ (w0:=Wg) rfl _ _ rfl _ 0 [] rfl (bS aw _ _ 1 0 #[] _ ag rfl rfl aa) aw A n c p rfl ((hp.ext (dN.trans hxG)).ext aw) aa ?_;intro v1 w1 eu aK Be ky)
 have aqg:=aj hoG aK;replace eu:=aC eu hxG.size;replace aK:=hxG.trans aK;simp only [lM,lN] at eu;clear Be ky hE;have xL:=dN.trans aK;have Ts:=KV.ext aK;have qA:=dx.ext aK;have b0:=Ts.ck 0;have b1:=Ts.ck 1;have b2:=Ts.ck 2;have b3:=Ts.ck 3;have d0:=qA.ck 0;have d1:=qA.ck 1;obtain ⟨Al,cl,rfl,_⟩:=ak eu;go_wp2_with fail;refine (lf g _ x A n c p _ (HG.u _ xL) hl (hp.ext xL) hn hc).mono ?_;rintro e w2 ⟨rfl,bz⟩;have fg:=aj eu bz;have ZX:=aj aqg bz;replace aK:=aK.trans bz;replace Ts:=Ts.ext bz;replace qA:=qA.ext bz;clear b0 b1 b2 b3 d0 d1 eu xL bz hoG hxG aqg
 cases hm:may g x p
 ·have HR:=hY (Jx hm);clear hm;go_wp2;go_ret2
  exact MN.mk HR.u dN ZX fg aK hlen.u
 have b0:=Ts.ck 0;have b1:=Ts.ck 1;have b2:=Ts.ck 2;have b3:=Ts.ck 3;have d0:=qA.ck 0;have d1:=qA.ck 1
 cases h1:(ar g.k==1)
 case true=>
  have HR:=hY (Fs hm h1);obtain ⟨ia,y,hga,hia,hy,qe,hp4,_⟩:=adN hm;have Jl:=hY qe;have HY:=hY hy;have Tn:=hlen.u;have ZY:ia<n:=aa
  have h9:(g.k !=9)=true:=by cases hq:(g.k==9) with|false=>simp [bne,hq]|true=>(rw [eS] at hq;rw [hq] at h1;cases h1)
  obtain ⟨bl,ol,y',rfl,Ll,Lr,q0⟩:=du hp ZY;have hyy:y'=y:=by rw [HY.u] at Lr;injection Lr with Lr;exact Lr.symm
  subst hyy;rw [hga] at b1;have HQ:Hid (∀w',Ext Wb w'->w'.cell? (aA w.z 0)=some (iI g.k)/\w'.cell? (aA w.z 1)=some (iI (ia:Int))/\w'.cell? (aA bl (ol+ia))=some (iI y')):=fun w' z=>⟨(KV.ext z).cell 0,by rw [<-hga];exact (KV.ext z).cell 1,((dN.trans z).cell (p:=(aA bl (ol+ia))) Ll).trans q0⟩
  have q0':w2.cell? (aA bl (ol+ia))=some (iI y'):=(HQ.u _ aK).2.2;have TW:(0:Int)<=(ia:Int):=aa
  have zG:(ia:Int)<(n:Int):=aa
  have avm:=hY qe;clear qe hy Lr Tn hga hm HY;go_wp2;have fH:=xZ w2
  first|go_region_held3 (fun w'=>w'.cell? (aA w.z 0)=some (iI g.k)/\w'.cell? (aA w.z 1)=some (iI (ia:Int))/\w'.cell? (aA bl (ol+ia))=some (iI y'))
   (first|go_keep|(refine HQ.u _ ?_;assumption)|(refine HQ.u _ (aK.trans ?_);exact xx;done))
   (first
    |(go_at_call 126;(with_reducible refine (aP (w0:=w2) _ _ _ aw).mono ?_);clear fH;rintro e w' ⟨rfl,fH⟩)
    |(refine GS (B:=Wb.heap.size) ah _ _ ah _ 0 [] ah (aj ZX fH) (lK aK.size fH.size) (g1 g.k y') _ _ ah ah aa ?_;intro A4 c4 w4 uJ Fa hb4;have hz4:Ext Wb w4:=(aK.trans fH).grown Fa (fun k hk=>((aj ZX fH).lt k hk).1)))|fail
  all_goals
   go_wp2;go_ret2
   exact MN.mk (HR.u.trans (by rw [avm.u])) dN (gs:=[g1 g.k y']) uJ (kD (aj fg fH) (aj ZX fH) Fv Fa) hz4 hlen.u
 obtain ⟨ia,ib,hga,hgb,_,UZ⟩:=sM.of hm h1;have HR:=hY (Ft hm h1);have h9:(g.k !=9)=false:=by (have hb:Tq g=true:=by {unfold may at hm;simp only [lF] at hm;exact hm.1.2});unfold Tq at hb;rw [h1,ju] at hb;simp [bne,hb]
 rw [hga,hgb] at HR;obtain ⟨T,hT⟩:=ey (AJ x ia ib 4 p);rw [<-hT] at HR;have HT0:Hid (([]:List Gt)++(AJ x ia ib 4 p).1=T.1/\(AJ x ia ib 4 p).2=T.2):=by rw [hT];exact ⟨rfl,rfl⟩
 have Tn:=hlen.u;have hxn:x.n=(n:Int):=oM UZ.len
 have zn:n<=4:=oM ((xH UZ.perm).2)
 have ZY:ia<n:=oM UZ.ha
 have aqh:ib<n:=oM UZ.hb
 have hg0:=sD x (loc p ia) (loc p ib);have HXN:=hY hxn;have HQ:Hid (∀w',Ext Wb w'->w'.cell? (aA w.z 1)=some (iI (ia:Int))/\w'.cell? (aA w.z 2)=some (iI (ib:Int))/\w'.cell? (aA (w.z+1) 0)=some (iI x.n)/\w'.cell? (aA (w.z+1) 1)=some (.slice A1 x.es.length c1)):=fun w' z=>⟨by rw [<-hga];exact (KV.ext z).cell 1,by rw [<-hgb];exact (KV.ext z).cell 2,(dx.ext z).cell 0,(dx.ext z).cell 1⟩
 have TW:(0:Int)<=(ia:Int):=aa
 have zG:(ia:Int)<(n:Int):=aa
 have KZ:(0:Int)<=(ib:Int):=aa
 have VU:(ib:Int)<(n:Int):=aa
 have avn:(1:Int)<2:=aa
 clear hT Tn hxn hm hga hgb Ts qA avn;have vk:=hY fg;have HOG:=hY ZX;have cH:=hY aK;clear fg ZX aK;go_wp2;clear b0 b1 b2 b3 d0 d1
 go_loopw [8,9] (fun vo vl wr=>∃(f:Nat) (now:List Int) (out:List Gt) (A:OA) (c:Nat) (Ao:OA) (m co:Nat),vl=.slice A n c/\vo=.slice Ao m co/\m+f=4/\Hid (out.length=m)/\sM x ia ib now/\gd x (loc now ia) (loc now ib)<=f/\Hid (out++(AJ x ia ib f now).1=T.1/\(AJ x ia ib f now).2=T.2)/\wr.ownsRow Wb.heap.size 39 4 (.slice Ao m co) m (aq out)/\wr.ownsRow Wb.heap.size 3 1 (.slice A n c) n (aD now)/\Ext Wb wr) (fun vo vl _=>5 - aqf vo)
 case atStart=>exact ⟨4,p,[],Al,cl,_,0,_,rfl,rfl,rfl,rfl,UZ,hg0.2,HT0,HOG.u,vk.u,cH.u⟩
 case round=>
  clear vk HOG cH HT0 hg0 UZ;obtain ⟨f,now,out,Al,cl,Ao,m,co,rfl,rfl,hmf,HM,hW,hgf,HT,ho,LD,hx⟩:=hrel;obtain ⟨y,hy,ly,y0,y1⟩:=hW.at_ hW.ha;obtain ⟨z,hz,lz,z0,z1⟩:=hW.at_ hW.hb;have Bk:now.length=n:=oN hW.len HXN.u
  have HNL:=hY Bk;obtain ⟨bl,ol,rfl,Ll,cy,cz⟩:=JH (Rd.own LD) ZY aqh hy hz;have HK:Hid (∀w',Ext wr w'->w'.cell? (aA w.z 1)=some (iI (ia:Int))/\w'.cell? (aA w.z 2)=some (iI (ib:Int))/\w'.cell? (aA (w.z+1) 0)=some (iI x.n)/\w'.cell? (aA (w.z+1) 1)=some (.slice A1 x.es.length c1)/\w'.cell? (aA bl (ol+ia))=some (iI y)/\w'.cell? (aA bl (ol+ib))=some (iI z)):=fun w' q=>⟨(HQ.u _ (hx.trans q)).1,(HQ.u _ (hx.trans q)).2.1,(HQ.u _ (hx.trans q)).2.2.1,(HQ.u _ (hx.trans q)).2.2.2,(q.cell (p:=(aA bl (ol+ia))) Ll).trans cy,(q.cell (p:=(aA bl (ol+ib))) Ll).trans cz⟩
  have HK4:Hid (∀w',Ext Wb w'->w'.ownsRow Wb.heap.size 3 1 (.slice (some ⟨bl,ol,none⟩) n cl) n (aD now)->w'.cell? (aA w.z 1)=some (iI (ia:Int))/\w'.cell? (aA w.z 2)=some (iI (ib:Int))/\w'.cell? (aA (w.z+1) 0)=some (iI x.n)/\w'.cell? (aA (w.z+1) 1)=some (.slice A1 x.es.length c1)/\w'.cell? (aA bl (ol+ia))=some (iI y)/\w'.cell? (aA bl (ol+ib))=some (iI z)):=fun w' q r=>by
   obtain ⟨b',o',e',_,Zm,c2'⟩:=JH (Rd.own r) ZY aqh hy hz;injection e' with e';injection e' with e1 e2;subst e1 e2
   exact ⟨(HQ.u _ q).1,(HQ.u _ q).2.1,(HQ.u _ q).2.2.1,(HQ.u _ q).2.2.2,Zm,c2'⟩
  have Bc:gd x (loc now ia) (loc now ib)=gd x y z:=by rw [ly,lz]
  rw [Bc] at hgf;obtain ⟨G,hG⟩:=ey (gd x y z);have HGD:=hY hG;rw [<-hG] at hgf;have HY:=hY hy;have HZ:=hY hz;have HLY:=hY ly;have HLZ:=hY lz;have VJ:=hY Bc;have HW:=hY hW;clear hG hy hz ly lz Bc Bk cy cz hW;obtain ⟨b1,b2,d0,d1,cy,cz⟩:=HK.u wr (xZ wr)
  by_cases hg:1<G
  ·obtain ⟨f,rfl⟩:∃f',f=f'+1:=⟨f - 1,aa⟩;obtain ⟨s,t,rest,UM,OM,hs3,_,_,sH⟩:=HW.u.step (by rw [VJ.u,<-HGD.u];exact hg);rw [HLY.u,HLZ.u] at UM;rw [VJ.u,<-HGD.u] at hs3;have hl6:(qd now s t).length=n:=oN OM.len HXN.u
   have Bf:=hY UM;have si:=hY OM;have Dl:=hY hs3;have vE:=hY sH;have Va:=hY hl6;clear UM OM hs3 sH hl6;go_wp2
   first|go_region_held3 (fun w'=>w'.cell? (aA w.z 1)=some (iI (ia:Int))/\w'.cell? (aA w.z 2)=some (iI (ib:Int))/\w'.cell? (aA (w.z+1) 0)=some (iI x.n)/\w'.cell? (aA (w.z+1) 1)=some (.slice A1 x.es.length c1)/\w'.cell? (aA bl (ol+ia))=some (iI y)/\w'.cell? (aA bl (ol+ib))=some (iI z))
    (first|(refine HK.u _ ?_;assumption)|exact HK.u _ (xZ wr).drew|go_keep)
    (first|(go_at_call 125;refine (bV _ x y z _ (HG.u _ (dN.trans hx.drew)) hl).mono ?_;rintro e w3 ⟨rfl,ig⟩;replace ig:Ext wr w3:=Ext.trans (xZ wr).drew ig;rw [<-HGD.u]))|fail
   clear b1 b2 d0 d1 cy cz;obtain ⟨b1,b2,d0,d1,cy,cz⟩:=HK.u w3 ig;have bO:=hx.trans ig;go_wp2
   first|go_region_held3 (fun w'=>w'.cell? (aA w.z 1)=some (iI (ia:Int))/\w'.cell? (aA w.z 2)=some (iI (ib:Int))/\w'.cell? (aA (w.z+1) 0)=some (iI x.n)/\w'.cell? (aA (w.z+1) 1)=some (.slice A1 x.es.length c1)/\w'.cell? (aA bl (ol+ia))=some (iI y)/\w'.cell? (aA bl (ol+ib))=some (iI z))
    (first|(refine HK.u _ (ig.trans ?_);assumption)|exact HK.u _ ig.drew|go_keep)
    (first|(go_at_call 157;refine (mq _ x y z _ (HG.u _ (dN.trans bO.drew)) hl).mono ?_;rintro e w4 ⟨Aw,lw,cw,rfl,ad2,ad3,Ha⟩;have HLW:=hY ad2;have how:=hY ad3;clear ad2 ad3;replace Ha:Ext w3 w4:=Ext.trans (xZ w3).drew Ha))|fail
   clear b1 b2 d0 d1 cy cz;have Ze:=HLW.u;replace how:=how.u;rw [Bf.u] at Ze how;have aB1:2<=lw:=by rw [Ze];simp
   clear Ze HLW;have fy:=bO.trans Ha;have ajp:=aj LD (ig.trans Ha);have uJ:=aj ho (ig.trans Ha);obtain ⟨bw,ow,rfl,_,k0,k1⟩:=JH (Rd.own how) (show 0<lw by omega) (show 1<lw by omega) (y:=s) (z:=t) rfl rfl;obtain ⟨Bw,hBw⟩:=ey (w3.drew.heap.size);rw [<-hBw] at how;have HKW:Hid (∀w':World,w'.ownsRow Bw 3 1 (.slice (some ⟨bw,ow,none⟩) lw cw) lw (aD (s::t::rest))->w'.cell? (aA bw ow)=some (iI s)/\w'.cell? (aA bw (ow+1))=some (iI t)):=fun w' r=>by
    obtain ⟨b',o',e',_,Zm,c2'⟩:=JH (Rd.own r) (show 0<lw by omega) (show 1<lw by omega) (y:=s) (z:=t) rfl rfl;injection e' with e';injection e' with e1 e2;subst e1 e2
    exact ⟨Zm,c2'⟩
   have aB2:(0:Int)<(lw:Int):=aa
   have ayx:0<lw:=aa
   have ayy:1<lw:=aa
   have aB3:(1:Int)<(lw:Int):=aa
   have HOW:=hY how;have qh:=hY uJ;have aqi:=hY ajp;have ZJ:=(xZ w4).drew;clear how uJ ajp hBw k0 k1 ho LD;obtain ⟨k0,k1⟩:=HKW.u w4 HOW.u;go_wp2
   first|go_region_held3 (fun w'=>w'.cell? (aA bw ow)=some (iI s)/\w'.cell? (aA bw (ow+1))=some (iI t))
    (first|(refine HKW.u _ ?_;assumption)|exact HKW.u _ (aj HOW.u ZJ)|go_keep|(refine HKW.u _ (aj HOW.u ?_);exact xx;done))
    (first|(refine GS (B:=Wb.heap.size) ah _ _ ah _ m out ah (aj qh.u ZJ) (lK fy.size ZJ.size) ⟨11,s,t,0⟩ _ _ ah ah aa ?_;intro A5 c5 w5 kg zK NZ;have hw5:=kD (aj HOW.u ZJ) (aj qh.u ZJ) Fv zK))|fail
   have cI:Ext Wb w5:=(fy.trans ZJ).grown zK (fun k hk=>((aj qh.u ZJ).lt k hk).1);have UE:=kD (aj aqi.u ZJ) (aj qh.u ZJ) Fv zK;clear k0 k1;obtain ⟨k0,k1⟩:=HKW.u w5 hw5;have jL:=hY kg;have Qg:=hY hw5;have Si:=hY UE;have avp:=Pj UE;have hd5:=(xZ w5).drew;clear kg hw5 UE zK NZ;go_wp2
   first|go_region_held3 (fun w'=>w'.cell? (aA bw ow)=some (iI s)/\w'.cell? (aA bw (ow+1))=some (iI t))
    (first|(refine HKW.u _ (aj Qg.u ?_);assumption)|exact HKW.u _ (aj Qg.u hd5)|go_keep|(refine HKW.u _ (aj Qg.u ?_);exact xx;done))
    (first|(go_at_call 158;refine (xX _ n cl now s t _ (Rd.own (aj Si.u hd5)) aa avp).mono ?_;rintro e w6 ⟨v6,rfl,vD,qB⟩;replace qB:Ext w5 w6:=Ext.trans hd5 qB))|fail
   rw [Va.u] at vD;obtain ⟨A6,c6,rfl,_⟩:=ak vD;have hb6:=lK cI.size hd5.size;have mn:=hY (aC vD hb6);clear vD k0 k1;go_wp2;go_roundw
   case rel=>exact ⟨f,qd now s t,out++[⟨11,s,t,0⟩],A6,c6,A5,m+1,c5,rfl,rfl,aa,by unfold Hid;rw [lA,HM.u];rfl,si.u,by rw [Dl.u];omega,by have h1:=HT.u;rw [vE.u] at h1;unfold Hid;rw [vJ];exact h1,aj jL.u qB,mn.u,cI.trans qB⟩
   case measure=>simp [aqf];omega
  ·have bf:=hY (Sd (x:=x) (a:=ia) (b:=ib) (now:=now) f (by rw [VJ.u,<-HGD.u];exact hg));go_wp2
   first|go_region_held3 (fun w'=>w'.cell? (aA w.z 1)=some (iI (ia:Int))/\w'.cell? (aA w.z 2)=some (iI (ib:Int))/\w'.cell? (aA (w.z+1) 0)=some (iI x.n)/\w'.cell? (aA (w.z+1) 1)=some (.slice A1 x.es.length c1)/\w'.cell? (aA bl (ol+ia))=some (iI y)/\w'.cell? (aA bl (ol+ib))=some (iI z))
    (first|(refine HK.u _ ?_;assumption)|exact HK.u _ (xZ wr).drew|go_keep)
    (first|(go_at_call 125;refine (bV _ x y z _ (HG.u _ (dN.trans hx.drew)) hl).mono ?_;rintro e w3 ⟨rfl,ig⟩;replace ig:Ext wr w3:=Ext.trans (xZ wr).drew ig;rw [<-HGD.u]))|fail
   clear b1 b2 d0 d1 cy cz;obtain ⟨b1,b2,d0,d1,cy,cz⟩:=HK.u w3 ig;have ie:=aj ho ig;have ajr:=aj LD ig;have bO:=hx.trans ig;have mf:=hY ie;have aqj:=hY ajr;clear ie ajr ho LD;go_wp2;have fH:=xZ w3
   first|go_region_held3 (fun w'=>w'.cell? (aA w.z 1)=some (iI (ia:Int))/\w'.cell? (aA w.z 2)=some (iI (ib:Int))/\w'.cell? (aA (w.z+1) 0)=some (iI x.n)/\w'.cell? (aA (w.z+1) 1)=some (.slice A1 x.es.length c1)/\w'.cell? (aA bl (ol+ia))=some (iI y)/\w'.cell? (aA bl (ol+ib))=some (iI z))
    (first|(refine HK.u _ (ig.trans ?_);assumption)|exact HK.u _ ig.drew|(refine HK4.u _ ?_ ?_<;>assumption)|go_keep|(refine HK.u _ (ig.trans ?_);exact xx;done))
    (first
     |(go_at_call 127;(with_reducible refine (dI (w0:=w3) _ _ _ aw).mono ?_);clear fH;rintro e w' ⟨rfl,fH⟩)
     |(refine GS (B:=Wb.heap.size) ah _ _ ah _ m out ah (aj mf.u fH) (lK bO.size fH.size) (hU y z) _ _ ah ah aa ?_;intro A4 c4 w4 uJ Fa hb4;have fy:Ext Wb w4:=(bO.trans fH).grown Fa (fun k hk=>((aj mf.u fH).lt k hk).1);have hl4:=kD (aj aqj.u fH) (aj mf.u fH) Fv Fa))|fail
   all_goals
    go_wp2;go_ret2
    exact MN.mk (HR.u.trans (by have h1:=HT.u;rw [bf.u] at h1;rw [<-h1.1,<-h1.2,HLY.u,HLZ.u,yt])) dN (gs:=out++[hU y z]) (by rw [lA,HM.u];exact uJ) hl4 fy HNL.u
theorem ahV {w1:World} {A:OA} {n i k:Nat} {xs:List Gt} (h:Rd w1 w1.heap.size 4 A n (aq xs)) (hi:i<n) (hk:k<n):∃b o g h,A=some ⟨b,o,none⟩/\xs[i]?=some g/\xs[k]?=some h/\∀w',Ext w1 w'->(w'.cell? (aA b (o+i*4))=some (iI g.k)/\w'.cell? (aA b (o+i*4+1))=some (iI g.a)/\w'.cell? (aA b (o+i*4+2))=some (iI g.b)/\w'.cell? (aA b (o+i*4+3))=some (iI g.c))/\(w'.cell? (aA b (o+k*4))=some (iI h.k)/\w'.cell? (aA b (o+k*4+1))=some (iI h.a)/\w'.cell? (aA b (o+k*4+2))=some (iI h.b)/\w'.cell? (aA b (o+k*4+3))=some (iI h.c)):=by
 obtain ⟨b,o,g,rfl,-,hg,-⟩:=bT h hi;obtain ⟨b',o',h',he,-,hh,-⟩:=bT h hk;simp only [iG,jR] at he;obtain ⟨rfl,rfl,-⟩:=he;refine ⟨b,o,g,h',rfl,hg,hh,fun w' hx=>?_⟩;obtain ⟨b2,o2,g2,he,-,jW,x0,x1,x2,x3⟩:=bT (h.ext hx) hi;obtain ⟨b3,o3,g3,he3,-,KS,y0,y1,y2,y3⟩:=bT (h.ext hx) hk;simp only [iG,jR] at he he3;obtain ⟨rfl,rfl,-⟩:=he;obtain ⟨rfl,rfl,-⟩:=he3;rw [hg] at jW;rw [hh] at KS;obtain rfl:=kx jW;obtain rfl:=kx KS
 exact ⟨⟨x0,x1,x2,x3⟩,y0,y1,y2,y3⟩
def ad4 (w:World) (t:Option (Nat ×List Gt)) (e:Ending) (w':World):Prop:=match t with
 |none=>e=.returned (.tuple #[iI (-1),nS])
 |some p=>∃v,e=.returned (.tuple #[iI p.1,v])/\w'.ownsRow w.heap.size 39 4 v p.2.length (aq p.2)
theorem JI {w w':World} {t:Option (Nat ×List Gt)} {e:Ending} (h:t=none) (he:e=.returned (.tuple #[iI (-1),nS])):ad4 w t e w':=by subst h;exact he
theorem Vb {w w':World} {t:Option (Nat ×List Gt)} {k:Nat} {out:List Gt} {v:Value} (h:t=some (k,out)) (ho:w'.ownsRow w.heap.size 39 4 v out.length (aq out)):ad4 w t (.returned (.tuple #[iI k,v])) w':=by subst h;exact ⟨v,rfl,ho⟩
theorem ZZ (A:OA) (n c i:Nat) (xs:List Gt) (w:World) (h:Rd w w.heap.size 4 A n (aq xs)) (hn:n<=2000000000000) (hi:i<n):
  Calls prog 184 #[.slice A n c,iI i] w fun e w'=>ad4 w (YO xs i) e w'/\Ext w w':=by
 have hlen:=h.len Gt.aG aa;have HN:=hY hlen;have hi1:=wA i aa;have hi2:=wB i aa;have TW:(0:Int)<=(i:Int):=aa
 have zG:(i:Int)<(n:Int):=aa
 obtain ⟨b0,o0,g,-,-,hg0,-⟩:=bT h hi;have HG:=hY hg0;have HP:Hid (YO xs i=Wj xs g (n - (i+1)) (i+1)):=by unfold Hid YO;rw [hg0,hlen]
 have HR:=hY h;clear hlen hg0 h;go_enter func184,ntmps184;go_wp2
 go_loopw [6] (fun kv wr=>∃k:Nat,kv=iI k/\i<k/\k<=n/\Hid (YO xs i=Wj xs g (n - k) k)/\Hid (Ext w wr)) (fun kv _=>n - (intOf kv).toNat)
 case atStart=>exact ⟨i+1,by first|rfl|rw [hi1]|rw [hi2],aa,aa,HP,xZ _⟩
 case round=>
  obtain ⟨k,rfl,KY,hk,HQ,HE⟩:=hrel;clear HP
  by_cases ba:k<n
  ·have bZ:Hid (i<k/\k<n/\n<=2000000000000):=⟨KY,ba,hn⟩;obtain ⟨b,o,g',hh,rfl,jW,Lt,EM⟩:=ahV HR.u hi ba;have eg:g'=g:=by have e:=HG.u;rw [jW] at e;exact kx e
   subst eg;have HH:=hY Lt;have HK:Hid (∀w',Ext wr w'->(w'.cell? (aA b (o+i*4))=some (iI g'.k)/\w'.cell? (aA b (o+i*4+1))=some (iI g'.a)/\w'.cell? (aA b (o+i*4+2))=some (iI g'.b)/\w'.cell? (aA b (o+i*4+3))=some (iI g'.c))/\(w'.cell? (aA b (o+k*4))=some (iI hh.k)/\w'.cell? (aA b (o+k*4+1))=some (iI hh.a)/\w'.cell? (aA b (o+k*4+2))=some (iI hh.b)/\w'.cell? (aA b (o+k*4+3))=some (iI hh.c))):=fun w' hx=>EM w' (HE.u.trans hx)
   have hfu:n - k=(n - (k+1))+1:=aa
   have lu:(0:Int)<=(k:Int):=aa
   have jJ:(k:Int)<(n:Int):=aa
   have et:=wA k aa;have iM:=wB k aa;rw [hfu] at HQ;clear EM jW Lt hfu;obtain ⟨⟨g0,g1,g2,g3⟩,⟨h0,h1,h2,h3⟩⟩:=HK.u wr (xZ wr)
   cases hm:gh g' hh with
   |some out=>
    have HV:=hY (HQ.u.trans (Wk HH.u hm));have HM:=hY hm;clear hm;go_upto_region 4 with fail
    go_region_held3 (fun w'=>(w'.cell? (aA b (o+i*4))=some (iI g'.k)/\w'.cell? (aA b (o+i*4+1))=some (iI g'.a)/\w'.cell? (aA b (o+i*4+2))=some (iI g'.b)/\w'.cell? (aA b (o+i*4+3))=some (iI g'.c))/\(w'.cell? (aA b (o+k*4))=some (iI hh.k)/\w'.cell? (aA b (o+k*4+1))=some (iI hh.a)/\w'.cell? (aA b (o+k*4+2))=some (iI hh.b)/\w'.cell? (aA b (o+k*4+3))=some (iI hh.c)))
     (first|go_keep|exact HK.u _ aL)
     (first
      |(go_at_call 194;refine (oF g' hh _).mono ?_;rintro e w3 ⟨bD,bO⟩;rw [HM.u] at bD;obtain ⟨v3,rfl,ie⟩:=bD;replace bO:Ext wr w3:=(xZ wr).drew.trans bO))
    have HO:Hid (w3.ownsRow w.heap.size 39 4 v3 out.length (aq out)/\Ext w w3):=⟨aC ie HE.u.size,HE.u.trans bO⟩;clear ie bO g0 g1 g2 g3 h0 h1 h2 h3;go_wp2;go_ret2
    exact ⟨Vb HV.u HO.u.1,HO.u.2⟩
   |none=>
    have HM:=hY hm;clear hm;go_upto_region 4 with fail
    go_region_held3 (fun w'=>(w'.cell? (aA b (o+i*4))=some (iI g'.k)/\w'.cell? (aA b (o+i*4+1))=some (iI g'.a)/\w'.cell? (aA b (o+i*4+2))=some (iI g'.b)/\w'.cell? (aA b (o+i*4+3))=some (iI g'.c))/\(w'.cell? (aA b (o+k*4))=some (iI hh.k)/\w'.cell? (aA b (o+k*4+1))=some (iI hh.a)/\w'.cell? (aA b (o+k*4+2))=some (iI hh.b)/\w'.cell? (aA b (o+k*4+3))=some (iI hh.c)))
     (first|go_keep|exact HK.u _ aL)
     (first
      |(go_at_call 194;refine (oF g' hh _).mono ?_;rintro e w3 ⟨bD,bO⟩;rw [HM.u] at bD;obtain ⟨v3,rfl⟩:=bD;replace bO:Ext wr w3:=(xZ wr).drew.trans bO))
    have fD:=hY bO;clear bO g0 g1 g2 g3 h0 h1 h2 h3;obtain ⟨⟨g0,g1,g2,g3⟩,⟨h0,h1,h2,h3⟩⟩:=HK.u w3 fD.u;go_upto_region 7 with fail
    go_region_held3 (fun w'=>(w'.cell? (aA b (o+i*4))=some (iI g'.k)/\w'.cell? (aA b (o+i*4+1))=some (iI g'.a)/\w'.cell? (aA b (o+i*4+2))=some (iI g'.b)/\w'.cell? (aA b (o+i*4+3))=some (iI g'.c))/\(w'.cell? (aA b (o+k*4))=some (iI hh.k)/\w'.cell? (aA b (o+k*4+1))=some (iI hh.a)/\w'.cell? (aA b (o+k*4+2))=some (iI hh.b)/\w'.cell? (aA b (o+k*4+3))=some (iI hh.c)))
     (first|go_keep|exact HK.u _ aL)
     (first
      |(go_at_call 195;refine (uX g' hh _).mono ?_;rintro e w4 ⟨rfl,fy⟩;replace fy:Ext wr w4:=fD.u.trans ((xZ w3).drew.trans fy)))
    have Oc:=hY (HE.u.trans fy);clear fy g0 g1 g2 g3 h0 h1 h2 h3 fD
    cases hc:qL g' hh
    ·have HV:=hY (HQ.u.trans (Re HH.u HM.u hc));clear hc;go_wp2;go_ret2
     exact ⟨JI HV.u rfl,Oc.u⟩
    ·have oH:=hY (HQ.u.trans (Rc HH.u HM.u hc));clear hc;go_wp2;go_roundw
     case rel=>exact ⟨k+1,by first|rfl|rw [et]|rw [iM],oM bZ.u,oM bZ.u,oH,Oc⟩
     case measure=>simp [intOf,iM];have:=bZ.u;omega
  ·have jJ:k=n:=aa
   subst jJ;have HV:Hid (YO xs i=none):=by
    have:=HQ.u;rw [CJ] at this
    exact this
   go_wp2;go_ret2
   exact ⟨JI HV.u rfl,HE.u⟩
def brG (x:Gr) (p:List Int) (g:Gt):List Gt:=if (ar g.k==1)=true then [g1 g.k (loc p g.a)] else lr (ld x (loc p g.a) (loc p g.b))
theorem ajs {x:Gr} {p:List Int} {g:Gt} (h:(ar g.k==1)=true):brG x p g=[g1 g.k (loc p g.a)]:=aY h
theorem ajt {x:Gr} {p:List Int} {g:Gt} (h:(ar g.k==1)=false):brG x p g=lr (ld x (loc p g.a) (loc p g.b)):=aM aZ
theorem XL (x:Gr) (p:List Int) (g:Gt):(brG x p g).length<=10:=by
 unfold brG;split
 ·simp
 ·exact Um _
def Vc (x:Gr) (p:List Int) (g:Gt):Bool:=may g x p
def EO (x:Gr) (p:List Int) (gs:List Gt):Bool:=lay x p && gs.all (Vc x p)
def brR (x:Gr) (p:List Int) (gs:List Gt):List Gt:=if EO x p gs=true then gs.flatMap (brG x p) else []
theorem ad5 {x:Gr} {p:List Int} {gs:List Gt} (h:EO x p gs=false):brR x p gs=[]:=aM aZ
theorem XM {x:Gr} {p:List Int} {gs:List Gt} (h:EO x p gs=true):brR x p gs=gs.flatMap (brG x p):=aY h
theorem Vd {x:Gr} {p:List Int} {gs:List Gt} (h:lay x p=false):EO x p gs=false:=by unfold EO;rw [h];rfl
theorem alU {x:Gr} {p:List Int} {gs:List Gt} (h:gs.all (Vc x p)=false):EO x p gs=false:=by unfold EO;rw [h];simp
theorem ad6 {x:Gr} {p:List Int} {gs:List Gt} (h:lay x p=true) (h':gs.all (Vc x p)=true):EO x p gs=true:=by unfold EO;rw [h,h'];rfl
theorem aqk {x:Gr} {p:List Int} (h:lay x p=true):x.n=(p.length:Int)/\p.length<=4/\perm p=true:=by
 unfold lay at h;simp only [lF,eS] at h
 exact ⟨h.2.symm,(xH h.1.2).2,h.1.2⟩
theorem AP {P:Prop} (h:P:=by
 go_wp2;go_ret2
 exact YD.mk HO.u (ad5 HO.u) (aC KU dN.size) (dN.trans aK)):P:=h
theorem wY (A:OA) (n c:Nat) (gs:List Gt) (v:Value) (x:Gr) (Ap:OA) (np cp:Nat) (p:List Int) (w:World) (h:Rd w w.heap.size 4 A n (aq gs)) (hn:n<=1048576) (hv:fB w w.heap.size v x) (hl:x.es.length<=2000000000000) (hp:Rd w w.heap.size 1 Ap np (aD p)) (hnp:np<=2000000000000) (Yt:np<=cp):
  Calls prog 132 #[.slice A n c,v,.slice Ap np cp] w (YD 39 4 aq w (EO x p gs) (brR x p gs)):=by
 have hlen:=hY (h.len Gt.aG aa);have MG:=hY (hp.len bG aa);obtain ⟨A1,c1,rfl,h1⟩:=hv;have HG:Hid (∀w',Ext w w'->fB w' w'.heap.size (.agg #[iI x.n,.slice A1 x.es.length c1]) x):=fun w' hx=>⟨A1,c1,rfl,h1.ext hx⟩
 clear h1;have dx:au (w.alloc (cO #[iI x.n,.slice A1 x.es.length c1] 63)) w.heap.size 63 #[iI x.n,.slice A1 x.es.length c1]:=au.new _ _ _;have dN:Ext w (w.alloc (cO #[iI x.n,.slice A1 x.es.length c1] 63)):=aw
 have bW:=hY dx;have qc:=hY dN;clear dx dN;go_enter func132,ntmps132;go_upto_region 1 with fail;have dx:=bW.u;have dN:=qc.u;clear bW qc;generalize (w.alloc (cO #[iI x.n,.slice A1 x.es.length c1] 63))=Wb at*
 go_upto_region 2 with fail;have KU:(Wb.alloc (cO #[] 39)).ownsRow Wb.heap.size 39 4 (.slice (some ⟨Wb.heap.size,0,none⟩) 0 0) 0 (aq []):=bS (xZ _) _ _ 4 0 #[] _ rfl rfl rfl aa;have aK:Ext Wb (Wb.alloc (cO #[] 39)):=(xZ _).alloc _;generalize (Wb.alloc (cO #[] 39))=W1 at*
 have d0:=(dx.ext aK).ck 0;have d1:=(dx.ext aK).ck 1;go_wp2_with fail;refine (dO _ x _ (HG.u _ (dN.trans aK)) hl).mono ?_;rintro e w2 ⟨rfl,bz⟩;replace aK:=aK.trans bz;replace KU:=aj KU bz;clear d0 d1 bz;have avq:=True.intro
 cases mo:je x
 ·have HO:=hY (Vd (gs:=gs) (adz (p:=p) mo))
  exact AP
 go_wp2_with fail;refine (bU Ap np cp p _ (hp.ext (dN.trans aK)) hnp Yt).mono ?_;rintro e w3 ⟨rfl,bO⟩;replace aK:=aK.trans bO;replace KU:=aj KU bO;clear bO
 cases UR:perm p
 ·have HO:=hY (Vd (gs:=gs) (adA (x:=x) UR))
  exact AP
 have HLE:=hY (adB mo UR);clear mo UR;have d0:=(dx.ext aK).ck 0
 cases hne:((np:Int)==x.n)
 ·have Ve:((np:Int) !=x.n)=true:=mM
  have HO:=hY (Vd (gs:=gs) (HLE.u.trans (by rw [MG.u];exact hne)))
  exact AP
 have Ve:((np:Int) !=x.n)=false:=mM
 have Vf:Hid (lay x p=true):=HLE.u.trans (by rw [MG.u];exact hne);go_wp2;clear d0 hne Ve avq;have qx:=hY KU;have cH:=hY aK;clear KU aK
 go_loopw [8,9] (fun v i wr=>∃(k:Nat) (Ao:OA) (m co:Nat),k<=n/\i=iI k/\v=.slice Ao m co/\Hid (m=((gs.take k).flatMap (brG x p)).length)/\Hid ((gs.take k).all (Vc x p)=true)/\wr.ownsRow Wb.heap.size 39 4 (.slice Ao m co) m (aq ((gs.take k).flatMap (brG x p)))/\Ext Wb wr) (fun _ i _=>n - (intOf i).toNat)
 case atStart=>exact ⟨0,_,0,_,lJ _,rfl,rfl,rfl,hY ag,qx.u,cH.u⟩
 case round=>
  clear qx cH;obtain ⟨k,Ao,m,co,hk,rfl,rfl,HM,HQ,ho,hx⟩:=hrel
  by_cases ba:k<n
  ·obtain ⟨b,o,g,rfl,hb,hg,r0,r1,r2,r3⟩:=bT (h.ext (dN.trans hx)) ba;have XN:=hY hg;clear hg;have hf:=agq (brG x p) (XL x p) gs k;rw [<-HM.u] at hf;have d0:=(dx.ext hx).ck 0;have d1:=(dx.ext hx).ck 1;have vX:=dx.lt;have hzx:=(dx.ext hx).lt;go_wp2_with fail;have hs0:au (wr.alloc (cO (gA g) 39)) wr.heap.size 39 (gA g):=au.new _ _ _;have hxs:Ext wr (wr.alloc (cO (gA g) 39)):=(xZ _).alloc _;have qe:=ho.lt;have Jl:=hY qe;clear qe;refine (lf g _ x Ap np cp p _ (HG.u _ (dN.trans (hx.trans hxs))) hl (hp.ext (dN.trans (hx.trans hxs))) hnp Yt).mono ?_;rintro e w2 ⟨rfl,iW⟩;have aql:Ext wr w2:=hxs.trans iW;have OM:=hs0.ext iW;have fg:=aj ho aql;have bz:=hx.trans aql;obtain ⟨s,hs⟩:=ey (wr.heap.size);rw [<-hs] at OM Jl |-;clear r0 r1 r2 r3 d0 d1 hs0 hxs iW hs
   cases hm:may g x p
   ·have HO:=hY (alU (akc XN.u (f:=Vc x p) hm));go_wp2;go_ret2
    exact YD.mk HO.u (ad5 HO.u) (bS (dN.trans bz) _ _ 4 0 #[] _ rfl rfl rfl aa) ((dN.trans bz).alloc _)
   have oH:=hY (abJ XN.u HQ.u (f:=Vc x p) hm);have MF:=hY (agp (brG x p) XN.u);obtain ⟨ia,y,hga,hia,hy,qe,hp4,_⟩:=adN hm;have Tn:=MG.u;have ZY:ia<np:=aa
   have TW:(0:Int)<=(ia:Int):=aa
   have zG:(ia:Int)<(np:Int):=aa
   have abj:=fg.lt;have alV:=hY abj;clear abj
   cases h1:(ar g.k==1)
   case true=>
    have Lx:=hY ((ajs (x:=x) (p:=p) h1).trans (by rw [qe]));have h9:(g.k==9)=false:=by cases hq:(g.k==9) with|false=>rfl|true=>(rw [eS] at hq;rw [hq] at h1;cases h1)
    obtain ⟨bl,ol,y',rfl,Ll,Lr,q0⟩:=du hp ZY;have hyy:y'=y:=by rw [hy] at Lr;injection Lr with Lr;exact Lr.symm
    subst hyy;have HK:Hid (∀w',Ext Wb w'->au w' s 39 (gA g)->w'.cell? (aA s 0)=some (iI g.k)/\w'.cell? (aA s 1)=some (iI (ia:Int))/\w'.cell? (aA bl (ol+ia))=some (iI y')):=fun w' z q=>⟨q.cell 0,by rw [<-hga];exact q.cell 1,((dN.trans z).cell (p:=(aA bl (ol+ia))) Ll).trans q0⟩
    have si:=hY OM;clear hy Lr qe Tn hm hga;obtain ⟨k0,k1,k2⟩:=HK.u w2 bz si.u;go_wp2;have fH:=xZ w2
    first|go_region_held3 (fun w'=>w'.cell? (aA s 0)=some (iI g.k)/\w'.cell? (aA s 1)=some (iI (ia:Int))/\w'.cell? (aA bl (ol+ia))=some (iI y'))
     (first|(refine HK.u _ ?_ ?_<;>assumption)|exact HK.u _ (bz.drew) (si.u.ext (xZ w2).drew)|exact HK.u _ (bz.trans fH) (si.u.ext fH)|go_keep|exact HK.u _ (bz.trans (fH.alloc _)) (si.u.ext (fH.alloc _)))
     (first
      |(go_at_call 126;(with_reducible refine (aP (w0:=w2) _ _ _ aw).mono ?_);clear fH;rintro e w' ⟨rfl,fH⟩)
      |(refine GS (B:=Wb.heap.size) ah _ _ ah _ m _ ah (aj fg fH) (lK bz.size fH.size) (g1 g.k y') _ _ ah ah aa ?_;intro A4 c4 w4 uJ Fa hb4;have fy:Ext Wb w4:=(bz.trans fH).grown Fa (fun k hk=>(alV.u k hk).1);have hs4:=(si.u.ext fH).grown Fa (fun k hk=>oM (Jl.u k hk))))|fail
    all_goals
     clear k0 k1 k2;go_wp2;go_roundw
     case rel=>exact ⟨k+1,A4,m+1,c4,aa,az,rfl,by unfold Hid;rw [MF.u,Lx.u,lA,<-HM.u];rfl,oH,by rw [MF.u,Lx.u];exact uJ,fy⟩
     case measure=>simp [intOf];omega
   obtain ⟨ja,jb,hja,hjb,_,hW⟩:=sM.of hm h1;obtain ⟨y1,dw,ly1,_,_⟩:=hW.at_ hW.ha;obtain ⟨z1,iV,lz1,_,_⟩:=hW.at_ hW.hb;have alY:ja<np:=oM hW.ha
   have alZ:jb<np:=oM hW.hb
   have Lx:=hY ((ajt (x:=x) (p:=p) h1).trans (by rw [hja,hjb,ly1,lz1]));have h9:(g.k==9)=true:=by (have WS:Tq g=true:=by {unfold may at hm;simp only [lF] at hm;exact hm.1.2});unfold Tq at WS;rw [h1,ju] at WS;exact WS
   obtain ⟨bl,ol,rfl,Ll,q0,q1⟩:=JH hp alY alZ dw iV;have HK:Hid (∀w',Ext Wb w'->au w' s 39 (gA g)->w'.cell? (aA w.z 0)=some (iI x.n)/\w'.cell? (aA w.z 1)=some (.slice A1 x.es.length c1)/\w'.cell? (aA s 1)=some (iI (ja:Int))/\w'.cell? (aA s 2)=some (iI (jb:Int))/\w'.cell? (aA bl (ol+ja))=some (iI y1)/\w'.cell? (aA bl (ol+jb))=some (iI z1)):=fun w' z q=>⟨(dx.ext z).cell 0,(dx.ext z).cell 1,by rw [<-hja];exact q.cell 1,by rw [<-hjb];exact q.cell 2,((dN.trans z).cell (p:=(aA bl (ol+ja))) Ll).trans q0,((dN.trans z).cell (p:=(aA bl (ol+jb))) Ll).trans q1⟩
   have si:=hY OM;have HS0:Hid (w2.cell? (aA s 0)=some (iI g.k)):=OM.cell 0;have DW:=Um (ld x y1 z1);have zV:=ZI x y1 z1;have KZ:(0:Int)<=(ja:Int):=aa
   have hj1:(ja:Int)<(np:Int):=aa
   have hj2:(0:Int)<=(jb:Int):=aa
   have hj3:(jb:Int)<(np:Int):=aa
   clear hy qe Tn hm hga hja hjb dw iV ly1 lz1 hW OM;have k9:=HS0.u;go_wp2;clear k9;obtain ⟨k0,k1,k2,k3,k4,k5⟩:=HK.u w2 bz si.u
   first|go_region_held3 (fun w'=>w'.cell? (aA w.z 0)=some (iI x.n)/\w'.cell? (aA w.z 1)=some (.slice A1 x.es.length c1)/\w'.cell? (aA s 1)=some (iI (ja:Int))/\w'.cell? (aA s 2)=some (iI (jb:Int))/\w'.cell? (aA bl (ol+ja))=some (iI y1)/\w'.cell? (aA bl (ol+jb))=some (iI z1))
    (first|(refine HK.u _ ?_ ?_<;>assumption)|exact HK.u _ (bz.drew) (si.u.ext (xZ w2).drew)|go_keep)
    (first
     |(go_at_call 157;refine (mq _ x y1 z1 _ (HG.u _ (dN.trans bz.drew)) hl).mono ?_;rintro e w3 ⟨Aw,lw,cw,rfl,ad2,ad3,ig⟩;have HLW:=hY ad2;have HOW:=hY ad3;clear ad2 ad3;replace ig:Ext w2 w3:=Ext.trans (xZ w2).drew ig;have bO:Ext Wb w3:=bz.trans ig;have hs3:=si.u.ext ig)
     |(go_at_call 156;refine (nC lw Aw cw (ld x y1 z1) _ (by rw [HLW.u];omega) (Rd.own HOW.u) (Pj HOW.u)).mono ?_;rintro e w4 ⟨v4,rfl,uJ,Ha⟩;have Bi:Ext w2 w4:=ig.trans Ha;obtain ⟨A4,c4,rfl,YK⟩:=ak uJ;have fy:Ext Wb w4:=bz.trans Bi;have hs4:=si.u.ext Bi)
     |(refine fe (w0:=Wb) ah _ _ ah _ m _ ah (aj fg Bi) fy A4 _ c4 (lr (ld x y1 z1)) ah YK aa ?_;intro v5 w5 kg cI zK NZ;have Zv:=hs4.grown zK (fun k hk=>oM (Jl.u k hk))))|fail
   all_goals
    clear k0 k1 k2 k3 k4 k5;obtain ⟨A5,c5,rfl,_⟩:=ak kg;go_wp2;go_roundw
    case rel=>exact ⟨k+1,A5,m+(lr (ld x y1 z1)).length,c5,aa,az,rfl,by unfold Hid;rw [MF.u,Lx.u,lA,<-HM.u],oH,by rw [MF.u,Lx.u];exact kg,cI⟩
    case measure=>simp [intOf];omega
  ·rw [lE bQ] at ho HQ HM;have HO:=hY (ad6 Vf.u HQ.u);go_wp2;go_ret2
   exact YD.mk HO.u (XM HO.u) (by rw [<-HM.u];exact aC ho dN.size) (dN.trans hx)
theorem XO {w:World} {B n m:Nat} {A:OA} {xs:List Gt} (h:Rd w B 4 A n (aq xs)) (hm:m<=n):Rd w B 4 A m (aq (xs.take m)):=by
 have h1:=zJ h hm;have e:(aq xs).take (m*4)=aq (xs.take m):=by
  clear h h1 hm
  induction xs generalizing m with
  |nil=>simp
  |cons x xs ih=>
   cases m with
   |zero=>simp
   |succ m=>
    rw [yl];show (Gt.cells x++aq xs).take ((m+1)*4)=Gt.cells x++aq (xs.take m);rw [TL,<-ih];rw [lE (by rw [Gt.aG];omega),Gt.aG];congr 2;omega
 rw [<-e]
 exact h1
theorem Sj (xs:List Gt) (m:Nat):(aq xs).drop (m*4)=aq (xs.drop m):=by
 induction xs generalizing m with
 |nil=>simp
 |cons x xs ih=>
  cases m with
  |zero=>simp
  |succ m=>
   rw [Np];show (Gt.cells x++aq xs).drop ((m+1)*4)=aq (xs.drop m);rw [TN,vI (by rw [Gt.aG];omega),Gt.aG,lN,<-ih];congr 1;omega
theorem Sk {w:World} {B n m b o:Nat} {xs:List Gt} (h:Rd w B 4 (some ⟨b,o,none⟩) n (aq xs)) (hm:m<=n):Rd w B 4 (some ⟨b,o+m*4,none⟩) (n - m) (aq (xs.drop m)):=by
 rw [<-Sj];refine ⟨?_,fun h0=>?_⟩
 ·rw [lU,h.1];omega
 ·obtain ⟨b',o',e,hb,hc⟩:=h.2 aa;injection e with e;injection e with e1 e2;subst e1 e2;refine ⟨b,o+m*4,rfl,hb,fun j u hu=>?_⟩;rw [vK] at hu;have:=hc _ _ hu;rw [Nz]
  exact this
def MO (w:World) (xs:List Gt) (e:Ending) (w':World):Prop:=match mj xs with
 |none=>∃v,e=.returned (.tuple #[v,.bool false])
 |some ys=>∃v,e=.returned (.tuple #[v,.bool true])/\w'.ownsRow w.heap.size 39 4 v ys.length (aq ys)
theorem Vg {w w':World} {xs:List Gt} {v:Value} (h:mj xs=none):MO w xs (.returned (.tuple #[v,.bool false])) w':=by unfold MO;rw [h];exact ⟨v,rfl⟩
theorem Vh {w w':World} {xs ys:List Gt} {v:Value} (h:mj xs=some ys) (ho:w'.ownsRow w.heap.size 39 4 v ys.length (aq ys)):MO w xs (.returned (.tuple #[v,.bool true])) w':=by unfold MO;rw [h];exact ⟨v,rfl,ho⟩
theorem JJ {P:Prop} (h:P:=by
 go_upto_region 7 with fail;refine dt (S:=fun _=>True) af trivial (fun aEQ=>?_);refine tq 0 ?_;refine tq 1 ?_;refine tq 3 ?_;refine tq 4 ?_;refine tq 5 ?_;refine tq 6 ?_;refine o1 2 fun K hK=>?_
 have gH:Hid (w6.drew.ownsRow w3.heap.size 39 4 (.slice A6 (i+(k - (i+1))) c6) (i+(k - (i+1))) (aq (xs.take i++(xs.take k).drop (i+1)))/\Ext w3 w6.drew):=⟨aj mn.u.1 (xZ _).drew,mn.u.2.drew⟩;refine fe (w0:=w3) ah _ _ ah _ (i+(k - (i+1))) _ ah gH.u.1 gH.u.2 _ out.length _ out ah (HRV.u.ext gH.u.2) (oM vG.u) ?_;intro v8 w8 g1 g2 g3 g4;have xF:Hid (w8.ownsRow w3.heap.size 39 4 v8 (i+(k - (i+1))+out.length) (aq (xs.take i++(xs.take k).drop (i+1)++out))/\Ext w3 w8):=⟨g1,g2⟩;clear g1 g2 g3 g4 gH;refine ov hK trivial fun aEQ=>?_
 refine o1 7 fun K hK=>?_
 refine fe (w0:=w3) ah _ _ ah _ (i+(k - (i+1))+out.length) _ ah xF.u.1 xF.u.2 _ (n - (k+1)) _ (xs.drop (k+1)) ah (HD.u w8 xF.u.2) (oM vG.u) ?_;intro v9 w9 g1 g2 g3 g4;have iD:Hid (w9.ownsRow w.heap.size 39 4 v9 (Ob xs i k out).length (aq (Ob xs i k out))/\Ext w w9):=⟨by rw [cT.u];exact aC g1 fD.u.size,fD.u.trans g2⟩;clear g1 g2 g3 g4 xF;refine ov hK trivial fun aEQ=>?_
 refine tq 8 ?_;refine tq 9 ?_;refine dn ?_;go_wp2;go_ret2
 exact ⟨Vh HV.u iD.u.1,iD.u.2⟩):P:=h
theorem vt (A:OA) (n c:Nat) (xs:List Gt) (w:World) (h:Rd w w.heap.size 4 A n (aq xs)) (hn:n<=400000000000) (hc:n<=c):
  Calls prog 169 #[.slice A n c] w fun e w'=>MO w xs e w'/\Ext w w':=by
 have hlen:=h.len Gt.aG aa;have HN:=hY hlen;have HR:=hY h;have HP:Hid (mj xs=zq xs (n - 0) 0):=by unfold Hid mj;rw [hlen];rfl
 clear h hlen;go_enter func169,ntmps169;go_wp2
 go_loopw [4] (fun iv wr=>∃i:Nat,iv=iI i/\i<=n/\Hid (mj xs=zq xs (n - i) i)/\Hid (Ext w wr)) (fun iv _=>n - (intOf iv).toNat)
 case atStart=>exact ⟨0,rfl,lJ _,HP,xZ _⟩
 case round=>
  obtain ⟨i,rfl,hi,HQ,HE⟩:=hrel;clear HP
  by_cases ba:i<n
  ·have bZ:Hid (i<n/\n<=400000000000/\n<=c):=⟨ba,hn,hc⟩;have hfu:n - i=(n - (i+1))+1:=aa
   rw [hfu] at HQ;have hi1:=wA i aa;have hi2:=wB i aa;go_wp2_with fail;refine (ZZ A n c i xs _ (HR.u.ext HE.u) aa ba).mono ?_;rintro e w3 ⟨bD,bO⟩;have fD:=hY (HE.u.trans bO)
   cases hp:YO xs i with
   |none=>
    rw [hp] at bD;obtain rfl:e=.returned (.tuple #[iI (-1),nS]):=bD;have oH:=hY (HQ.u.trans (Hh hp));clear hp bO;go_wp2;go_roundw
    case rel=>exact ⟨i+1,by first|rfl|rw [hi1]|rw [hi2],oM bZ.u,oH,fD⟩
    case measure=>simp [intOf,hi2];have:=bZ.u;omega
   |some p=>
    rw [hp] at bD;obtain ⟨k,out⟩:=p;obtain ⟨v,rfl,ho⟩:=bD;have UR:=Rg hp;have HV:=hY (HQ.u.trans (Mi hp));have vG:Hid (i<k/\k<n/\out.length<=1):=by have:=HN.u;unfold Hid;omega
    obtain ⟨B,d,rfl,hrv⟩:=ak ho;have HRV:=hY hrv;obtain ⟨b,o,rfl⟩:∃b o,A=some ⟨b,o,none⟩:=by
     obtain ⟨b,o,e,-⟩:=HR.u.2 aa
     exact ⟨b,o,e⟩
    clear hp UR ho bO hrv HQ;have lu:(k:Int)>0:=oM vG.u
    have et:decide ((k:Int)>0)=true:=sU lu
    have NP:(i:Int)<=(c:Int):=aa
    have KY:((i+1:Nat):Int)<=(k:Int):=oM vG.u
    have hkc:(k:Int)<=(c:Int):=oM vG.u
    have TW:(0:Int)<=(i:Int):=aa
    have aB5:(0:Int)<=((i+1:Nat):Int):=aa
    have hib:(0:Int)<=(i:Int)+1:=aa
    have aB6:(i:Int)+1<=(k:Int):=oM vG.u
    have hci:¬(c=i+1):=oM vG.u
    go_upto_region 6 with fail;refine dt (S:=fun _=>True) af trivial (fun aEQ=>?_);refine tq 1 ?_;refine tq 2 ?_;refine tq 3 ?_;refine tq 5 ?_;refine tq 6 ?_;refine tq 7 ?_;refine tq 8 ?_;refine tq 9 ?_;refine o1 0 fun K hK=>?_
    go_simp;refine ov hK trivial fun aEQ=>?_
    have qh:Hid ((w3.alloc (cO #[] 39)).drew.ownsRow w3.heap.size 39 4 (.slice (some ⟨w3.heap.size,0,none⟩) 0 0) 0 (aq [])/\Ext w3 (w3.alloc (cO #[] 39)).drew):=⟨aj (aN w3 w3 _ 4 (xZ _)) (xZ _).drew,((xZ w3).alloc _).drew⟩;refine o1 4 fun K hK=>?_
    refine fe (w0:=w3) ah _ _ ah _ 0 [] ah qh.u.1 qh.u.2 _ i _ (xs.take i) ah (XO ((HR.u.ext fD.u).ext qh.u.2) (oM vG.u)) (oM vG.u) ?_;intro v5 w5 g1 g2 g3 g4;rw [lM,lN] at g1;have jL:Hid (w5.ownsRow w3.heap.size 39 4 v5 i (aq (xs.take i))/\Ext w3 w5):=⟨g1,g2⟩;clear g1 g2 g3 g4 qh;refine ov hK trivial fun aEQ=>?_
    refine o1 10 fun K hK=>?_
    refine fe (w0:=w3) ah _ _ ah _ i (xs.take i) ah jL.u.1 jL.u.2 _ (k - (i+1)) _ ((xs.take k).drop (i+1)) ah (Sk (XO ((HR.u.ext fD.u).ext jL.u.2) (oM vG.u)) (oM vG.u)) (oM vG.u) ?_;intro v6 w6 g1 g2 g3 g4;obtain ⟨A6,c6,rfl,-⟩:=ak g1;have mn:Hid (w6.ownsRow w3.heap.size 39 4 (.slice A6 (i+(k - (i+1))) c6) (i+(k - (i+1))) (aq (xs.take i++(xs.take k).drop (i+1)))/\Ext w3 w6):=⟨g1,g2⟩;clear g1 g2 g3 g4 jL;refine ov hK trivial fun aEQ=>?_
    refine tq 11 ?_;refine dn ?_;have ad7:(0:Int)<=(k:Int)+1:=aa
    have aqm:(k:Int)+1<=(n:Int):=oM vG.u
    have aqn:IntKind.i64.wrap ((k:Int)+1)=(k:Int)+1:=lH _ aa;have aqo:wrap64 ((k:Int)+1)=(k:Int)+1:=bk
    have cT:Hid ((Ob xs i k out).length=i+(k - (i+1))+out.length+(n - (k+1))):=by
     unfold Hid Ob;have:=HN.u;have:=vG.u;simp only [lA,lT,lU];omega
    by_cases hck:c=k+1
    ·have HD:Hid (∀w',Ext w3 w'->Rd w' w'.heap.size 4 (some ⟨b,o,none⟩) (n - (k+1)) (aq (xs.drop (k+1)))):=fun w' hx=>by
      have:=HN.u;have e0:n - (k+1)=0:=oM vG.u
      have e1:xs.drop (k+1)=[]:=vI (oM vG.u);rw [e0,e1]
      exact ⟨ag,fun h0=>absurd h0 aa⟩
     exact JJ
    ·have HD:Hid (∀w',Ext w3 w'->Rd w' w'.heap.size 4 (some ⟨b,o+(k+1)*4,none⟩) (n - (k+1)) (aq (xs.drop (k+1)))):=fun w' hx=>Sk ((HR.u.ext fD.u).ext hx) (oM vG.u)
     exact JJ
  ·have zG:i=n:=aa
   subst zG;have HV:Hid (mj xs=none):=by
    have:=HQ.u;rw [CJ] at this
    exact this
   go_wp2_with (at_builtin;refine dm (w0:=w) rfl _ _ rfl _ 0 [] rfl (aN w wr _ 4 HE.u) (HE.u.alloc _) A i c xs rfl ((HR.u.ext HE.u).ext ((xZ _).alloc _)) aa ?_;intro v9 w9 g1 g2 g3 g4)
   have fP:=hY g2;clear g1 g2 g3 g4;go_wp2;go_ret2
   exact ⟨Vg HV.u,fP.u⟩
end Go.Proofs.YtodhjgngkkcjgaaGreatDoor
