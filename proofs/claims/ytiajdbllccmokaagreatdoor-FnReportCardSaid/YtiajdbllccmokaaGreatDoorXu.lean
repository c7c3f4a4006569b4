import Derived.Test.YtiajdbllccmokaaGreatDoorXn
namespace Go.Proofs.YtiajdbllccmokaaGreatDoor
open Go.ChangeShapes Go.WideShapes Go.ChangeAt Go.RowKit Go.Deep Go.Proofs.Tryz
set_option linter.unusedVariables false
set_option linter.unusedSimpArgs false
set_option maxRecDepth 100000
set_option maxHeartbeats 16000000
theorem cf {P:Prop} (h:P:=by
 go_wp2;go_ret
 exact ⟨aT HV.u.symm,HX.u⟩):P:=h
theorem yl (g h:Gt) (w:World):Calls prog 147 #[g.val,h.val] w fun e w'=>e=.returned (.bool (alike g h))/\Ext w w':=by
 have HX:Hid (Ext w ((w.alloc (cO (gA g) 54)).alloc (cO (gA h) 54))):=fo
 have fV:Hid (ay ((w.alloc (cO (gA g) 54)).alloc (cO (gA h) 54)) w.heap.size 54 (gA g)/\ay ((w.alloc (cO (gA g) 54)).alloc (cO (gA h) 54)) (w.heap.size+1) 54 (gA h)):=⟨(ay.new w _ _).alloc _,ay.newAt ag⟩;go_enter func147,ntmps147;go_upto_region 1 with fail;generalize ((w.alloc (cO (gA g) 54)).alloc (cO (gA h) 54))=W at*
 obtain ⟨⟨g0,g1,g2,g3⟩,-⟩:=aB fV.u.1;obtain ⟨⟨h0,h1,h2,h3⟩,-⟩:=aB fV.u.2
 cases e1:(g.k==h.k)
 ·skip;have HV:Hid (alike g h=false):=by unfold Hid alike;simp only [e1,kQ,js,mP,fX,mQ,kh,iC,qX]
  exact cf
 ·skip
  cases e2:(g.k==10)
  ·skip
   cases e3:(g.k==11)
   ·skip;have HV:Hid (alike g h=false):=by unfold Hid alike;simp only [e1,e2,e3,kQ,js,mP,fX,mQ,kh,iC,qX]
    exact cf
   ·skip
    cases e4:(g.a==h.a)
    ·skip
     cases e6:(g.a==h.b)
     ·skip;have HV:Hid (alike g h=false):=by unfold Hid alike;simp only [e1,e2,e3,e4,e6,kQ,js,mP,fX,mQ,kh,iC,qX]
      exact cf
     ·skip
      cases e7:(g.b==h.a)
      ·skip;have HV:Hid (alike g h=false):=uQ
       exact cf
      ·skip;have HV:Hid (alike g h=true):=uQ
       exact cf
    ·skip
     cases e5:(g.b==h.b)
     ·skip
      cases e6:(g.a==h.b)
      ·skip;have HV:Hid (alike g h=false):=by unfold Hid alike;simp only [e1,e2,e3,e4,e5,e6,kQ,js,mP,fX,mQ,kh,iC,qX]
       exact cf
      ·skip
       cases e7:(g.b==h.a)
       ·skip;have HV:Hid (alike g h=false):=uR
        exact cf
       ·skip;have HV:Hid (alike g h=true):=uR
        exact cf
     ·skip;have HV:Hid (alike g h=true):=by unfold Hid alike;simp only [e1,e2,e3,e4,e5,kQ,js,mP,fX,mQ,kh,iC,qX]
      exact cf
  ·skip
   cases e4:(g.a==h.a)
   ·skip
    cases e6:(g.a==h.b)
    ·skip;have HV:Hid (alike g h=false):=by unfold Hid alike;simp only [e1,e2,e4,e6,kQ,js,mP,fX,mQ,kh,iC,qX]
     exact cf
    ·skip
     cases e7:(g.b==h.a)
     ·skip;have HV:Hid (alike g h=false):=uS
      exact cf
     ·skip;have HV:Hid (alike g h=true):=uS
      exact cf
   ·skip
    cases e5:(g.b==h.b)
    ·skip
     cases e6:(g.a==h.b)
     ·skip;have HV:Hid (alike g h=false):=by unfold Hid alike;simp only [e1,e2,e4,e5,e6,kQ,js,mP,fX,mQ,kh,iC,qX]
      exact cf
     ·skip
      cases e7:(g.b==h.a)
      ·skip;have HV:Hid (alike g h=false):=uT
       exact cf
      ·skip;have HV:Hid (alike g h=true):=uT
       exact cf
    ·skip;have HV:Hid (alike g h=true):=by unfold Hid alike;simp only [e1,e2,e4,e5,kQ,js,mP,fX,mQ,kh,iC,qX]
     exact cf
def afa (w:World) (t:Option (List Gt)) (e:Ending) (w':World):Prop:=match t with
 |none=>∃v,e=.returned (.tuple #[v,.bool false])
 |some out=>∃v,e=.returned (.tuple #[v,.bool true])/\w'.ownsRow w.heap.size 54 4 v out.length (ak out)
theorem qC {g h:Gt} (h1:(decide (0<ar g.k) && (Gn h (uk g)||alike g h))=false) (h2:bB g.k=0\/bB h.k=0\/(g.a==h.a)=false):et g h=none:=by
 unfold et;rw [aK (by rw [h1];simp),aK];rcases h2 with e|e|e<;>rw [e]<;>simp
theorem Hk {g h:Gt} (h1:(decide (0<ar g.k) && (Gn h (uk g)||alike g h))=false) (h2:0<bB g.k) (h3:0<bB h.k) (h4:(g.a==h.a)=true):et g h=if (bV ((bB g.k+bB h.k) % 8) g.a).length<2 then some (bV ((bB g.k+bB h.k) % 8) g.a) else none:=by
 unfold et;rw [aK (by rw [h1];simp),aX];rw [h4];simp [h2,h3]
theorem afb {k:Int} (h:ar k<=0):bB k=0:=by
 unfold bB;unfold ar at h;split at h
 ·omega
 ·rw [aK aa,aK aa,aK aa,aK aa,aK aa]
theorem qD {P:Prop} (h:P:=by
 go_wp2;go_ret2;rw [HV.u]
 exact ⟨⟨_,rfl⟩,(HX.u.trans Oz.u).alloc _⟩):P:=h
theorem mo (g h:Gt) (w:World):Calls prog 133 #[g.val,h.val] w fun e w'=>afa w (et g h) e w'/\Ext w w':=by
 have HX:Hid (Ext w ((w.alloc (cO (gA g) 54)).alloc (cO (gA h) 54))):=fo
 have fV:Hid (ay ((w.alloc (cO (gA g) 54)).alloc (cO (gA h) 54)) w.heap.size 54 (gA g)/\ay ((w.alloc (cO (gA g) 54)).alloc (cO (gA h) 54)) (w.heap.size+1) 54 (gA h)):=⟨(ay.new w _ _).alloc _,ay.newAt ag⟩;go_enter func133,ntmps133;go_upto_region 1 with fail;generalize ((w.alloc (cO (gA g) 54)).alloc (cO (gA h) 54))=W at*
 have HK:Hid (∀w',Ext W w'->(w'.cell? (aA w.z 0)=some (iI g.k)/\w'.cell? (aA w.z 1)=some (iI g.a)/\w'.cell? (aA w.z 2)=some (iI g.b)/\w'.cell? (aA w.z 3)=some (iI g.c))/\(w'.cell? (aA (w.z+1) 0)=some (iI h.k)/\w'.cell? (aA (w.z+1) 1)=some (iI h.a)/\w'.cell? (aA (w.z+1) 2)=some (iI h.b)/\w'.cell? (aA (w.z+1) 3)=some (iI h.c))):=fun w' hx=>⟨(aB (fV.u.1.ext hx)).1,(aB (fV.u.2.ext hx)).1⟩
 obtain ⟨⟨g0,g1,g2,g3⟩,⟨h0,h1,h2,h3⟩⟩:=HK.u W (xZ W);obtain ⟨a,ha⟩:=ex (ar g.k);have HA:=hY ha;obtain ⟨r,hr⟩:=ex (bB g.k);obtain ⟨s,hs⟩:=ex (bB h.k);have hrb:0<=r/\r<=7:=by rw [<-hr];exact xY _
 have hsb:0<=s/\s<=7:=by rw [<-hs];exact xY _
 by_cases Jh:0<a
 ·have hd:decide (a>0)=true:=sU Jh
  have Fs:decide (0<a)=true:=sU Jh
  cases e1:Gn h (uk g)
  ·have HQ:=(show ∀w,(Op.equalIn 10000 54 h.val (uk g).val).run prog w=.ok false w from fun w=>by rw [Gv,e1]);have HE:=PU
   cases e2:alike g h
   ·skip;refine dm (S:=fun w'=>(w'.cell? (aA w.z 0)=some (iI g.k)/\w'.cell? (aA w.z 1)=some (iI g.a)/\w'.cell? (aA w.z 2)=some (iI g.b)/\w'.cell? (aA w.z 3)=some (iI g.c))/\(w'.cell? (aA (w.z+1) 0)=some (iI h.k)/\w'.cell? (aA (w.z+1) 1)=some (iI h.a)/\w'.cell? (aA (w.z+1) 2)=some (iI h.b)/\w'.cell? (aA (w.z+1) 3)=some (iI h.c))) af (HK.u _ (xZ W).drew) (fun ay4=>?_);clear g0 g1 g2 g3 h0 h1 h2 h3;refine tq 0 ?_;refine tq 1 ?_
    (refine iE (rs:=[2]) af ag ?_;refine gV rfl (fun K hK=>?_) iD;go_simp)
    refine (aY g.k _).mono ?_;rintro e wA ⟨rfl,rfl⟩;refine ov hK (HK.u _ (xZ W).drew) fun ay4=>?_
    rw [HA.u];refine tq 3 ?_;refine tq 4 ?_;refine tq 5 ?_;refine tq 6 ?_
    (refine iE (rs:=[7]) af ag ?_;refine gV rfl (fun K hK=>?_) iD;go_simp)
    refine (fc g _).mono ?_;rintro e w3 ⟨rfl,bT⟩;have iM:=hY (Ext.trans (xZ W).drew bT);clear bT;refine ov hK (HK.u _ iM.u) fun ay4=>?_
    refine tq 8 ?_;refine tq 9 ?_;refine tq 10 ?_;refine tq 11 ?_
    (refine iE (rs:=[12]) af ag ?_;refine gV rfl (fun K hK=>?_) iD;go_simp)
    refine (yl g h _).mono ?_;rintro e w4 ⟨rfl,fe⟩;have Br:=hY (iM.u.trans fe);clear fe;refine ov hK (HK.u _ Br.u) fun ay4=>?_
    rw [e2];refine tq 13 ?_;refine tq 14 ?_;refine dn ?_;have Oz:=hY Br.u;have H1:Hid ((decide (0<ar g.k) && (Gn h (uk g)||alike g h))=false):=by unfold Hid;rw [e1,e2];simp
    clear e1 e2;obtain ⟨⟨g0,g1,g2,g3⟩,⟨h0,h1,h2,h3⟩⟩:=HK.u w4 Oz.u;go_wp2_with fail;refine (bC g.k _).mono ?_;rintro e wq ⟨rfl,rfl⟩;rw [hr]
    by_cases r0:r=0
    ·subst r0;have HV:=hY (qC H1.u (Or.inl hr))
     exact qD
    have hrp:0<r:=aa
    have hrg:decide (r>0)=true:=sU hrp
    have avz:decide (0<r)=true:=sU hrp
    clear r0;go_wp2_with fail;refine (bC h.k _).mono ?_;rintro e wq ⟨rfl,rfl⟩;rw [hs]
    by_cases s0:s=0
    ·subst s0;have HV:=hY (qC H1.u (Or.inr (Or.inl hs)))
     exact qD
    have TF:0<s:=aa
    have hsg:decide (s>0)=true:=sU TF
    have avA:decide (0<s)=true:=sU TF
    clear s0
    cases hab:(g.a==h.a)
    ·skip;have HV:=hY (qC H1.u (Or.inr (Or.inr hab)))
     exact qD
    go_upto_region 4 with fail;have hw:IntKind.i64.wrap (r+s)=r+s:=lH _ aa;refine dm (S:=fun w'=>(w'.cell? (aA w.z 0)=some (iI g.k)/\w'.cell? (aA w.z 1)=some (iI g.a)/\w'.cell? (aA w.z 2)=some (iI g.b)/\w'.cell? (aA w.z 3)=some (iI g.c))/\(w'.cell? (aA (w.z+1) 0)=some (iI h.k)/\w'.cell? (aA (w.z+1) 1)=some (iI h.a)/\w'.cell? (aA (w.z+1) 2)=some (iI h.b)/\w'.cell? (aA (w.z+1) 3)=some (iI h.c))) af (HK.u _ (Oz.u.trans (xZ w4).drew)) (fun ay4=>?_);clear g0 g1 g2 g3 h0 h1 h2 h3;refine tq 0 ?_;refine tq 1 ?_;refine tq 3 ?_;refine tq 4 ?_;refine tq 8 ?_;refine tq 9 ?_
    (refine iE (rs:=[2]) af ag ?_;refine gV rfl (fun K hK=>?_) iD;go_simp)
    refine (bC g.k _).mono ?_;rintro e wq ⟨rfl,rfl⟩;refine ov hK (HK.u _ (Oz.u.trans (xZ _).drew)) fun ay4=>?_
    (refine iE (rs:=[5]) af ag ?_;refine gV rfl (fun K hK=>?_) iD;go_simp)
    refine (bC h.k _).mono ?_;rintro e wq ⟨rfl,rfl⟩;refine ov hK (HK.u _ (Oz.u.trans (xZ _).drew)) fun ay4=>?_
    (try rw [hr])
    (try rw [hs])
    refine tq 6 ?_
    (try rw [hw])
    (refine iE (rs:=[7]) af ag ?_;refine gV rfl (fun K hK=>?_) iD;go_simp)
    refine (eD (r+s) _ aa).mono ?_;rintro e wq ⟨rfl,rfl⟩;refine ov hK (HK.u _ (Oz.u.trans (xZ _).drew)) fun ay4=>?_
    (refine iE (rs:=[10]) af ag ?_;refine gV rfl (fun K hK=>?_) iD;go_simp)
    refine (fQ ((r+s) % 8) g.a _).mono ?_;rintro e w9 ⟨v9,rfl,AZ,tA⟩;have mJ:Hid (Ext W w9):=Oz.u.trans (Ext.trans (xZ _).drew tA);have kN:Hid (w9.ownsRow w.heap.size 54 4 v9 (bV ((r+s) % 8) g.a).length (ak (bV ((r+s) % 8) g.a))):=aC AZ (HX.u.trans Oz.u).size;clear tA AZ;refine ov hK (HK.u _ mJ.u) fun ay4=>?_
    refine tq 11 ?_;refine dn ?_;obtain ⟨A9,c9,rfl,-⟩:=au kN.u;have AF:=ya ((r+s) % 8) g.a;obtain ⟨out,afc⟩:=ex (bV ((r+s) % 8) g.a);rw [afc] at kN AF |-;have ajE:=hY afc;clear afc
    by_cases hl:out.length<2
    ·have HV:Hid (et g h=some out):=by
      unfold Hid;rw [Hk H1.u (by rw [hr];exact hrp) (by rw [hs];exact TF) hab,hr,hs,ajE.u,aX hl]
     go_wp2;go_ret2;rw [HV.u]
     exact ⟨⟨_,rfl,kN.u⟩,HX.u.trans mJ.u⟩
    ·have HV:Hid (et g h=none):=by
      unfold Hid;rw [Hk H1.u (by rw [hr];exact hrp) (by rw [hs];exact TF) hab,hr,hs,ajE.u,aK hl]
     have oF:¬((out.length:Int)<2):=aa
     go_wp2;go_ret2;rw [HV.u]
     exact ⟨⟨_,rfl⟩,(HX.u.trans mJ.u).alloc _⟩
   ·skip;refine dm (S:=fun w'=>(w'.cell? (aA w.z 0)=some (iI g.k)/\w'.cell? (aA w.z 1)=some (iI g.a)/\w'.cell? (aA w.z 2)=some (iI g.b)/\w'.cell? (aA w.z 3)=some (iI g.c))/\(w'.cell? (aA (w.z+1) 0)=some (iI h.k)/\w'.cell? (aA (w.z+1) 1)=some (iI h.a)/\w'.cell? (aA (w.z+1) 2)=some (iI h.b)/\w'.cell? (aA (w.z+1) 3)=some (iI h.c))) af (HK.u _ (xZ W).drew) (fun ay4=>?_);clear g0 g1 g2 g3 h0 h1 h2 h3;refine tq 0 ?_;refine tq 1 ?_
    (refine iE (rs:=[2]) af ag ?_;refine gV rfl (fun K hK=>?_) iD;go_simp)
    refine (aY g.k _).mono ?_;rintro e wA ⟨rfl,rfl⟩;refine ov hK (HK.u _ (xZ W).drew) fun ay4=>?_
    rw [HA.u];refine tq 3 ?_;refine tq 4 ?_;refine tq 5 ?_;refine tq 6 ?_
    (refine iE (rs:=[7]) af ag ?_;refine gV rfl (fun K hK=>?_) iD;go_simp)
    refine (fc g _).mono ?_;rintro e w3 ⟨rfl,bT⟩;have iM:=hY (Ext.trans (xZ W).drew bT);clear bT;refine ov hK (HK.u _ iM.u) fun ay4=>?_
    refine tq 8 ?_;refine tq 9 ?_;refine tq 10 ?_;refine tq 11 ?_
    (refine iE (rs:=[12]) af ag ?_;refine gV rfl (fun K hK=>?_) iD;go_simp)
    refine (yl g h _).mono ?_;rintro e w4 ⟨rfl,fe⟩;have Br:=hY (iM.u.trans fe);clear fe;refine ov hK (HK.u _ Br.u) fun ay4=>?_
    rw [e2];refine tq 13 ?_;refine tq 14 ?_;refine dn ?_;have HV:Hid (et g h=some []):=by unfold Hid et;rw [aX (by rw [ha,Fs,e1,e2];rfl)]
    have HO:Hid ((w4.alloc (cO #[] 54)).ownsRow w.heap.size 54 4 (.slice (some ⟨w4.heap.size,0,none⟩) 0 0) 0 (ak [])):=aJ w w4 _ 4 (HX.u.trans Br.u);go_wp2;go_ret2;rw [HV.u]
    exact ⟨⟨_,rfl,HO.u⟩,(HX.u.trans Br.u).alloc _⟩
  ·have HQ:=(show ∀w,(Op.equalIn 10000 54 h.val (uk g).val).run prog w=.ok true w from fun w=>by rw [Gv,e1]);have HE:=PU;refine dm (S:=fun w'=>(w'.cell? (aA w.z 0)=some (iI g.k)/\w'.cell? (aA w.z 1)=some (iI g.a)/\w'.cell? (aA w.z 2)=some (iI g.b)/\w'.cell? (aA w.z 3)=some (iI g.c))/\(w'.cell? (aA (w.z+1) 0)=some (iI h.k)/\w'.cell? (aA (w.z+1) 1)=some (iI h.a)/\w'.cell? (aA (w.z+1) 2)=some (iI h.b)/\w'.cell? (aA (w.z+1) 3)=some (iI h.c))) af (HK.u _ (xZ W).drew) (fun ay4=>?_);clear g0 g1 g2 g3 h0 h1 h2 h3;refine tq 0 ?_;refine tq 1 ?_
   (refine iE (rs:=[2]) af ag ?_;refine gV rfl (fun K hK=>?_) iD;go_simp)
   refine (aY g.k _).mono ?_;rintro e wA ⟨rfl,rfl⟩;refine ov hK (HK.u _ (xZ W).drew) fun ay4=>?_
   rw [HA.u];refine tq 3 ?_;refine tq 4 ?_;refine tq 5 ?_;refine tq 6 ?_
   (refine iE (rs:=[7]) af ag ?_;refine gV rfl (fun K hK=>?_) iD;go_simp)
   refine (fc g _).mono ?_;rintro e w3 ⟨rfl,bT⟩;have iM:=hY (Ext.trans (xZ W).drew bT);clear bT;refine ov hK (HK.u _ iM.u) fun ay4=>?_
   refine tq 8 ?_;refine tq 9 ?_;refine sk 10 ?_;refine sk 11 ?_;refine sk 12 ?_;refine tq 13 ?_;refine tq 14 ?_;refine dn ?_;have HV:Hid (et g h=some []):=by unfold Hid et;rw [aX (by rw [ha,Fs,e1];rfl)]
   have HO:Hid ((w3.alloc (cO #[] 54)).ownsRow w.heap.size 54 4 (.slice (some ⟨w3.heap.size,0,none⟩) 0 0) 0 (ak [])):=aJ w w3 _ 4 (HX.u.trans iM.u);go_wp2;go_ret2;rw [HV.u]
   exact ⟨⟨_,rfl,HO.u⟩,(HX.u.trans iM.u).alloc _⟩
 ·have hd:decide (a>0)=false:=sU Jh
  have Fs:decide (0<a)=false:=sU Jh
  refine dm (S:=fun w'=>(w'.cell? (aA w.z 0)=some (iI g.k)/\w'.cell? (aA w.z 1)=some (iI g.a)/\w'.cell? (aA w.z 2)=some (iI g.b)/\w'.cell? (aA w.z 3)=some (iI g.c))/\(w'.cell? (aA (w.z+1) 0)=some (iI h.k)/\w'.cell? (aA (w.z+1) 1)=some (iI h.a)/\w'.cell? (aA (w.z+1) 2)=some (iI h.b)/\w'.cell? (aA (w.z+1) 3)=some (iI h.c))) af (HK.u _ (xZ W).drew) (fun ay4=>?_);clear g0 g1 g2 g3 h0 h1 h2 h3;refine tq 0 ?_;refine tq 1 ?_
  (refine iE (rs:=[2]) af ag ?_;refine gV rfl (fun K hK=>?_) iD;go_simp)
  refine (aY g.k _).mono ?_;rintro e wA ⟨rfl,rfl⟩;refine ov hK (HK.u _ (xZ W).drew) fun ay4=>?_
  rw [HA.u];refine tq 3 ?_;refine tq 4 ?_;refine sk 5 ?_;refine sk 6 ?_;refine sk 7 ?_;refine sk 8 ?_;refine sk 9 ?_;refine sk 10 ?_;refine sk 11 ?_;refine sk 12 ?_;refine sk 13 ?_;refine tq 14 ?_;refine dn ?_;have Oz:=hY ((xZ W).drew);have H1:Hid ((decide (0<ar g.k) && (Gn h (uk g)||alike g h))=false):=by unfold Hid;rw [ha,Fs];rfl
  have Hh:r=0:=by rw [<-hr];exact afb aa
  subst Hh;obtain ⟨⟨g0,g1,g2,g3⟩,⟨h0,h1,h2,h3⟩⟩:=HK.u W.drew Oz.u;go_wp2_with fail;refine (bC g.k _).mono ?_;rintro e wq ⟨rfl,rfl⟩;rw [hr];have HV:=hY (qC H1.u (Or.inl hr))
  exact qD
theorem abl {w1:World} {A:OA} {n i k:Nat} {xs:List Gt} (h:Rd w1 w1.heap.size 4 A n (ak xs)) (hi:i<n) (hk:k<n):∃b o g h,A=some ⟨b,o,none⟩/\xs[i]?=some g/\xs[k]?=some h/\∀w',Ext w1 w'->(w'.cell? (aA b (o+i*4))=some (iI g.k)/\w'.cell? (aA b (o+i*4+1))=some (iI g.a)/\w'.cell? (aA b (o+i*4+2))=some (iI g.b)/\w'.cell? (aA b (o+i*4+3))=some (iI g.c))/\(w'.cell? (aA b (o+k*4))=some (iI h.k)/\w'.cell? (aA b (o+k*4+1))=some (iI h.a)/\w'.cell? (aA b (o+k*4+2))=some (iI h.b)/\w'.cell? (aA b (o+k*4+3))=some (iI h.c)):=by
 obtain ⟨b,o,g,rfl,-,hg,-⟩:=bE h hi;obtain ⟨b',o',h',he,-,hh,-⟩:=bE h hk;simp only [fW,iO] at he;obtain ⟨rfl,rfl,-⟩:=he;refine ⟨b,o,g,h',rfl,hg,hh,fun w' hx=>?_⟩;obtain ⟨b2,o2,g2,he,-,jL,x0,x1,x2,x3⟩:=bE (h.ext hx) hi;obtain ⟨b3,o3,g3,he3,-,Bl,y0,y1,y2,y3⟩:=bE (h.ext hx) hk;simp only [fW,iO] at he he3;obtain ⟨rfl,rfl,-⟩:=he;obtain ⟨rfl,rfl,-⟩:=he3;rw [hg] at jL;rw [hh] at Bl;obtain rfl:=nT jL;obtain rfl:=nT Bl
 exact ⟨⟨x0,x1,x2,x3⟩,y0,y1,y2,y3⟩
def WS (w:World) (t:Option (Nat ×List Gt)) (e:Ending) (w':World):Prop:=match t with
 |none=>e=.returned (.tuple #[iI (-1),nS])
 |some p=>∃v,e=.returned (.tuple #[iI p.1,v])/\w'.ownsRow w.heap.size 54 4 v p.2.length (ak p.2)
theorem DV {w w':World} {t:Option (Nat ×List Gt)} {e:Ending} (h:t=none) (he:e=.returned (.tuple #[iI (-1),nS])):WS w t e w':=by subst h;exact he
theorem OB {w w':World} {t:Option (Nat ×List Gt)} {k:Nat} {out:List Gt} {v:Value} (h:t=some (k,out)) (ho:w'.ownsRow w.heap.size 54 4 v out.length (ak out)):WS w t (.returned (.tuple #[iI k,v])) w':=by subst h;exact ⟨v,rfl,ho⟩
theorem SA (A:OA) (n c i:Nat) (xs:List Gt) (w:World) (h:Rd w w.heap.size 4 A n (ak xs)) (hn:n<=2000000000000) (hi:i<n):
  Calls prog 123 #[.slice A n c,iI i] w fun e w'=>WS w (MU xs i) e w'/\Ext w w':=by
 have hlen:=h.len Gt.aE aa;have HN:=hY hlen;have hi1:=wA i aa;have Zr:=wB i aa;have NB:(0:Int)<=(i:Int):=aa
 have zh:(i:Int)<(n:Int):=aa
 obtain ⟨b0,o0,g,-,-,ID,-⟩:=bE h hi;have HG:=hY ID;have HP:Hid (MU xs i=NZ xs g (n - (i+1)) (i+1)):=by unfold Hid MU;rw [ID,hlen]
 have HR:=hY h;clear hlen ID h;go_enter func123,ntmps123;go_wp2
 go_loopw [6] (fun kv wr=>∃k:Nat,kv=iI k/\i<k/\k<=n/\Hid (MU xs i=NZ xs g (n - k) k)/\Hid (Ext w wr)) (fun kv _=>n - (intOf kv).toNat)
 case atStart=>exact ⟨i+1,by first|rfl|rw [hi1]|rw [Zr],aa,aa,HP,xZ _⟩
 case round=>
  obtain ⟨k,rfl,Fz,hk,HQ,HE⟩:=hrel;clear HP
  by_cases bh:k<n
  ·have bS:Hid (i<k/\k<n/\n<=2000000000000):=⟨Fz,bh,hn⟩;obtain ⟨b,o,g',hh,rfl,jL,FZ,OC⟩:=abl HR.u hi bh;have eg:g'=g:=by have e:=HG.u;rw [jL] at e;exact nT e
   subst eg;have HH:=hY FZ;have HK:Hid (∀w',Ext wr w'->(w'.cell? (aA b (o+i*4))=some (iI g'.k)/\w'.cell? (aA b (o+i*4+1))=some (iI g'.a)/\w'.cell? (aA b (o+i*4+2))=some (iI g'.b)/\w'.cell? (aA b (o+i*4+3))=some (iI g'.c))/\(w'.cell? (aA b (o+k*4))=some (iI hh.k)/\w'.cell? (aA b (o+k*4+1))=some (iI hh.a)/\w'.cell? (aA b (o+k*4+2))=some (iI hh.b)/\w'.cell? (aA b (o+k*4+3))=some (iI hh.c))):=fun w' hx=>OC w' (HE.u.trans hx)
   have hfu:n - k=(n - (k+1))+1:=aa
   have rE:(0:Int)<=(k:Int):=aa
   have jT:(k:Int)<(n:Int):=aa
   have eM:=wA k aa;have iG:=wB k aa;rw [hfu] at HQ;clear OC jL FZ hfu;obtain ⟨⟨g0,g1,g2,g3⟩,⟨h0,h1,h2,h3⟩⟩:=HK.u wr (xZ wr)
   cases hm:et g' hh with
   |some out=>
    have HV:=hY (HQ.u.trans (IV HH.u hm));have HM:=hY hm;clear hm;go_upto_region 4 with fail
    go_region_held3 (fun w'=>(w'.cell? (aA b (o+i*4))=some (iI g'.k)/\w'.cell? (aA b (o+i*4+1))=some (iI g'.a)/\w'.cell? (aA b (o+i*4+2))=some (iI g'.b)/\w'.cell? (aA b (o+i*4+3))=some (iI g'.c))/\(w'.cell? (aA b (o+k*4))=some (iI hh.k)/\w'.cell? (aA b (o+k*4+1))=some (iI hh.a)/\w'.cell? (aA b (o+k*4+2))=some (iI hh.b)/\w'.cell? (aA b (o+k*4+3))=some (iI hh.c)))
     (first|go_keep|exact HK.u _ aQ)
     (first
      |(go_at_call 133;refine (mo g' hh _).mono ?_;rintro e w3 ⟨bz,bT⟩;rw [HM.u] at bz;obtain ⟨v3,rfl,jm⟩:=bz;replace bT:Ext wr w3:=(xZ wr).drew.trans bT))
    have HO:Hid (w3.ownsRow w.heap.size 54 4 v3 out.length (ak out)/\Ext w w3):=⟨aC jm HE.u.size,HE.u.trans bT⟩;clear jm bT g0 g1 g2 g3 h0 h1 h2 h3;go_wp2;go_ret2
    exact ⟨OB HV.u HO.u.1,HO.u.2⟩
   |none=>
    have HM:=hY hm;clear hm;go_upto_region 4 with fail
    go_region_held3 (fun w'=>(w'.cell? (aA b (o+i*4))=some (iI g'.k)/\w'.cell? (aA b (o+i*4+1))=some (iI g'.a)/\w'.cell? (aA b (o+i*4+2))=some (iI g'.b)/\w'.cell? (aA b (o+i*4+3))=some (iI g'.c))/\(w'.cell? (aA b (o+k*4))=some (iI hh.k)/\w'.cell? (aA b (o+k*4+1))=some (iI hh.a)/\w'.cell? (aA b (o+k*4+2))=some (iI hh.b)/\w'.cell? (aA b (o+k*4+3))=some (iI hh.c)))
     (first|go_keep|exact HK.u _ aQ)
     (first
      |(go_at_call 133;refine (mo g' hh _).mono ?_;rintro e w3 ⟨bz,bT⟩;rw [HM.u] at bz;obtain ⟨v3,rfl⟩:=bz;replace bT:Ext wr w3:=(xZ wr).drew.trans bT))
    have iM:=hY bT;clear bT g0 g1 g2 g3 h0 h1 h2 h3;obtain ⟨⟨g0,g1,g2,g3⟩,⟨h0,h1,h2,h3⟩⟩:=HK.u w3 iM.u;go_upto_region 7 with fail
    go_region_held3 (fun w'=>(w'.cell? (aA b (o+i*4))=some (iI g'.k)/\w'.cell? (aA b (o+i*4+1))=some (iI g'.a)/\w'.cell? (aA b (o+i*4+2))=some (iI g'.b)/\w'.cell? (aA b (o+i*4+3))=some (iI g'.c))/\(w'.cell? (aA b (o+k*4))=some (iI hh.k)/\w'.cell? (aA b (o+k*4+1))=some (iI hh.a)/\w'.cell? (aA b (o+k*4+2))=some (iI hh.b)/\w'.cell? (aA b (o+k*4+3))=some (iI hh.c)))
     (first|go_keep|exact HK.u _ aQ)
     (first
      |(go_at_call 134;refine (rJ g' hh _).mono ?_;rintro e w4 ⟨rfl,fe⟩;replace fe:Ext wr w4:=iM.u.trans ((xZ w3).drew.trans fe)))
    have IW:=hY (HE.u.trans fe);clear fe g0 g1 g2 g3 h0 h1 h2 h3 iM
    cases hc:nd g' hh
    ·have HV:=hY (HQ.u.trans (CP HH.u HM.u hc));clear hc;go_wp2;go_ret2
     exact ⟨DV HV.u rfl,IW.u⟩
    ·have mr:=hY (HQ.u.trans (CO HH.u HM.u hc));clear hc;go_wp2;go_roundw
     case rel=>exact ⟨k+1,by first|rfl|rw [eM]|rw [iG],oM bS.u,oM bS.u,mr,IW⟩
     case measure=>simp [intOf,iG];have:=bS.u;omega
  ·have jT:k=n:=aa
   subst jT;have HV:Hid (MU xs i=none):=by
    have:=HQ.u;rw [yV] at this
    exact this
   go_wp2;go_ret2
   exact ⟨DV HV.u rfl,HE.u⟩
theorem QC {w:World} {B n m:Nat} {A:OA} {xs:List Gt} (h:Rd w B 4 A n (ak xs)) (hm:m<=n):Rd w B 4 A m (ak (xs.take m)):=by
 have h1:=zf h hm;have e:(ak xs).take (m*4)=ak (xs.take m):=by
  clear h h1 hm
  induction xs generalizing m with
  |nil=>simp
  |cons x xs ih=>
   cases m with
   |zero=>simp
   |succ m=>
    rw [uF];show (Gt.cells x++ak xs).take ((m+1)*4)=Gt.cells x++ak (xs.take m);rw [Nu,<-ih];rw [lE (by rw [Gt.aE];omega),Gt.aE];congr 2;omega
 rw [<-e]
 exact h1
theorem LV (xs:List Gt) (m:Nat):(ak xs).drop (m*4)=ak (xs.drop m):=by
 induction xs generalizing m with
 |nil=>simp
 |cons x xs ih=>
  cases m with
  |zero=>simp
  |succ m=>
   rw [Iq];show (Gt.cells x++ak xs).drop ((m+1)*4)=ak (xs.drop m);rw [Nv,uD (by rw [Gt.aE];omega),Gt.aE,lN,<-ih];congr 1;omega
theorem LW {w:World} {B n m b o:Nat} {xs:List Gt} (h:Rd w B 4 (some ⟨b,o,none⟩) n (ak xs)) (hm:m<=n):Rd w B 4 (some ⟨b,o+m*4,none⟩) (n - m) (ak (xs.drop m)):=by
 rw [<-LV];refine ⟨?_,fun h0=>?_⟩
 ·rw [lU,h.1];omega
 ·obtain ⟨b',o',e,hb,hc⟩:=h.2 aa;injection e with e;injection e with e1 e2;subst e1 e2;refine ⟨b,o+m*4,rfl,hb,fun j u hu=>?_⟩;rw [xw] at hu;have:=hc _ _ hu;rw [Iy]
  exact this
def Hl (w:World) (xs:List Gt) (e:Ending) (w':World):Prop:=match jW xs with
 |none=>∃v,e=.returned (.tuple #[v,.bool false])
 |some ys=>∃v,e=.returned (.tuple #[v,.bool true])/\w'.ownsRow w.heap.size 54 4 v ys.length (ak ys)
theorem OD {w w':World} {xs:List Gt} {v:Value} (h:jW xs=none):Hl w xs (.returned (.tuple #[v,.bool false])) w':=by unfold Hl;rw [h];exact ⟨v,rfl⟩
theorem OE {w w':World} {xs ys:List Gt} {v:Value} (h:jW xs=some ys) (ho:w'.ownsRow w.heap.size 54 4 v ys.length (ak ys)):Hl w xs (.returned (.tuple #[v,.bool true])) w':=by unfold Hl;rw [h];exact ⟨v,rfl,ho⟩
theorem DW {P:Prop} (h:P:=by
 go_upto_region 7 with fail;refine dm (S:=fun _=>True) af trivial (fun ay4=>?_);refine tq 0 ?_;refine tq 1 ?_;refine tq 3 ?_;refine tq 4 ?_;refine tq 5 ?_;refine tq 6 ?_;refine o1 2 fun K hK=>?_
 have fF:Hid (w6.drew.ownsRow w3.heap.size 54 4 (.slice A6 (i+(k - (i+1))) c6) (i+(k - (i+1))) (ak (xs.take i++(xs.take k).drop (i+1)))/\Ext w3 w6.drew):=⟨aq km.u.1 (xZ _).drew,km.u.2.drew⟩;refine eE (w0:=w3) ah _ _ ah _ (i+(k - (i+1))) _ ah fF.u.1 fF.u.2 _ out.length _ out ah (HRV.u.ext fF.u.2) (oM py.u) ?_;intro v8 w8 g1 g2 g3 g4;have vE:Hid (w8.ownsRow w3.heap.size 54 4 v8 (i+(k - (i+1))+out.length) (ak (xs.take i++(xs.take k).drop (i+1)++out))/\Ext w3 w8):=⟨g1,g2⟩;clear g1 g2 g3 g4 fF;refine ov hK trivial fun ay4=>?_
 refine o1 7 fun K hK=>?_
 refine eE (w0:=w3) ah _ _ ah _ (i+(k - (i+1))+out.length) _ ah vE.u.1 vE.u.2 _ (n - (k+1)) _ (xs.drop (k+1)) ah (HD.u w8 vE.u.2) (oM py.u) ?_;intro v9 w9 g1 g2 g3 g4;have kN:Hid (w9.ownsRow w.heap.size 54 4 v9 (CQ xs i k out).length (ak (CQ xs i k out))/\Ext w w9):=⟨by rw [dB.u];exact aC g1 iM.u.size,iM.u.trans g2⟩;clear g1 g2 g3 g4 vE;refine ov hK trivial fun ay4=>?_
 refine tq 8 ?_;refine tq 9 ?_;refine dn ?_;go_wp2;go_ret2
 exact ⟨OE HV.u kN.u.1,kN.u.2⟩):P:=h
theorem rQ (A:OA) (n c:Nat) (xs:List Gt) (w:World) (h:Rd w w.heap.size 4 A n (ak xs)) (hn:n<=400000000000) (hc:n<=c):
  Calls prog 108 #[.slice A n c] w fun e w'=>Hl w xs e w'/\Ext w w':=by
 have hlen:=h.len Gt.aE aa;have HN:=hY hlen;have HR:=hY h;have HP:Hid (jW xs=sV xs (n - 0) 0):=by unfold Hid jW;rw [hlen];rfl
 clear h hlen;go_enter func108,ntmps108;go_wp2
 go_loopw [4] (fun iv wr=>∃i:Nat,iv=iI i/\i<=n/\Hid (jW xs=sV xs (n - i) i)/\Hid (Ext w wr)) (fun iv _=>n - (intOf iv).toNat)
 case atStart=>exact ⟨0,rfl,lJ _,HP,xZ _⟩
 case round=>
  obtain ⟨i,rfl,hi,HQ,HE⟩:=hrel;clear HP
  by_cases bh:i<n
  ·have bS:Hid (i<n/\n<=400000000000/\n<=c):=⟨bh,hn,hc⟩;have hfu:n - i=(n - (i+1))+1:=aa
   rw [hfu] at HQ;have hi1:=wA i aa;have Zr:=wB i aa;go_wp2_with fail;refine (SA A n c i xs _ (HR.u.ext HE.u) aa bh).mono ?_;rintro e w3 ⟨bz,bT⟩;have iM:=hY (HE.u.trans bT)
   cases hp:MU xs i with
   |none=>
    rw [hp] at bz;obtain rfl:e=.returned (.tuple #[iI (-1),nS]):=bz;have mr:=hY (HQ.u.trans (vU hp));clear hp bT;go_wp2;go_roundw
    case rel=>exact ⟨i+1,by first|rfl|rw [hi1]|rw [Zr],oM bS.u,mr,iM⟩
    case measure=>simp [intOf,Zr];have:=bS.u;omega
   |some p=>
    rw [hp] at bz;obtain ⟨k,out⟩:=p;obtain ⟨v,rfl,ho⟩:=bz;have Oy:=CR hp;have HV:=hY (HQ.u.trans (zl hp));have py:Hid (i<k/\k<n/\out.length<=1):=by have:=HN.u;unfold Hid;omega
    obtain ⟨B,d,rfl,hrv⟩:=au ho;have HRV:=hY hrv;obtain ⟨b,o,rfl⟩:∃b o,A=some ⟨b,o,none⟩:=by
     obtain ⟨b,o,e,-⟩:=HR.u.2 aa
     exact ⟨b,o,e⟩
    clear hp Oy ho bT hrv HQ;have rE:(k:Int)>0:=oM py.u
    have eM:decide ((k:Int)>0)=true:=sU rE
    have Zm:(i:Int)<=(c:Int):=aa
    have Fz:((i+1:Nat):Int)<=(k:Int):=oM py.u
    have Vu:(k:Int)<=(c:Int):=oM py.u
    have NB:(0:Int)<=(i:Int):=aa
    have avC:(0:Int)<=((i+1:Nat):Int):=aa
    have hib:(0:Int)<=(i:Int)+1:=aa
    have avD:(i:Int)+1<=(k:Int):=oM py.u
    have hci:¬(c=i+1):=oM py.u
    go_upto_region 6 with fail;refine dm (S:=fun _=>True) af trivial (fun ay4=>?_);refine tq 1 ?_;refine tq 2 ?_;refine tq 3 ?_;refine tq 5 ?_;refine tq 6 ?_;refine tq 7 ?_;refine tq 8 ?_;refine tq 9 ?_;refine o1 0 fun K hK=>?_
    go_simp;refine ov hK trivial fun ay4=>?_
    have nB:Hid ((w3.alloc (cO #[] 54)).drew.ownsRow w3.heap.size 54 4 (.slice (some ⟨w3.heap.size,0,none⟩) 0 0) 0 (ak [])/\Ext w3 (w3.alloc (cO #[] 54)).drew):=⟨aq (aJ w3 w3 _ 4 (xZ _)) (xZ _).drew,((xZ w3).alloc _).drew⟩;refine o1 4 fun K hK=>?_
    refine eE (w0:=w3) ah _ _ ah _ 0 [] ah nB.u.1 nB.u.2 _ i _ (xs.take i) ah (QC ((HR.u.ext iM.u).ext nB.u.2) (oM py.u)) (oM py.u) ?_;intro v5 w5 g1 g2 g3 g4;rw [lM,lN] at g1;have iK:Hid (w5.ownsRow w3.heap.size 54 4 v5 i (ak (xs.take i))/\Ext w3 w5):=⟨g1,g2⟩;clear g1 g2 g3 g4 nB;refine ov hK trivial fun ay4=>?_
    refine o1 10 fun K hK=>?_
    refine eE (w0:=w3) ah _ _ ah _ i (xs.take i) ah iK.u.1 iK.u.2 _ (k - (i+1)) _ ((xs.take k).drop (i+1)) ah (LW (QC ((HR.u.ext iM.u).ext iK.u.2) (oM py.u)) (oM py.u)) (oM py.u) ?_;intro v6 w6 g1 g2 g3 g4;obtain ⟨A6,c6,rfl,-⟩:=au g1;have km:Hid (w6.ownsRow w3.heap.size 54 4 (.slice A6 (i+(k - (i+1))) c6) (i+(k - (i+1))) (ak (xs.take i++(xs.take k).drop (i+1)))/\Ext w3 w6):=⟨g1,g2⟩;clear g1 g2 g3 g4 iK;refine ov hK trivial fun ay4=>?_
    refine tq 11 ?_;refine dn ?_;have WT:(0:Int)<=(k:Int)+1:=aa
    have ajF:(k:Int)+1<=(n:Int):=oM py.u
    have ajG:IntKind.i64.wrap ((k:Int)+1)=(k:Int)+1:=lH _ aa;have ajH:wrap64 ((k:Int)+1)=(k:Int)+1:=bo
    have dB:Hid ((CQ xs i k out).length=i+(k - (i+1))+out.length+(n - (k+1))):=by
     unfold Hid CQ;have:=HN.u;have:=py.u;simp only [lA,lT,lU];omega
    by_cases hck:c=k+1
    ·have HD:Hid (∀w',Ext w3 w'->Rd w' w'.heap.size 4 (some ⟨b,o,none⟩) (n - (k+1)) (ak (xs.drop (k+1)))):=fun w' hx=>by
      have:=HN.u;have e0:n - (k+1)=0:=oM py.u
      have e1:xs.drop (k+1)=[]:=uD (oM py.u);rw [e0,e1]
      exact ⟨ag,fun h0=>absurd h0 aa⟩
     exact DW
    ·have HD:Hid (∀w',Ext w3 w'->Rd w' w'.heap.size 4 (some ⟨b,o+(k+1)*4,none⟩) (n - (k+1)) (ak (xs.drop (k+1)))):=fun w' hx=>LW ((HR.u.ext iM.u).ext hx) (oM py.u)
     exact DW
  ·have zh:i=n:=aa
   subst zh;have HV:Hid (jW xs=none):=by
    have:=HQ.u;rw [yV] at this
    exact this
   go_wp2_with (at_builtin;refine cU (w0:=w) rfl _ _ rfl _ 0 [] rfl (aJ w wr _ 4 HE.u) (HE.u.alloc _) A i c xs rfl ((HR.u.ext HE.u).ext ((xZ _).alloc _)) aa ?_;intro v9 w9 g1 g2 g3 g4)
   have mJ:=hY g2;clear g1 g2 g3 g4;go_wp2;go_ret2
   exact ⟨OD HV.u,mJ.u⟩
end Go.Proofs.YtiajdbllccmokaaGreatDoor
