/- A part of the proof. -/
import Derived.Test.YtacejomniokahaaGreatPS
import Derived.Test.YtacejomniokahaaGreatPI
import Derived.Test.YtacejomniokahaaGreatPL
import Derived.Test.YtacejomniokahaaGreatPG
open Nat renaming reduceAdd→xa1,reduceEqDiff→xa2,le_refl→xa5,zero_add→xb0,add_zero→xb1,add_assoc→xb2
open List renaming length_append→xc8,length_singleton→xd1
open Bool renaming and_eq_true→xe6,false_eq_true→xe7
open Option renaming map_some→xg1
open Go.Sx.SV renaming val→Ψ
open Go.Value renaming int→Φ
open Go.IntKind renaming i64→Γ
set_option linter.unusedVariables false
set_option linter.unusedSimpArgs false
set_option linter.defProp false
set_option maxRecDepth 1000000
set_option maxHeartbeats 16000000
section
namespace Go.Sx
open Go.Proofs
open Go.RowKit Go.Tn
noncomputable section
def y67:Bool:=z8 (jv (gR Tryz.prog X1) 100000 Tryz.f67 ((zs flT 67).getD []) [] wy)
theorem qpI:y67=true:=by kernel_rfl
theorem qnp:qf Tryz.prog 67 [] (.val (.bool true)):=jw follows qkM Tryz.func67 (L:=(zs flT 67).getD []) rfl 100000 qpI
end
end Go.Sx
end
section
namespace Go.Sx
open Go.Proofs
open Go.RowKit Go.Tn
noncomputable section
def y68:Bool:=z8 (jv (gR Tryz.prog X1) 100000 Tryz.f68 ((zs flT 68).getD []) [] wy)
theorem qpJ:y68=true:=by kernel_rfl
theorem qnq:qf Tryz.prog 68 [] (.val (.bool true)):=jw follows qkM Tryz.func68 (L:=(zs flT 68).getD []) rfl 100000 qpJ
end
end Go.Sx
end
section
namespace Go.Sx
open Go.Proofs
open Go.RowKit Go.Tn
noncomputable section
def y69:Bool:=z8 (jv (gR Tryz.prog X1) 100000 Tryz.f69 ((zs flT 69).getD []) [] wy)
theorem qpK:y69=true:=by kernel_rfl
theorem qnr:qf Tryz.prog 69 [] (.val (.bool true)):=jw follows qkM Tryz.func69 (L:=(zs flT 69).getD []) rfl 100000 qpK
end
end Go.Sx
end
section
namespace Go.Tn
open Go.Proofs
open Go.Sx
theorem c12:qf Tryz.prog 12 [] (B true):=by
 refine qg Tryz.func12 rfl Ωb follows Ωb _ _ (by rw[Tryz.ntmps12];simp) (by simp[OldL]) ?_;have h1:=qnp;have h2:=qnq;have h3:=qnr;unfold B;(simp -dsimp only[↓RP,RQ,seval,TY,Tryz.results12]);refine qk h1 ΩX Ω9 ?_;(simp -dsimp only[↓RP,RQ,seval,TY,Tryz.results12]);refine qk h2 ΩX Ω9 ?_;(simp -dsimp only[↓RP,RQ,seval,TY,Tryz.results12]);refine qk h3 ΩX Ω9 ?_;(simp -dsimp only[↓RP,RQ,seval,TY,Tryz.results12])
end Go.Tn
end
section
namespace Go.Sx
open Go.Proofs
open Go.RowKit Go.Tn
noncomputable section
def qrb:List SV→Tr 6 XB→Nat→(SV→Tr 6 XB→Nat→R)→R:=qnd (gR Tryz.prog X0) 100000 Tryz.f104 [(11,[(2,2)]),(12,[(2,2)])] qkw (sqN 7 (gQ Tryz.f104)) (sqB 8 (gQ Tryz.f104))
theorem qns:yb Tryz.prog 104 qrb:=by
 obtain⟨c,hc⟩:=fnX (P:=Tryz.prog) (L:=[(11,[(2,2)]),(12,[(2,2)])]) Tryz.func104 (Z6 vd (j:=104) rfl (by rw[xb0];exact Tryz.func104));have e:c=QL qpp (sqB 8 (gQ Tryz.f104)) (sqN 7 (gQ Tryz.f104)):=by
  have h:=hc.body;have h2:Tryz.f104.body=some (QL qpp (sqB 8 (gQ Tryz.f104)) (sqN 7 (gQ Tryz.f104))):=by kernel_rfl
  rw[h2]at h;exact(Option.some.inj h).symm
 subst e;exact qeN follows (KR _ _ X0_ok) (Zu _ _ X0_ok.fl) hc qnf 100000
def X2:XP:=⟨flT,plT,(104,qrb) :: olT,[qaO],[lsN,l1N]⟩
theorem qrc:qax Tryz.prog X2:=⟨vd,X0_ok.pl,⟨qns,X0_ok.ol⟩,X0_ok.cl,X0_ok.nl⟩
def y96:Bool:=z8 (jv (gR Tryz.prog X2) 100000 Tryz.f96 ((zs flT 96).getD []) [] wy)
theorem qpL:y96=true:=by kernel_rfl
theorem qnt:qf Tryz.prog 96 [] (.val (.bool true)):=jw follows qrc Tryz.func96 (L:=(zs flT 96).getD []) rfl 100000 qpL
end
end Go.Sx
end
section
namespace Go.Tn
open Go.Proofs
open Go.Sx
theorem c31:qf Tryz.prog 31 [] (B true):=by
 refine qg Tryz.func31 rfl Ωb follows Ωb _ _ (by rw[Tryz.ntmps31];simp) (by simp[OldL]) ?_;have h1:=c12;have h2:=qnt;unfold B at *;(simp -dsimp only[↓RP,RQ,seval,TY,Tryz.results31]);refine qk h1 ΩX Ω9 ?_;(simp -dsimp only[↓RP,RQ,seval,TY,Tryz.results31]);refine qk h2 ΩX Ω9 ?_;(simp -dsimp only[↓RP,RQ,seval,TY,Tryz.results31])
end Go.Tn
end
section
namespace Go.Tn
open Go.Proofs
open Go.Sx Go.RowKit
noncomputable def M232:Code:=sqL (sqB 4 (gQ Tryz.f232))
def vp:List Nat:=[11,12,74,75,76,77,78,79,80,81,82,83,84,85,86,87,88,89,90,91]
def qfc(s:SV):Bool:=match s with
 |.agg [.val (.bool _),Ψ (Φ Γ _),.val (.bool _),Ψ (Φ Γ _)]=>true
 |_=>false
def qkN(es:List (Value×Option SV)):Bool:=es.all λe=>match e.2 with
 |some s=>qfc s
 |none=>true
noncomputable def mh232:MX:=λfr hp nid f=>match qy fr 3 with
 |.ptr b 0=>(match hp.find b with
  |some (.cells 184 [.ptr d 0])=>(match hp.find d with
   |some (.cells 338 [a0,a1,a2,.mp mid])=>(match hp.find mid with
    |some (.map true [.i .i64,.i .i64] es)=>ql 614 (qkN es) (qeO vp fr λfr=>zf (some (.tup [.val (.bool false)])) 22 fr 79 λfr=>zf (some (.val (.bool false))) 22 fr 80 λfr=>zf (some (.map true [.i .i64,.i .i64] (qaS vf es))) 22 hp mid λhp=>qm (nid+(20*es.length+100)) λnid=>f .normal fr hp nid)
    |_=>.bad 610 0)
   |_=>.bad 611 0)
  |_=>.bad 612 0)
 |_=>.bad 613 0
theorem qaZ{k:Value}{s:SV}:∀{es:List (Value×Option SV)},qkN es=true→kG es k=some s→qfc s=true
 |[],_,h=>by cases h
 |(q,o) :: es,h,h2=>by
  rw[zR]at h2;unfold qkN at h;rw[List.all_cons,xe6]at h;split at h2
  ·subst h2;exact h.1
  ·exact qaZ h.2 h2
theorem qkO{s:SV}(h:qfc s=true):∃a b c d,s=.agg [.val (.bool a),Ψ (Φ Γ b),.val (.bool c),Ψ (Φ Γ d)]:=by
 unfold qfc at h;split at h
 ·exact⟨_,_,_,_,rfl⟩
 ·cases h
theorem qnu{k:Value}(h:qh true [.i .i64,.i .i64] k=true):∃x y,k=.agg #[Φ Γ x,Φ Γ y]:=by
 cases k<;>simp only[qh,xe7]at h
 rename_i a;obtain⟨l⟩:=a;have h:qY [.i .i64,.i .i64] l=true:=h;rcases l with _|⟨x,_|⟨y,_|⟨z,l⟩⟩⟩<;>simp only[qY,xe6,xe7,and_false]at h
 obtain⟨h1,h2,_⟩:=h;cases x<;>simp only[lfOk,xe7,decide_eq_true_eq]at h1
 cases y<;>simp only[lfOk,xe7,decide_eq_true_eq]at h2
 rename_i k r k2 r2;subst h1;subst h2;exact⟨r,r2,rfl⟩
theorem qnv:qeM Tryz.prog [] M232 mh232:=by
 intro ρ LM fs lo st fr hp nid f K hs h hk;obtain⟨F,H,n⟩:=st;obtain⟨hF,hH,hn⟩:=hs
 replace hF:FRel fr F:=hF
 replace hH:HRel LM hp H:=hH
 replace hn:n=nid:=hn
 unfold mh232 at h;split at h
 rotate_left
 ·cases h
 rename_i b e3;split at h
 rotate_left
 ·cases h
 rename_i d hb;split at h
 rotate_left
 ·cases h
 rename_i a0 a1 a2 mid hd;split at h
 rotate_left
 ·cases h
 rename_i es hm;obtain⟨hes,h⟩:=qe h;obtain⟨fr0,hfr0,h⟩:=Jt h;obtain⟨fr1,hfr1,h⟩:=qC _ _ _ _ h;obtain⟨fr',hfr',h⟩:=qC _ _ _ _ h;obtain⟨hp1,p1,h⟩:=qC _ _ _ _ h;rw[qj]at h;have f3:Go.Sx.look F 3=.ptr b 0:=(hF 3).trans e3;have b1:blk H b=some (.cells 184 [.ptr d 0]):=hH.cells hb;have b2:=hH.cells hd;obtain⟨dom,get,b3,hdg⟩:=hH.map hm;have NB:True:=trivial
 conv=>arg 3;whnf
 (repeat' first|refine sD ?_ ?_<;>intro _|refine aAh ?_|simp -dsimp only[↓RP,RQ,seval,↓RY,TYc,f3,b1,b2,b3,NB,QÁ]);obtain⟨iid,hiid⟩:∃iid,iid=n+4:=⟨_,rfl⟩;rw[←hiid];refine qeP (mid:=mid) (fit:=qh true [.i .i64,.i .i64]) (dom:=dom) (get:=get) Ωr Ωr qog b3 λhU stamp clk hst hinj=>?_;have u1:=hU b _ b1;have u2:=hU d _ b2;have u3:=hU mid _ b3;have n1:b≠mid:=λe=>by rw[e,b3]at b1;cases b1
 have n2:d≠mid:=λe=>by rw[e,b3]at b2;cases b2
 have NB:=(⟨nmA u1,nmA u2,nmA u3,nmE n1,nmE n2⟩:_∧_∧_∧_∧_);(repeat' first|refine sD ?_ ?_<;>intro _|refine aAh ?_|simp -dsimp only[↓RP,RQ,seval,↓RY,TYc,f3,b1,b2,b3,NB,QÁ]);refine qp (λ(z:List Value)=>z.Nodup∧(∀v,v∈z→dom v=true∧eqK v v=true)) (λz=>⟨(78,.ptr iid 0) :: JS vp F,(iid,.iter mid clk (z.map stamp) clk) ::(mid,.mapS (qh true [.i .i64,.i .i64]) (dAt dom get (vf) z) get stamp clk) :: dropBlk H mid,iid+6+20*z.length⟩) (λz=>es.length - z.length) [] ⟨List.nodup_nil,λv hv=>Ωs⟩ (yr (xa5 _) (λt=>by
  by_cases e:t=78
  ·subst e;right;simp[Go.Sx.look]
  ·by_cases c:t∈vp
   ·left;simp[Go.Sx.look,qP,e,c]
   ·right
    rw[vp]at c;simp only[List.mem_cons,List.not_mem_nil,or_false,not_or]at c;simp[Go.Sx.look,qP,vp,c]) ?hA) λks hz=>?_
 case hA=>
  rw[WW];(repeat' (refine SubHp.ent (by simp only[blk,qq,b3,NB,List.map_nil,xg1,if_false,if_true]) ?_));intro q v hv;rw[qv]at hv;by_cases c:q=mid
  ·rw[if_pos c]at hv;cases hv
  ·rw[if_neg c]at hv
   have hq:=hU q v hv;simp only[blk,qq];rw[if_neg Ω,if_neg c];exact hv
 obtain⟨z1,z2⟩:=hz;have hD:∀q v,blk (dropBlk H mid) q=some v→q<iid∧q≠mid:=λq v hv=>by
  rw[qv]at hv;by_cases c:q=mid
  ·rw[if_pos c]at hv;cases hv
  ·rw[if_neg c]at hv;exact⟨hU q v hv,c⟩
 have hc1:blk (dropBlk H mid) b=some (.cells 184 [.ptr d 0]):=by rw[qv,if_neg n1];exact b1
 have hc2:blk (dropBlk H mid) d=some (.cells 338 [a0,a1,a2,.mp mid]):=by rw[qv,if_neg n2];exact b2
 have g1:Go.Sx.look (JS vp F) 3=.ptr b 0:=by rw[qP,if_neg Ωq];exact f3
 have hkl:=W0 (es:=es) z1 (λv hv=>by rw[←(hdg v).1];exact(z2 v hv).1);have NB1:=NB;clear NB;obtain⟨nn,hnn⟩:∃nn,nn=iid+6+20*ks.length:=⟨_,rfl⟩;rw[←hnn];have z3:iid<nn:=by omega
 have NB:=(⟨nmA (Ω:b<nn),nmA (Ω:d<nn),nmA (Ω:mid<nn),nmA z3,NB1⟩:_∧_∧_∧_∧_);(repeat' first|refine sD ?_ ?_<;>intro _|refine aAh ?_|simp -dsimp only[↓RP,RQ,seval,hc1,hc2,g1,↓RY,TYc,f3,b1,b2,b3,NB,QÁ]);refine qcK (iid:=iid) (mid:=mid) (clk:=clk) (seen:=ks.map stamp) (fit:=qh true [.i .i64,.i .i64]) (dom:=dAt dom get (vf) ks) (get:=get) (stamp:=stamp) Ωr Ωr Ωp Ωp (λk hk1 hk2 hk3=>?_) (λhall=>?_)
 ·obtain⟨r,bb,rfl⟩:=qnu hk1
  have hkd:=WY hk2;have hkn:(.agg #[Φ Γ r,Φ Γ bb]:Value)∉ks:=λhm=>hk3 (List.mem_map.2 ⟨_,hm,rfl⟩);have w1:=gi z1 hkn;have w2:∀v,v∈ks++[(.agg #[Φ Γ r,Φ Γ bb]:Value)]→dom v=true∧eqK v v=true:=λv hv=>by
   rcases List.mem_append.1 hv with h|h
   ·exact z2 v h
   ·rw[List.mem_singleton.1 h];exact⟨hkd,by simp[eqK,jB,vX]⟩
  have w3:es.length -(ks++[(.agg #[Φ Γ r,Φ Γ bb]:Value)]).length<es.length - ks.length:=by
   have:=W0 (es:=es) w1 (λv hv=>by rw[←(hdg v).1];exact(w2 v hv).1);rw[xc8,xd1]at this ⊢;omega
  (repeat' first|refine sD ?_ ?_<;>intro _|refine aAh ?_|simp -dsimp only[↓RP,RQ,seval,hc1,hc2,g1,↓RY,TYc,f3,b1,b2,b3,NB,QÁ]);refine Q3 (s:=.agg [Ψ (Φ Γ r),Ψ (Φ Γ bb)]) (iid:=iid) (mid:=mid) (clk:=clk) (seen:=ks.map stamp) (fit:=qh true [.i .i64,.i .i64]) (dom:=dAt dom get (vf) ks) (get:=get) (stamp:=stamp) (k:=.agg #[Φ Γ r,Φ Γ bb]) Ωr Ωr Ωp Ωp hk2 (vF [Φ Γ r,Φ Γ bb]) ?_;obtain⟨s0,hs0⟩:∃s0,kG es (.agg #[Φ Γ r,Φ Γ bb])=some s0:=Option.isSome_iff_exists.1 (by rw[←(hdg _).1];exact hkd);obtain⟨ga,gb,gc,gd,hg0⟩:=qkO (qaZ hes hs0);have hgk:get (.agg #[Φ Γ r,Φ Γ bb])=.agg [.val (.bool ga),Ψ (Φ Γ gb),.val (.bool gc),Ψ (Φ Γ gd)]:=((hdg _).2 s0 hs0).trans hg0;by_cases hbl:¬gd=1099511627776
  ·have dbl:=decide_eq_false hbl
   have hkp:vf (.agg #[Φ Γ r,Φ Γ bb]) (get (.agg #[Φ Γ r,Φ Γ bb]))=true:=by rw[hgk];exact decide_eq_true hbl
   (repeat' first|refine sD ?_ ?_<;>intro _|refine aAh ?_|simp -dsimp only[↓RP,RQ,seval,hc1,hc2,g1,hgk,dbl,↓RY,TYc,f3,b1,b2,b3,NB,QÁ]);refine⟨ks++[.agg #[Φ Γ r,Φ Γ bb]],⟨w1,w2⟩,w3,yr ?hn1 (λt=>by
    by_cases e:t=78
    ·subst e;right;simp[Go.Sx.look]
    ·by_cases c:t∈vp
     ·left;simp[Go.Sx.look,qP,e,c]
     ·right
      rw[vp]at c;simp only[List.mem_cons,List.not_mem_nil,or_false,not_or]at c;simp[Go.Sx.look,qP,vp,c]) ?hh1⟩
   case hn1=>rw[xc8,xd1];omega
   case hh1=>
    rw[List.map_append,List.map_cons,List.map_nil,WX hkp]
    ((repeat' (refine SubHp.ent Ωu ?_)))
    intro q v hv;have hq:=hD q v hv;simp only[blk]
    (repeat rw[if_neg Ω]);exact hv
  ·have hbl:=Classical.not_not.1 hbl
   have dbl:=decide_eq_true hbl;have hkp:vf (.agg #[Φ Γ r,Φ Γ bb]) (get (.agg #[Φ Γ r,Φ Γ bb]))=false:=by rw[hgk];exact decide_eq_false (λe=>e hbl)
   (repeat' first|refine sD ?_ ?_<;>intro _|refine aAh ?_|simp -dsimp only[↓RP,RQ,seval,hc1,hc2,g1,hgk,dbl,↓RY,TYc,f3,b1,b2,b3,NB,QÁ]);refine⟨ks++[.agg #[Φ Γ r,Φ Γ bb]],⟨w1,w2⟩,w3,yr ?hn0 (λt=>by
    by_cases e:t=78
    ·subst e;right;simp[Go.Sx.look]
    ·by_cases c:t∈vp
     ·left;simp[Go.Sx.look,qP,e,c]
     ·right
      rw[vp]at c;simp only[List.mem_cons,List.not_mem_nil,or_false,not_or]at c;simp[Go.Sx.look,qP,vp,c]) ?hh0⟩
   case hn0=>rw[xc8,xd1];omega
   case hh0=>
    rw[List.map_append,List.map_cons,List.map_nil,qcL hkp]
    ((repeat' (refine SubHp.ent Ωu ?_)))
    intro q v hv;have hq:=hD q v hv;simp only[blk]
    (repeat rw[if_neg Ω]);exact hv
 ·have hend:=WZ (p:=vf) z2 hinj hall
  have hR:HRel LM hp1 ((mid,.map (qh true [.i .i64,.i .i64]) (λv=>dom v&&vf v (get v)) get) :: dropBlk H mid):=by
   intro q x hx;rw[p1 q]at hx;by_cases c:q=mid
   ·rw[if_pos c]at hx
    cases hx;refine⟨.map (qh true [.i .i64,.i .i64]) (λv=>dom v&&vf v (get v)) get,by simp only[blk];rw[if_pos c],rfl,λk=>?_⟩;have h1:=hdg k;rw[wA];cases e:kG es k with
    |none=>rw[e]at h1;exact⟨by show(dom k&&vf k (get k))=_;rw[h1.1];rfl,λs hs=>(by cases hs)⟩
    |some s=>
     rw[e]at h1;have h2:=h1.2 s rfl;show(dom k&&vf k (get k))=_∧_;rw[h1.1,h2];dsimp only[Option.bind_some,Option.isSome_some];cases vf k s with
     |true=>exact⟨rfl,λs' hs=>(by cases hs;rfl)⟩
     |false=>exact⟨rfl,λs' hs=>(by cases hs)⟩
   ·rw[if_neg c]at hx
    obtain⟨b',h1,h2⟩:=hH q x hx;exact⟨b',by simp only[blk];rw[if_neg c,qv,if_neg c];exact h1,h2⟩
  refine⟨⟨JS vp F,(mid,.map (qh true [.i .i64,.i .i64]) (λv=>dom v&&vf v (get v)) get) :: dropBlk H mid,n+(20*es.length+98)⟩,Weak.trans (WA (mid:=mid) (fit:=qh true [.i .i64,.i .i64]) (dom:=dAt dom get (vf) ks) (dom':=λv=>dom v&&vf v (get v)) (get:=get) (st:=stamp) (c:=clk) Ωp hend) (yr Ω (λt=>?_) ?_),Ωc,?_⟩
  ·by_cases c:t∈vp
   ·left;rw[qP,if_pos c]
   ·right
    have e:t≠78:=λe=>c (by rw[e];decide);simp[Go.Sx.look,e]
  ·simp only[setBlk,NB,if_false,if_true]
   (repeat' (refine SubHp.ent (by simp only[blk,NB,if_false,if_true]) ?_));intro q v hv;have hq:=hD q v hv;simp only[blk];rw[if_neg Ω,if_neg hq.2];exact hv
  (repeat' first|refine sD ?_ ?_<;>intro _|refine aAh ?_|simp -dsimp only[↓RP,RQ,seval,↓RY,TYc,f3,b1,b2,b3,NB,QÁ]);refine hk .normal fr' hp1 (nid+(20*es.length+100)) _ ⟨λt=>?_,hR,by dsimp only;rw[hn]⟩ h;dsimp only;rw[show qy fr' t=if t=80 then .val (.bool false)else qy fr1 t by
   unfold qy;rw[hfr' t];by_cases c:t=80
   ·rw[if_pos c,if_pos c]
   ·rw[if_neg c,if_neg c],show qy fr1 t=if t=79 then .tup [.val (.bool false)]else qy fr0 t by
   unfold qy;rw[hfr1 t];by_cases c:t=79
   ·rw[if_pos c,if_pos c]
   ·rw[if_neg c,if_neg c],hfr0,←hF t]
  simp only[Go.Sx.look,qP]
end Go.Tn
end
section
namespace Go.Sx
noncomputable section
def qrd(l:List (List Int)):Nat→List Int:=List.rec (λ_=>[]) (λa _ ih i=>Nat.rec a (λj _=>ih j) i) l
def qkP(w m:Int)(l:List (List Int)):SV:=.agg [wI w,wI m,.arr false false 3 4 (λi j=>wI (qpi (qrd l i) j))]
def qkQ:SV:=qkP 3 100 [[0,1,10,12],[1,2,20,22],[0,2,40,41]]
def qnw:SV:=qkP 2 9 [[0,0,5,5],[0,0,7,7],[0,0,7,7]]
def c224J:Nat×List SV×SV:=(224,[qkQ],.tup [wI 3,wI 0])
def c225J:Nat×List SV×SV:=(225,[qkQ,wI 1],.tup [wI 1,wI 0])
def c223K:Nat×List SV×SV:=(223,[qnw],.tup [liN true 1 [0],wI 0])
end
end Go.Sx
end
section
namespace Go.Sx
open Go.Proofs
open Go.RowKit Go.Tn
noncomputable section
def qpM:List SV→Tr 6 XB→Nat→(SV→Tr 6 XB→Nat→R)→R:=qnd (gR Tryz.prog X0) 100000 Tryz.f232 [] mh232 (sqN 4 (gQ Tryz.f232)) (sqB 5 (gQ Tryz.f232))
theorem qfd:yb Tryz.prog 232 qpM:=by
 obtain⟨c,hc⟩:=fnX (P:=Tryz.prog) (L:=[]) Tryz.func232 (Z6 vd (j:=232) rfl (by rw[xb0];exact Tryz.func232));have e:c=QL M232 (sqB 5 (gQ Tryz.f232)) (sqN 4 (gQ Tryz.f232)):=by
  have h:=hc.body;have h2:Tryz.f232.body=some (QL M232 (sqB 5 (gQ Tryz.f232)) (sqN 4 (gQ Tryz.f232))):=by kernel_rfl
  rw[h2]at h;exact(Option.some.inj h).symm
 subst e;exact qeN follows (KR _ _ X0_ok) (Zu _ _ X0_ok.fl) hc qnv 100000
def X3:XP:=⟨flT,plT,(232,qpM) :: olT,[qaO],[lsN,l1N]⟩
theorem qkR:qax Tryz.prog X3:=⟨vd,X0_ok.pl,⟨qfd,X0_ok.ol⟩,X0_ok.cl,X0_ok.nl⟩
end
end Go.Sx
end
