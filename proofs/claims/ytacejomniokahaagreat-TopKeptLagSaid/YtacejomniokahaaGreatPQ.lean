/- A part of the proof. -/
import Derived.Test.YtacejomniokahaaGreatPP
import Derived.Test.YtacejomniokahaaGreatPJ
import Derived.Test.YtacejomniokahaaGreatPH
open Nat renaming reduceAdd→xa1,reduceEqDiff→xa2,le_refl→xa5,zero_add→xb0,add_zero→xb1,add_assoc→xb2
open List renaming length_append→xc8,length_singleton→xd1
open Bool renaming and_eq_true→xe6,false_eq_true→xe7
open Option renaming map_some→xg1
set_option linter.unusedVariables false
set_option linter.unusedSimpArgs false
set_option linter.defProp false
set_option maxRecDepth 1000000
set_option maxHeartbeats 16000000
section
namespace Go.Sx
open Go.Proofs
open Go.RowKit Go.Tn
noncomputable section
def y67:Bool:=gP (wK (vN Tryz.prog X1) 100000 Tryz.f67 ((kL flT 67).getD []) [] wu)
theorem qnP:y67=true:=by kernel_rfl
theorem qlL:qc Tryz.prog 67 [] (.val (.bool true)):=jr follows qjF Tryz.func67 (L:=(kL flT 67).getD []) rfl 100000 qnP
end
end Go.Sx
end
section
namespace Go.Sx
open Go.Proofs
open Go.RowKit Go.Tn
noncomputable section
def y68:Bool:=gP (wK (vN Tryz.prog X1) 100000 Tryz.f68 ((kL flT 68).getD []) [] wu)
theorem qnQ:y68=true:=by kernel_rfl
theorem qlM:qc Tryz.prog 68 [] (.val (.bool true)):=jr follows qjF Tryz.func68 (L:=(kL flT 68).getD []) rfl 100000 qnQ
end
end Go.Sx
end
section
namespace Go.Sx
open Go.Proofs
open Go.RowKit Go.Tn
noncomputable section
def y69:Bool:=gP (wK (vN Tryz.prog X1) 100000 Tryz.f69 ((kL flT 69).getD []) [] wu)
theorem qnR:y69=true:=by kernel_rfl
theorem qlN:qc Tryz.prog 69 [] (.val (.bool true)):=jr follows qjF Tryz.func69 (L:=(kL flT 69).getD []) rfl 100000 qnR
end
end Go.Sx
end
section
namespace Go.Tn
open Go.Proofs
open Go.Sx
theorem c12:qc Tryz.prog 12 [] (B true):=by
 refine qh Tryz.func12 rfl Ωa follows Ωa _ _ (by rw[Tryz.ntmps12];simp) (by simp[OldL]) ?_;have h1:=qlL;have h2:=qlM;have h3:=qlN;unfold B;(simp -dsimp only[↓RP,RQ,seval,TY,Tryz.results12]);refine qq h1 ΩZ (by simp[Fresh]) ?_;(simp -dsimp only[↓RP,RQ,seval,TY,Tryz.results12]);refine qq h2 ΩZ (by simp[Fresh]) ?_;(simp -dsimp only[↓RP,RQ,seval,TY,Tryz.results12]);refine qq h3 ΩZ (by simp[Fresh]) ?_;(simp -dsimp only[↓RP,RQ,seval,TY,Tryz.results12])
end Go.Tn
end
section
namespace Go.Sx
open Go.Proofs
open Go.RowKit Go.Tn
noncomputable section
def qoY:List SV→Tr 6 XB→Nat→(SV→Tr 6 XB→Nat→R)→R:=qlp (vN Tryz.prog X0) 100000 Tryz.f104 [(11,[(2,2)]),(12,[(2,2)])] qje (sqN 7 (gN Tryz.f104)) (sqB 8 (gN Tryz.f104))
theorem qlO:yc Tryz.prog 104 qoY:=by
 obtain⟨c,hc⟩:=fnX (P:=Tryz.prog) (L:=[(11,[(2,2)]),(12,[(2,2)])]) Tryz.func104 (ZX vd (j:=104) rfl (by rw[xb0];exact Tryz.func104));have e:c=QH qnn (sqB 8 (gN Tryz.f104)) (sqN 7 (gN Tryz.f104)):=by
  have h:=hc.body;have h2:Tryz.f104.body=some (QH qnn (sqB 8 (gN Tryz.f104)) (sqN 7 (gN Tryz.f104))):=by kernel_rfl
  rw[h2]at h;exact(Option.some.inj h).symm
 subst e;exact qdN follows (KN _ _ X0_ok) (Zt _ _ X0_ok.fl) hc qls 100000
def X2:XP:=⟨flT,plT,(104,qoY) :: olT,[qag],[lsN,l1N]⟩
theorem qoZ:Y5 Tryz.prog X2:=⟨vd,X0_ok.pl,⟨qlO,X0_ok.ol⟩,X0_ok.cl,X0_ok.nl⟩
def y96:Bool:=gP (wK (vN Tryz.prog X2) 100000 Tryz.f96 ((kL flT 96).getD []) [] wu)
theorem qnS:y96=true:=by kernel_rfl
theorem qlP:qc Tryz.prog 96 [] (.val (.bool true)):=jr follows qoZ Tryz.func96 (L:=(kL flT 96).getD []) rfl 100000 qnS
end
end Go.Sx
end
section
namespace Go.Tn
open Go.Proofs
open Go.Sx
theorem c31:qc Tryz.prog 31 [] (B true):=by
 refine qh Tryz.func31 rfl Ωa follows Ωa _ _ (by rw[Tryz.ntmps31];simp) (by simp[OldL]) ?_;have h1:=c12;have h2:=qlP;unfold B at *;(simp -dsimp only[↓RP,RQ,seval,TY,Tryz.results31]);refine qq h1 ΩZ (by simp[Fresh]) ?_;(simp -dsimp only[↓RP,RQ,seval,TY,Tryz.results31]);refine qq h2 ΩZ (by simp[Fresh]) ?_;(simp -dsimp only[↓RP,RQ,seval,TY,Tryz.results31])
end Go.Tn
end
section
namespace Go.Tn
open Go.Proofs
open Go.Sx Go.RowKit
noncomputable def M232:Code:=sqL (sqB 4 (gN Tryz.f232))
def vl:List Nat:=[11,12,74,75,76,77,78,79,80,81,82,83,84,85,86,87,88,89,90,91]
def qej(s:SV):Bool:=match s with
 |.agg [.val (.bool _),.val (.int .i64 _),.val (.bool _),.val (.int .i64 _)]=>true
 |_=>false
def qjG(es:List (Value×Option SV)):Bool:=es.all λe=>match e.2 with
 |some s=>qej s
 |none=>true
noncomputable def mh232:MX:=λfr hp nid f=>match qx fr 3 with
 |.ptr b 0=>(match hp.find b with
  |some (.cells 184 [.ptr d 0])=>(match hp.find d with
   |some (.cells 338 [a0,a1,a2,.mp mid])=>(match hp.find mid with
    |some (.map true [.i .i64,.i .i64] es)=>ql 614 (qjG es) (qdO vl fr λfr=>qY (some (.tup [.val (.bool false)])) 22 fr 79 λfr=>qY (some (.val (.bool false))) 22 fr 80 λfr=>qY (some (.map true [.i .i64,.i .i64] (Y6 vb es))) 22 hp mid λhp=>qm (nid+(20*es.length+100)) λnid=>f .normal fr hp nid)
    |_=>.bad 610 0)
   |_=>.bad 611 0)
  |_=>.bad 612 0)
 |_=>.bad 613 0
theorem qaq{k:Value}{s:SV}:∀{es:List (Value×Option SV)},qjG es=true→kw es k=some s→qej s=true
 |[],_,h=>by cases h
 |(q,o) :: es,h,h2=>by
  rw[zK]at h2;unfold qjG at h;rw[List.all_cons,xe6]at h;split at h2
  ·subst h2;exact h.1
  ·exact qaq h.2 h2
theorem qjH{s:SV}(h:qej s=true):∃a b c d,s=.agg [.val (.bool a),.val (.int .i64 b),.val (.bool c),.val (.int .i64 d)]:=by
 unfold qej at h;split at h
 ·exact⟨_,_,_,_,rfl⟩
 ·cases h
theorem qlQ{k:Value}(h:qk true [.i .i64,.i .i64] k=true):∃x y,k=.agg #[.int .i64 x,.int .i64 y]:=by
 cases k<;>simp only[qk,xe7]at h
 rename_i a;obtain⟨l⟩:=a;have h:qQ [.i .i64,.i .i64] l=true:=h;rcases l with _|⟨x,_|⟨y,_|⟨z,l⟩⟩⟩<;>simp only[qQ,xe6,xe7,and_false]at h
 obtain⟨h1,h2,_⟩:=h;cases x<;>simp only[lfOk,xe7,decide_eq_true_eq]at h1
 cases y<;>simp only[lfOk,xe7,decide_eq_true_eq]at h2
 rename_i k r k2 r2;subst h1;subst h2;exact⟨r,r2,rfl⟩
theorem qlR:qdM Tryz.prog [] M232 mh232:=by
 intro ρ LM fs lo st fr hp nid f K hs h hk;obtain⟨F,H,n⟩:=st;obtain⟨hF,hH,hn⟩:=hs
 replace hF:FRel fr F:=hF
 replace hH:HRel LM hp H:=hH
 replace hn:n=nid:=hn
 unfold mh232 at h;split at h
 rotate_left
 ·cases h
 rename_i b e3;split at h
 rotate_left
 ·cases h
 rename_i d hb;split at h
 rotate_left
 ·cases h
 rename_i a0 a1 a2 mid hd;split at h
 rotate_left
 ·cases h
 rename_i es hm;obtain⟨hes,h⟩:=qa h;obtain⟨fr0,hfr0,h⟩:=G7 h;obtain⟨fr1,hfr1,h⟩:=qB _ _ _ _ h;obtain⟨fr',hfr',h⟩:=qB _ _ _ _ h;obtain⟨hp1,p1,h⟩:=qB _ _ _ _ h;rw[qg]at h;have f3:Go.Sx.look F 3=.ptr b 0:=(hF 3).trans e3;have b1:blk H b=some (.cells 184 [.ptr d 0]):=hH.cells hb;have b2:=hH.cells hd;obtain⟨dom,get,b3,hdg⟩:=hH.map hm;have NB:True:=trivial
 conv=>arg 3;whnf
 repeat' first|refine sD ?_ ?_<;>intro _|refine aAc ?_|simp -dsimp only[↓RP,RQ,seval,↓RY,TYc,f3,b1,b2,b3,NB,QR,QT,QN]|exact Ωb|fail
 obtain⟨iid,hiid⟩:∃iid,iid=n+4:=⟨_,rfl⟩;rw[←hiid];refine qdS (mid:=mid) (fit:=qk true [.i .i64,.i .i64]) (dom:=dom) (get:=get) Ωq Ωq qmt b3 λhU stamp clk hst hinj=>?_;have u1:=hU b _ b1;have u2:=hU d _ b2;have u3:=hU mid _ b3;have n1:b≠mid:=λe=>by rw[e,b3]at b1;cases b1
 have n2:d≠mid:=λe=>by rw[e,b3]at b2;cases b2
 have NB:=(⟨nmA u1,nmA u2,nmA u3,nmE n1,nmE n2⟩:_∧_∧_∧_∧_);repeat' first|refine sD ?_ ?_<;>intro _|refine aAc ?_|simp -dsimp only[↓RP,RQ,seval,↓RY,TYc,f3,b1,b2,b3,NB,QR,QT,QN]|exact Ωb|fail
 refine qo (λ(z:List Value)=>z.Nodup∧(∀v,v∈z→dom v=true∧eqK v v=true)) (λz=>⟨(78,.ptr iid 0) :: Jx vl F,(iid,.iter mid clk (z.map stamp) clk) ::(mid,.mapS (qk true [.i .i64,.i .i64]) (dAt dom get (vb) z) get stamp clk) :: dropBlk H mid,iid+6+20*z.length⟩) (λz=>es.length - z.length) [] ⟨List.nodup_nil,λv hv=>Ωt⟩ (yn (xa5 _) (λt=>by
  by_cases e:t=78
  ·subst e;right;simp[Go.Sx.look]
  ·by_cases c:t∈vl
   ·left;simp[Go.Sx.look,qO,e,c]
   ·right
    rw[vl]at c;simp only[List.mem_cons,List.not_mem_nil,or_false,not_or]at c;simp[Go.Sx.look,qO,vl,c]) ?hA) λks hz=>?_
 case hA=>
  rw[Wo];(repeat' (refine SubHp.ent (by simp only[blk,qp,b3,NB,List.map_nil,xg1,if_false,if_true]) ?_));intro q v hv;rw[qv]at hv;by_cases c:q=mid
  ·rw[if_pos c]at hv;cases hv
  ·rw[if_neg c]at hv
   have hq:=hU q v hv;simp only[blk,qp];rw[if_neg Ω,if_neg c];exact hv
 obtain⟨z1,z2⟩:=hz;have hD:∀q v,blk (dropBlk H mid) q=some v→q<iid∧q≠mid:=λq v hv=>by
  rw[qv]at hv;by_cases c:q=mid
  ·rw[if_pos c]at hv;cases hv
  ·rw[if_neg c]at hv;exact⟨hU q v hv,c⟩
 have hc1:blk (dropBlk H mid) b=some (.cells 184 [.ptr d 0]):=by rw[qv,if_neg n1];exact b1
 have hc2:blk (dropBlk H mid) d=some (.cells 338 [a0,a1,a2,.mp mid]):=by rw[qv,if_neg n2];exact b2
 have g1:Go.Sx.look (Jx vl F) 3=.ptr b 0:=by rw[qO,if_neg Ωd];exact f3
 have hkl:=Ws (es:=es) z1 (λv hv=>by rw[←(hdg v).1];exact(z2 v hv).1);have NB1:=NB;clear NB;obtain⟨nn,hnn⟩:∃nn,nn=iid+6+20*ks.length:=⟨_,rfl⟩;rw[←hnn];have z3:iid<nn:=by omega
 have NB:=(⟨nmA (Ω:b<nn),nmA (Ω:d<nn),nmA (Ω:mid<nn),nmA z3,NB1⟩:_∧_∧_∧_∧_);repeat' first|refine sD ?_ ?_<;>intro _|refine aAc ?_|simp -dsimp only[↓RP,RQ,seval,hc1,hc2,g1,↓RY,TYc,f3,b1,b2,b3,NB,QR,QT,QN]|exact Ωb|fail
 refine qbZ (iid:=iid) (mid:=mid) (clk:=clk) (seen:=ks.map stamp) (fit:=qk true [.i .i64,.i .i64]) (dom:=dAt dom get (vb) ks) (get:=get) (stamp:=stamp) Ωq Ωq Ωs Ωs (λk hk1 hk2 hk3=>?_) (λhall=>?_)
 ·obtain⟨r,bb,rfl⟩:=qlQ hk1
  have hkd:=Wq hk2;have hkn:(.agg #[.int .i64 r,.int .i64 bb]:Value)∉ks:=λhm=>hk3 (List.mem_map.2 ⟨_,hm,rfl⟩);have w1:=g8 z1 hkn;have w2:∀v,v∈ks++[(.agg #[.int .i64 r,.int .i64 bb]:Value)]→dom v=true∧eqK v v=true:=λv hv=>by
   rcases List.mem_append.1 hv with h|h
   ·exact z2 v h
   ·rw[List.mem_singleton.1 h];exact⟨hkd,by simp[eqK,jU,wH]⟩
  have w3:es.length -(ks++[(.agg #[.int .i64 r,.int .i64 bb]:Value)]).length<es.length - ks.length:=by
   have:=Ws (es:=es) w1 (λv hv=>by rw[←(hdg v).1];exact(w2 v hv).1);rw[xc8,xd1]at this ⊢;omega
  repeat' first|refine sD ?_ ?_<;>intro _|refine aAc ?_|simp -dsimp only[↓RP,RQ,seval,hc1,hc2,g1,↓RY,TYc,f3,b1,b2,b3,NB,QR,QT,QN]|exact Ωb|fail
  refine QZ (s:=.agg [.val (.int .i64 r),.val (.int .i64 bb)]) (iid:=iid) (mid:=mid) (clk:=clk) (seen:=ks.map stamp) (fit:=qk true [.i .i64,.i .i64]) (dom:=dAt dom get (vb) ks) (get:=get) (stamp:=stamp) (k:=.agg #[.int .i64 r,.int .i64 bb]) Ωq Ωq Ωs Ωs hk2 (vB [.int .i64 r,.int .i64 bb]) ?_;obtain⟨s0,hs0⟩:∃s0,kw es (.agg #[.int .i64 r,.int .i64 bb])=some s0:=Option.isSome_iff_exists.1 (by rw[←(hdg _).1];exact hkd);obtain⟨ga,gb,gc,gd,hg0⟩:=qjH (qaq hes hs0);have hgk:get (.agg #[.int .i64 r,.int .i64 bb])=.agg [.val (.bool ga),.val (.int .i64 gb),.val (.bool gc),.val (.int .i64 gd)]:=((hdg _).2 s0 hs0).trans hg0;by_cases hbl:¬gd=1099511627776
  ·have dbl:=decide_eq_false hbl
   have hkp:vb (.agg #[.int .i64 r,.int .i64 bb]) (get (.agg #[.int .i64 r,.int .i64 bb]))=true:=by rw[hgk];exact decide_eq_true hbl
   repeat' first|refine sD ?_ ?_<;>intro _|refine aAc ?_|simp -dsimp only[↓RP,RQ,seval,hc1,hc2,g1,hgk,dbl,↓RY,TYc,f3,b1,b2,b3,NB,QR,QT,QN]|exact Ωb|fail
   refine⟨ks++[.agg #[.int .i64 r,.int .i64 bb]],⟨w1,w2⟩,w3,yn ?hn1 (λt=>by
    by_cases e:t=78
    ·subst e;right;simp[Go.Sx.look]
    ·by_cases c:t∈vl
     ·left;simp[Go.Sx.look,qO,e,c]
     ·right
      rw[vl]at c;simp only[List.mem_cons,List.not_mem_nil,or_false,not_or]at c;simp[Go.Sx.look,qO,vl,c]) ?hh1⟩
   case hn1=>rw[xc8,xd1];omega
   case hh1=>
    rw[List.map_append,List.map_cons,List.map_nil,Wp hkp]
    ((repeat' (refine SubHp.ent Ωu ?_)))
    intro q v hv;have hq:=hD q v hv;simp only[blk]
    (repeat rw[if_neg Ω]);exact hv
  ·have hbl:=Classical.not_not.1 hbl
   have dbl:=decide_eq_true hbl;have hkp:vb (.agg #[.int .i64 r,.int .i64 bb]) (get (.agg #[.int .i64 r,.int .i64 bb]))=false:=by rw[hgk];exact decide_eq_false (λe=>e hbl)
   repeat' first|refine sD ?_ ?_<;>intro _|refine aAc ?_|simp -dsimp only[↓RP,RQ,seval,hc1,hc2,g1,hgk,dbl,↓RY,TYc,f3,b1,b2,b3,NB,QR,QT,QN]|exact Ωb|fail
   refine⟨ks++[.agg #[.int .i64 r,.int .i64 bb]],⟨w1,w2⟩,w3,yn ?hn0 (λt=>by
    by_cases e:t=78
    ·subst e;right;simp[Go.Sx.look]
    ·by_cases c:t∈vl
     ·left;simp[Go.Sx.look,qO,e,c]
     ·right
      rw[vl]at c;simp only[List.mem_cons,List.not_mem_nil,or_false,not_or]at c;simp[Go.Sx.look,qO,vl,c]) ?hh0⟩
   case hn0=>rw[xc8,xd1];omega
   case hh0=>
    rw[List.map_append,List.map_cons,List.map_nil,qca hkp]
    ((repeat' (refine SubHp.ent Ωu ?_)))
    intro q v hv;have hq:=hD q v hv;simp only[blk]
    (repeat rw[if_neg Ω]);exact hv
 ·have hend:=Wr (p:=vb) z2 hinj hall
  have hR:HRel LM hp1 ((mid,.map (qk true [.i .i64,.i .i64]) (λv=>dom v&&vb v (get v)) get) :: dropBlk H mid):=by
   intro q x hx;rw[p1 q]at hx;by_cases c:q=mid
   ·rw[if_pos c]at hx
    cases hx;refine⟨.map (qk true [.i .i64,.i .i64]) (λv=>dom v&&vb v (get v)) get,by simp only[blk];rw[if_pos c],rfl,λk=>?_⟩;have h1:=hdg k;rw[wv];cases e:kw es k with
    |none=>rw[e]at h1;exact⟨by show(dom k&&vb k (get k))=_;rw[h1.1];rfl,λs hs=>(by cases hs)⟩
    |some s=>
     rw[e]at h1;have h2:=h1.2 s rfl;show(dom k&&vb k (get k))=_∧_;rw[h1.1,h2];dsimp only[Option.bind_some,Option.isSome_some];cases vb k s with
     |true=>exact⟨rfl,λs' hs=>(by cases hs;rfl)⟩
     |false=>exact⟨rfl,λs' hs=>(by cases hs)⟩
   ·rw[if_neg c]at hx
    obtain⟨b',h1,h2⟩:=hH q x hx;exact⟨b',by simp only[blk];rw[if_neg c,qv,if_neg c];exact h1,h2⟩
  refine⟨⟨Jx vl F,(mid,.map (qk true [.i .i64,.i .i64]) (λv=>dom v&&vb v (get v)) get) :: dropBlk H mid,n+(20*es.length+98)⟩,Weak.trans (V7 (mid:=mid) (fit:=qk true [.i .i64,.i .i64]) (dom:=dAt dom get (vb) ks) (dom':=λv=>dom v&&vb v (get v)) (get:=get) (st:=stamp) (c:=clk) Ωs hend) (yn Ω (λt=>?_) ?_),Ωg,?_⟩
  ·by_cases c:t∈vl
   ·left;rw[qO,if_pos c]
   ·right
    have e:t≠78:=λe=>c (by rw[e];decide);simp[Go.Sx.look,e]
  ·simp only[setBlk,NB,if_false,if_true]
   (repeat' (refine SubHp.ent (by simp only[blk,NB,if_false,if_true]) ?_));intro q v hv;have hq:=hD q v hv;simp only[blk];rw[if_neg Ω,if_neg hq.2];exact hv
  repeat' first|refine sD ?_ ?_<;>intro _|refine aAc ?_|simp -dsimp only[↓RP,RQ,seval,↓RY,TYc,f3,b1,b2,b3,NB,QR,QT,QN]|exact Ωb|fail
  refine hk .normal fr' hp1 (nid+(20*es.length+100)) _ ⟨λt=>?_,hR,by dsimp only;rw[hn]⟩ h;dsimp only;rw[show qx fr' t=if t=80 then .val (.bool false)else qx fr1 t by
   unfold qx;rw[hfr' t];by_cases c:t=80
   ·rw[if_pos c,if_pos c]
   ·rw[if_neg c,if_neg c],show qx fr1 t=if t=79 then .tup [.val (.bool false)]else qx fr0 t by
   unfold qx;rw[hfr1 t];by_cases c:t=79
   ·rw[if_pos c,if_pos c]
   ·rw[if_neg c,if_neg c],hfr0,←hF t]
  simp only[Go.Sx.look,qO]
end Go.Tn
end
section
namespace Go.Sx
noncomputable section
def qpa(l:List (List Int)):Nat→List Int:=List.rec (λ_=>[]) (λa _ ih i=>Nat.rec a (λj _=>ih j) i) l
def qjI(w m:Int)(l:List (List Int)):SV:=.agg [wI w,wI m,.arr false false 3 4 (λi j=>wI (qnD (qpa l i) j))]
def qjJ:SV:=qjI 3 100 [[0,1,10,12],[1,2,20,22],[0,2,40,41]]
def qlS:SV:=qjI 2 9 [[0,0,5,5],[0,0,7,7],[0,0,7,7]]
def c224J:Nat×List SV×SV:=(224,[qjJ],.tup [wI 3,wI 0])
def c225J:Nat×List SV×SV:=(225,[qjJ,wI 1],.tup [wI 1,wI 0])
def c223K:Nat×List SV×SV:=(223,[qlS],.tup [liN true 1 [0],wI 0])
end
end Go.Sx
end
section
namespace Go.Sx
open Go.Proofs
open Go.RowKit Go.Tn
noncomputable section
def qnT:List SV→Tr 6 XB→Nat→(SV→Tr 6 XB→Nat→R)→R:=qlp (vN Tryz.prog X0) 100000 Tryz.f232 [] mh232 (sqN 4 (gN Tryz.f232)) (sqB 5 (gN Tryz.f232))
theorem qek:yc Tryz.prog 232 qnT:=by
 obtain⟨c,hc⟩:=fnX (P:=Tryz.prog) (L:=[]) Tryz.func232 (ZX vd (j:=232) rfl (by rw[xb0];exact Tryz.func232));have e:c=QH M232 (sqB 5 (gN Tryz.f232)) (sqN 4 (gN Tryz.f232)):=by
  have h:=hc.body;have h2:Tryz.f232.body=some (QH M232 (sqB 5 (gN Tryz.f232)) (sqN 4 (gN Tryz.f232))):=by kernel_rfl
  rw[h2]at h;exact(Option.some.inj h).symm
 subst e;exact qdN follows (KN _ _ X0_ok) (Zt _ _ X0_ok.fl) hc qlR 100000
def X3:XP:=⟨flT,plT,(232,qnT) :: olT,[qag],[lsN,l1N]⟩
theorem qjK:Y5 Tryz.prog X3:=⟨vd,X0_ok.pl,⟨qek,X0_ok.ol⟩,X0_ok.cl,X0_ok.nl⟩
end
end Go.Sx
end
