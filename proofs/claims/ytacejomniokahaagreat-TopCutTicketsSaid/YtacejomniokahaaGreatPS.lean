/- A part of the proof. -/
import Derived.Test.YtacejomniokahaaGreatPR
import Derived.Test.YtacejomniokahaaGreatPI
import Derived.Test.YtacejomniokahaaGreatPL
import Derived.Test.YtacejomniokahaaGreatPG
open Nat renaming reduceAdd→xa1,reduceEqDiff→xa2,le_refl→xa5,zero_add→xb0,add_zero→xb1,add_assoc→xb2
open List renaming length_append→xc8,length_singleton→xd1
open Bool renaming and_eq_true→xe6,false_eq_true→xe7
open Option renaming map_some→xg1
set_option linter.unusedVariables false
set_option linter.unusedSimpArgs false
set_option linter.defProp false
set_option maxRecDepth 1000000
set_option maxHeartbeats 16000000
section
namespace Go.Sx
open Go.Proofs
open Go.RowKit Go.Tn
noncomputable section
def y67:Bool:=zX (jt (gS Tryz.prog X1) 100000 Tryz.f67 ((zp flT 67).getD []) [] wz)
theorem qpq:y67=true:=by kernel_rfl
theorem qnb:qf Tryz.prog 67 [] (.val (.bool true)):=ju follows qkI Tryz.func67 (L:=(zp flT 67).getD []) rfl 100000 qpq
end
end Go.Sx
end
section
namespace Go.Sx
open Go.Proofs
open Go.RowKit Go.Tn
noncomputable section
def y68:Bool:=zX (jt (gS Tryz.prog X1) 100000 Tryz.f68 ((zp flT 68).getD []) [] wz)
theorem qpr:y68=true:=by kernel_rfl
theorem qnc:qf Tryz.prog 68 [] (.val (.bool true)):=ju follows qkI Tryz.func68 (L:=(zp flT 68).getD []) rfl 100000 qpr
end
end Go.Sx
end
section
namespace Go.Sx
open Go.Proofs
open Go.RowKit Go.Tn
noncomputable section
def y69:Bool:=zX (jt (gS Tryz.prog X1) 100000 Tryz.f69 ((zp flT 69).getD []) [] wz)
theorem qps:y69=true:=by kernel_rfl
theorem qnd:qf Tryz.prog 69 [] (.val (.bool true)):=ju follows qkI Tryz.func69 (L:=(zp flT 69).getD []) rfl 100000 qps
end
end Go.Sx
end
section
namespace Go.Tn
open Go.Proofs
open Go.Sx
theorem c12:qf Tryz.prog 12 [] (B true):=by
 refine qg Tryz.func12 rfl Ωc follows Ωc _ _ (by rw[Tryz.ntmps12];simp) (by simp[OldL]) ?_;have h1:=qnb;have h2:=qnc;have h3:=qnd;unfold B;(simp -dsimp only[↓RP,RQ,seval,TY,Tryz.results12]);refine qk h1 ΩF Ωah ?_;(simp -dsimp only[↓RP,RQ,seval,TY,Tryz.results12]);refine qk h2 ΩF Ωah ?_;(simp -dsimp only[↓RP,RQ,seval,TY,Tryz.results12]);refine qk h3 ΩF Ωah ?_;(simp -dsimp only[↓RP,RQ,seval,TY,Tryz.results12])
end Go.Tn
end
section
namespace Go.Sx
open Go.Proofs
open Go.RowKit Go.Tn
noncomputable section
def qqN:List SV→Tr 6 XB→Nat→(SV→Tr 6 XB→Nat→R)→R:=qmS (gS Tryz.prog X0) 100000 Tryz.f104 [(11,[(2,2)]),(12,[(2,2)])] qky (sqN 7 (gQ Tryz.f104)) (sqB 8 (gQ Tryz.f104))
theorem qne:yc Tryz.prog 104 qqN:=by
 obtain⟨c,hc⟩:=fnX (P:=Tryz.prog) (L:=[(11,[(2,2)]),(12,[(2,2)])]) Tryz.func104 (Z8 vh (j:=104) rfl (by rw[xb0];exact Tryz.func104));have e:c=QP qpc (sqB 8 (gQ Tryz.f104)) (sqN 7 (gQ Tryz.f104)):=by
  have h:=hc.body;have h2:Tryz.f104.body=some (QP qpc (sqB 8 (gQ Tryz.f104)) (sqN 7 (gQ Tryz.f104))):=by kernel_rfl
  rw[h2]at h;exact(Option.some.inj h).symm
 subst e;exact qeS follows (KR _ _ X0_ok) (Zw _ _ X0_ok.fl) hc qmU 100000
def X2:XP:=⟨flT,plT,(104,qqN) :: olT,[qaO],[lsN,l1N]⟩
theorem qqO:qax Tryz.prog X2:=⟨vh,X0_ok.pl,⟨qne,X0_ok.ol⟩,X0_ok.cl,X0_ok.nl⟩
def y96:Bool:=zX (jt (gS Tryz.prog X2) 100000 Tryz.f96 ((zp flT 96).getD []) [] wz)
theorem qpt:y96=true:=by kernel_rfl
theorem qnf:qf Tryz.prog 96 [] (.val (.bool true)):=ju follows qqO Tryz.func96 (L:=(zp flT 96).getD []) rfl 100000 qpt
end
end Go.Sx
end
section
namespace Go.Tn
open Go.Proofs
open Go.Sx
theorem c31:qf Tryz.prog 31 [] (B true):=by
 refine qg Tryz.func31 rfl Ωc follows Ωc _ _ (by rw[Tryz.ntmps31];simp) (by simp[OldL]) ?_;have h1:=c12;have h2:=qnf;unfold B at *;(simp -dsimp only[↓RP,RQ,seval,TY,Tryz.results31]);refine qk h1 ΩF Ωah ?_;(simp -dsimp only[↓RP,RQ,seval,TY,Tryz.results31]);refine qk h2 ΩF Ωah ?_;(simp -dsimp only[↓RP,RQ,seval,TY,Tryz.results31])
end Go.Tn
end
section
namespace Go.Tn
open Go.Proofs
open Go.Sx Go.RowKit
noncomputable def M232:Code:=sqL (sqB 4 (gQ Tryz.f232))
def vr:List Nat:=[11,12,74,75,76,77,78,79,80,81,82,83,84,85,86,87,88,89,90,91]
def qfc(s:SV):Bool:=match s with
 |.agg [.val (.bool _),.val (.int .i64 _),.val (.bool _),.val (.int .i64 _)]=>true
 |_=>false
def qkJ(es:List (Value×Option SV)):Bool:=es.all λe=>match e.2 with
 |some s=>qfc s
 |none=>true
noncomputable def mh232:MX:=λfr hp nid f=>match qw fr 3 with
 |.ptr b 0=>(match hp.find b with
  |some (.cells 184 [.ptr d 0])=>(match hp.find d with
   |some (.cells 338 [a0,a1,a2,.mp mid])=>(match hp.find mid with
    |some (.map true [.i .i64,.i .i64] es)=>ql 614 (qkJ es) (qeT vr fr λfr=>za (some (.tup [.val (.bool false)])) 22 fr 79 λfr=>za (some (.val (.bool false))) 22 fr 80 λfr=>za (some (.map true [.i .i64,.i .i64] (qaT vj es))) 22 hp mid λhp=>qm (nid+(20*es.length+100)) λnid=>f .normal fr hp nid)
    |_=>.bad 610 0)
   |_=>.bad 611 0)
  |_=>.bad 612 0)
 |_=>.bad 613 0
theorem qaY{k:Value}{s:SV}:∀{es:List (Value×Option SV)},qkJ es=true→kD es k=some s→qfc s=true
 |[],_,h=>by cases h
 |(q,o) :: es,h,h2=>by
  rw[zO]at h2;unfold qkJ at h;rw[List.all_cons,xe6]at h;split at h2
  ·subst h2;exact h.1
  ·exact qaY h.2 h2
theorem qkK{s:SV}(h:qfc s=true):∃a b c d,s=.agg [.val (.bool a),.val (.int .i64 b),.val (.bool c),.val (.int .i64 d)]:=by
 unfold qfc at h;split at h
 ·exact⟨_,_,_,_,rfl⟩
 ·cases h
theorem qng{k:Value}(h:qi true [.i .i64,.i .i64] k=true):∃x y,k=.agg #[.int .i64 x,.int .i64 y]:=by
 cases k<;>simp only[qi,xe7]at h
 rename_i a;obtain⟨l⟩:=a;have h:qU [.i .i64,.i .i64] l=true:=h;rcases l with _|⟨x,_|⟨y,_|⟨z,l⟩⟩⟩<;>simp only[qU,xe6,xe7,and_false]at h
 obtain⟨h1,h2,_⟩:=h;cases x<;>simp only[lfOk,xe7,decide_eq_true_eq]at h1
 cases y<;>simp only[lfOk,xe7,decide_eq_true_eq]at h2
 rename_i k r k2 r2;subst h1;subst h2;exact⟨r,r2,rfl⟩
theorem qnh:qeR Tryz.prog [] M232 mh232:=by
 intro ρ LM fs lo st fr hp nid f K hs h hk;obtain⟨F,H,n⟩:=st;obtain⟨hF,hH,hn⟩:=hs
 replace hF:FRel fr F:=hF
 replace hH:HRel LM hp H:=hH
 replace hn:n=nid:=hn
 unfold mh232 at h;split at h
 rotate_left
 ·cases h
 rename_i b e3;split at h
 rotate_left
 ·cases h
 rename_i d hb;split at h
 rotate_left
 ·cases h
 rename_i a0 a1 a2 mid hd;split at h
 rotate_left
 ·cases h
 rename_i es hm;obtain⟨hes,h⟩:=qe h;obtain⟨fr0,hfr0,h⟩:=Jx h;obtain⟨fr1,hfr1,h⟩:=qB _ _ _ _ h;obtain⟨fr',hfr',h⟩:=qB _ _ _ _ h;obtain⟨hp1,p1,h⟩:=qB _ _ _ _ h;rw[qj]at h;have f3:Go.Sx.look F 3=.ptr b 0:=(hF 3).trans e3;have b1:blk H b=some (.cells 184 [.ptr d 0]):=hH.cells hb;have b2:=hH.cells hd;obtain⟨dom,get,b3,hdg⟩:=hH.map hm;have NB:True:=trivial
 conv=>arg 3;whnf
 repeat' first|refine sD ?_ ?_<;>intro _|refine aAh ?_|simp -dsimp only[↓RP,RQ,seval,↓RY,TYc,f3,b1,b2,b3,NB,QR,QT,QN]
 all_goals try exact Ωa
 obtain⟨iid,hiid⟩:∃iid,iid=n+4:=⟨_,rfl⟩;rw[←hiid];refine qeU (mid:=mid) (fit:=qi true [.i .i64,.i .i64]) (dom:=dom) (get:=get) Ωs Ωs qnS b3 λhU stamp clk hst hinj=>?_;have u1:=hU b _ b1;have u2:=hU d _ b2;have u3:=hU mid _ b3;have n1:b≠mid:=λe=>by rw[e,b3]at b1;cases b1
 have n2:d≠mid:=λe=>by rw[e,b3]at b2;cases b2
 have NB:=(⟨nmA u1,nmA u2,nmA u3,nmE n1,nmE n2⟩:_∧_∧_∧_∧_);repeat' first|refine sD ?_ ?_<;>intro _|refine aAh ?_|simp -dsimp only[↓RP,RQ,seval,↓RY,TYc,f3,b1,b2,b3,NB,QR,QT,QN]
 all_goals try exact Ωa
 refine qo (λ(z:List Value)=>z.Nodup∧(∀v,v∈z→dom v=true∧eqK v v=true)) (λz=>⟨(78,.ptr iid 0) :: JW vr F,(iid,.iter mid clk (z.map stamp) clk) ::(mid,.mapS (qi true [.i .i64,.i .i64]) (dAt dom get (vj) z) get stamp clk) :: dropBlk H mid,iid+6+20*z.length⟩) (λz=>es.length - z.length) [] ⟨List.nodup_nil,λv hv=>Ωt⟩ (yr (xa5 _) (λt=>by
  by_cases e:t=78
  ·subst e;right;simp[Go.Sx.look]
  ·by_cases c:t∈vr
   ·left;simp[Go.Sx.look,qM,e,c]
   ·right
    rw[vr]at c;simp only[List.mem_cons,List.not_mem_nil,or_false,not_or]at c;simp[Go.Sx.look,qM,vr,c]) ?hA) λks hz=>?_
 case hA=>
  rw[WZ];(repeat' (refine SubHp.ent (by simp only[blk,qp,b3,NB,List.map_nil,xg1,if_false,if_true]) ?_));intro q v hv;rw[qu]at hv;by_cases c:q=mid
  ·rw[if_pos c]at hv;cases hv
  ·rw[if_neg c]at hv
   have hq:=hU q v hv;simp only[blk,qp];rw[if_neg Ω,if_neg c];exact hv
 obtain⟨z1,z2⟩:=hz;have hD:∀q v,blk (dropBlk H mid) q=some v→q<iid∧q≠mid:=λq v hv=>by
  rw[qu]at hv;by_cases c:q=mid
  ·rw[if_pos c]at hv;cases hv
  ·rw[if_neg c]at hv;exact⟨hU q v hv,c⟩
 have hc1:blk (dropBlk H mid) b=some (.cells 184 [.ptr d 0]):=by rw[qu,if_neg n1];exact b1
 have hc2:blk (dropBlk H mid) d=some (.cells 338 [a0,a1,a2,.mp mid]):=by rw[qu,if_neg n2];exact b2
 have g1:Go.Sx.look (JW vr F) 3=.ptr b 0:=by rw[qM,if_neg Ωr];exact f3
 have hkl:=W4 (es:=es) z1 (λv hv=>by rw[←(hdg v).1];exact(z2 v hv).1);have NB1:=NB;clear NB;obtain⟨nn,hnn⟩:∃nn,nn=iid+6+20*ks.length:=⟨_,rfl⟩;rw[←hnn];have z3:iid<nn:=by omega
 have NB:=(⟨nmA (Ω:b<nn),nmA (Ω:d<nn),nmA (Ω:mid<nn),nmA z3,NB1⟩:_∧_∧_∧_∧_);repeat' first|refine sD ?_ ?_<;>intro _|refine aAh ?_|simp -dsimp only[↓RP,RQ,seval,hc1,hc2,g1,↓RY,TYc,f3,b1,b2,b3,NB,QR,QT,QN]
 all_goals try exact Ωa
 refine qcN (iid:=iid) (mid:=mid) (clk:=clk) (seen:=ks.map stamp) (fit:=qi true [.i .i64,.i .i64]) (dom:=dAt dom get (vj) ks) (get:=get) (stamp:=stamp) Ωs Ωs Ωw Ωw (λk hk1 hk2 hk3=>?_) (λhall=>?_)
 ·obtain⟨r,bb,rfl⟩:=qng hk1
  have hkd:=W2 hk2;have hkn:(.agg #[.int .i64 r,.int .i64 bb]:Value)∉ks:=λhm=>hk3 (List.mem_map.2 ⟨_,hm,rfl⟩);have w1:=jc z1 hkn;have w2:∀v,v∈ks++[(.agg #[.int .i64 r,.int .i64 bb]:Value)]→dom v=true∧eqK v v=true:=λv hv=>by
   rcases List.mem_append.1 hv with h|h
   ·exact z2 v h
   ·rw[List.mem_singleton.1 h];exact⟨hkd,by simp[eqK,jz,vW]⟩
  have w3:es.length -(ks++[(.agg #[.int .i64 r,.int .i64 bb]:Value)]).length<es.length - ks.length:=by
   have:=W4 (es:=es) w1 (λv hv=>by rw[←(hdg v).1];exact(w2 v hv).1);rw[xc8,xd1]at this ⊢;omega
  repeat' first|refine sD ?_ ?_<;>intro _|refine aAh ?_|simp -dsimp only[↓RP,RQ,seval,hc1,hc2,g1,↓RY,TYc,f3,b1,b2,b3,NB,QR,QT,QN]
  all_goals try exact Ωa
  refine Q5 (s:=.agg [.val (.int .i64 r),.val (.int .i64 bb)]) (iid:=iid) (mid:=mid) (clk:=clk) (seen:=ks.map stamp) (fit:=qi true [.i .i64,.i .i64]) (dom:=dAt dom get (vj) ks) (get:=get) (stamp:=stamp) (k:=.agg #[.int .i64 r,.int .i64 bb]) Ωs Ωs Ωw Ωw hk2 (vG [.int .i64 r,.int .i64 bb]) ?_;obtain⟨s0,hs0⟩:∃s0,kD es (.agg #[.int .i64 r,.int .i64 bb])=some s0:=Option.isSome_iff_exists.1 (by rw[←(hdg _).1];exact hkd);obtain⟨ga,gb,gc,gd,hg0⟩:=qkK (qaY hes hs0);have hgk:get (.agg #[.int .i64 r,.int .i64 bb])=.agg [.val (.bool ga),.val (.int .i64 gb),.val (.bool gc),.val (.int .i64 gd)]:=((hdg _).2 s0 hs0).trans hg0;by_cases hbl:¬gd=1099511627776
  ·have dbl:=decide_eq_false hbl
   have hkp:vj (.agg #[.int .i64 r,.int .i64 bb]) (get (.agg #[.int .i64 r,.int .i64 bb]))=true:=by rw[hgk];exact decide_eq_true hbl
   repeat' first|refine sD ?_ ?_<;>intro _|refine aAh ?_|simp -dsimp only[↓RP,RQ,seval,hc1,hc2,g1,hgk,dbl,↓RY,TYc,f3,b1,b2,b3,NB,QR,QT,QN]
   all_goals try exact Ωa
   refine⟨ks++[.agg #[.int .i64 r,.int .i64 bb]],⟨w1,w2⟩,w3,yr ?hn1 (λt=>by
    by_cases e:t=78
    ·subst e;right;simp[Go.Sx.look]
    ·by_cases c:t∈vr
     ·left;simp[Go.Sx.look,qM,e,c]
     ·right
      rw[vr]at c;simp only[List.mem_cons,List.not_mem_nil,or_false,not_or]at c;simp[Go.Sx.look,qM,vr,c]) ?hh1⟩
   case hn1=>rw[xc8,xd1];omega
   case hh1=>
    rw[List.map_append,List.map_cons,List.map_nil,W0 hkp]
    ((repeat' (refine SubHp.ent Ωn ?_)))
    intro q v hv;have hq:=hD q v hv;simp only[blk]
    (repeat rw[if_neg Ω]);exact hv
  ·have hbl:=Classical.not_not.1 hbl
   have dbl:=decide_eq_true hbl;have hkp:vj (.agg #[.int .i64 r,.int .i64 bb]) (get (.agg #[.int .i64 r,.int .i64 bb]))=false:=by rw[hgk];exact decide_eq_false (λe=>e hbl)
   repeat' first|refine sD ?_ ?_<;>intro _|refine aAh ?_|simp -dsimp only[↓RP,RQ,seval,hc1,hc2,g1,hgk,dbl,↓RY,TYc,f3,b1,b2,b3,NB,QR,QT,QN]
   all_goals try exact Ωa
   refine⟨ks++[.agg #[.int .i64 r,.int .i64 bb]],⟨w1,w2⟩,w3,yr ?hn0 (λt=>by
    by_cases e:t=78
    ·subst e;right;simp[Go.Sx.look]
    ·by_cases c:t∈vr
     ·left;simp[Go.Sx.look,qM,e,c]
     ·right
      rw[vr]at c;simp only[List.mem_cons,List.not_mem_nil,or_false,not_or]at c;simp[Go.Sx.look,qM,vr,c]) ?hh0⟩
   case hn0=>rw[xc8,xd1];omega
   case hh0=>
    rw[List.map_append,List.map_cons,List.map_nil,qcO hkp]
    ((repeat' (refine SubHp.ent Ωn ?_)))
    intro q v hv;have hq:=hD q v hv;simp only[blk]
    (repeat rw[if_neg Ω]);exact hv
 ·have hend:=W3 (p:=vj) z2 hinj hall
  have hR:HRel LM hp1 ((mid,.map (qi true [.i .i64,.i .i64]) (λv=>dom v&&vj v (get v)) get) :: dropBlk H mid):=by
   intro q x hx;rw[p1 q]at hx;by_cases c:q=mid
   ·rw[if_pos c]at hx
    cases hx;refine⟨.map (qi true [.i .i64,.i .i64]) (λv=>dom v&&vj v (get v)) get,by simp only[blk];rw[if_pos c],rfl,λk=>?_⟩;have h1:=hdg k;rw[wA];cases e:kD es k with
    |none=>rw[e]at h1;exact⟨by show(dom k&&vj k (get k))=_;rw[h1.1];rfl,λs hs=>(by cases hs)⟩
    |some s=>
     rw[e]at h1;have h2:=h1.2 s rfl;show(dom k&&vj k (get k))=_∧_;rw[h1.1,h2];dsimp only[Option.bind_some,Option.isSome_some];cases vj k s with
     |true=>exact⟨rfl,λs' hs=>(by cases hs;rfl)⟩
     |false=>exact⟨rfl,λs' hs=>(by cases hs)⟩
   ·rw[if_neg c]at hx
    obtain⟨b',h1,h2⟩:=hH q x hx;exact⟨b',by simp only[blk];rw[if_neg c,qu,if_neg c];exact h1,h2⟩
  refine⟨⟨JW vr F,(mid,.map (qi true [.i .i64,.i .i64]) (λv=>dom v&&vj v (get v)) get) :: dropBlk H mid,n+(20*es.length+98)⟩,Weak.trans (WE (mid:=mid) (fit:=qi true [.i .i64,.i .i64]) (dom:=dAt dom get (vj) ks) (dom':=λv=>dom v&&vj v (get v)) (get:=get) (st:=stamp) (c:=clk) Ωw hend) (yr Ω (λt=>?_) ?_),Ωe,?_⟩
  ·by_cases c:t∈vr
   ·left;rw[qM,if_pos c]
   ·right
    have e:t≠78:=λe=>c (by rw[e];decide);simp[Go.Sx.look,e]
  ·simp only[setBlk,NB,if_false,if_true]
   (repeat' (refine SubHp.ent (by simp only[blk,NB,if_false,if_true]) ?_));intro q v hv;have hq:=hD q v hv;simp only[blk];rw[if_neg Ω,if_neg hq.2];exact hv
  repeat' first|refine sD ?_ ?_<;>intro _|refine aAh ?_|simp -dsimp only[↓RP,RQ,seval,↓RY,TYc,f3,b1,b2,b3,NB,QR,QT,QN]
  all_goals try exact Ωa
  refine hk .normal fr' hp1 (nid+(20*es.length+100)) _ ⟨λt=>?_,hR,by dsimp only;rw[hn]⟩ h;dsimp only;rw[show qw fr' t=if t=80 then .val (.bool false)else qw fr1 t by
   unfold qw;rw[hfr' t];by_cases c:t=80
   ·rw[if_pos c,if_pos c]
   ·rw[if_neg c,if_neg c],show qw fr1 t=if t=79 then .tup [.val (.bool false)]else qw fr0 t by
   unfold qw;rw[hfr1 t];by_cases c:t=79
   ·rw[if_pos c,if_pos c]
   ·rw[if_neg c,if_neg c],hfr0,←hF t]
  simp only[Go.Sx.look,qM]
end Go.Tn
end
section
namespace Go.Sx
noncomputable section
def qqP(l:List (List Int)):Nat→List Int:=List.rec (λ_=>[]) (λa _ ih i=>Nat.rec a (λj _=>ih j) i) l
def qkL(w m:Int)(l:List (List Int)):SV:=.agg [wI w,wI m,.arr false false 3 4 (λi j=>wI (qoW (qqP l i) j))]
def qkM:SV:=qkL 3 100 [[0,1,10,12],[1,2,20,22],[0,2,40,41]]
def qni:SV:=qkL 2 9 [[0,0,5,5],[0,0,7,7],[0,0,7,7]]
def c224J:Nat×List SV×SV:=(224,[qkM],.tup [wI 3,wI 0])
def c225J:Nat×List SV×SV:=(225,[qkM,wI 1],.tup [wI 1,wI 0])
def c223K:Nat×List SV×SV:=(223,[qni],.tup [liN true 1 [0],wI 0])
end
end Go.Sx
end
section
namespace Go.Sx
open Go.Proofs
open Go.RowKit Go.Tn
noncomputable section
def qpu:List SV→Tr 6 XB→Nat→(SV→Tr 6 XB→Nat→R)→R:=qmS (gS Tryz.prog X0) 100000 Tryz.f232 [] mh232 (sqN 4 (gQ Tryz.f232)) (sqB 5 (gQ Tryz.f232))
theorem qfd:yc Tryz.prog 232 qpu:=by
 obtain⟨c,hc⟩:=fnX (P:=Tryz.prog) (L:=[]) Tryz.func232 (Z8 vh (j:=232) rfl (by rw[xb0];exact Tryz.func232));have e:c=QP M232 (sqB 5 (gQ Tryz.f232)) (sqN 4 (gQ Tryz.f232)):=by
  have h:=hc.body;have h2:Tryz.f232.body=some (QP M232 (sqB 5 (gQ Tryz.f232)) (sqN 4 (gQ Tryz.f232))):=by kernel_rfl
  rw[h2]at h;exact(Option.some.inj h).symm
 subst e;exact qeS follows (KR _ _ X0_ok) (Zw _ _ X0_ok.fl) hc qnh 100000
def X3:XP:=⟨flT,plT,(232,qpu) :: olT,[qaO],[lsN,l1N]⟩
theorem qkN:qax Tryz.prog X3:=⟨vh,X0_ok.pl,⟨qfd,X0_ok.ol⟩,X0_ok.cl,X0_ok.nl⟩
end
end Go.Sx
end
