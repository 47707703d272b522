/- A part of the proof. -/
import Derived.Test.YtacejomniokahaaGreatPE
import Derived.Test.YtacejomniokahaaGreatPC
open Nat renaming le_refl→xa5,eq_of_beq_eq_true→xa6,le_of_ble_eq_true→xa7,mul_le_mul_right→xa8,lt_of_lt_of_le→xa9,zero_add→xb0,add_zero→xb1,add_assoc→xb2,lt_irrefl→xb4,lt_succ_self→xb5,zero_le→xb6,sub_self→xb8,le_trans→xc1,le_succ→xc4
open List renaming getD_eq_getElem?_getD→xc6,getElem?_eq_getElem→xc7,length_append→xc8,getElem?_append_left→xc9,getElem?_append_right→xd0,length_singleton→xd1,append_nil→xd3,mem_append→xd4,mem_cons_self→xd5,getElem?_cons_zero→xd6,getElem?_cons_succ→xd7,length_take→xd9,mem_singleton→xe0,length_map→xe1,getElem?_toArray→xe2,length_cons→xe4
open Bool renaming and_eq_true→xe6,true_and→xf0
open Array renaming getD_eq_getD_getElem?→xf5,getElem?_toList→xf6
open Classical renaming byContradiction→xf9
open Option renaming map_some→xg1
open Go.Sx.SV renaming val→Ψ
open Go.Value renaming int→Φ
open Go.IntKind renaming i64→Γ
set_option linter.unusedVariables false
set_option linter.unusedSimpArgs false
set_option linter.defProp false
set_option maxRecDepth 1000000
set_option maxHeartbeats 16000000
section
namespace Go.Tn
open Go.Proofs
open Go.Sx
variable{N:Nat}{len:Nat→Nat}{to:Nat→Nat→Nat}{F rw rw0:Nat→Int}{fl:List Value}
theorem jt:qn Tryz.prog 393=some ⟨false,1,some [.slice none 0 0],.slice 255 6⟩:=by kernel_rfl
theorem qrw(a b c d e g:Int):∀i j,i<1→j<6→oneCell ([Ψ (Φ Γ a),Ψ (Φ Γ b),Ψ (Φ Γ c),Ψ (Φ Γ d),Ψ (Φ Γ e),Ψ (Φ Γ g)].getD (i*6+j) SV.top)=true:=by
 intro i j hi hj;obtain rfl:i=0:=by omega
 rw[Nat.zero_mul,xb0];rcases(Ω:j=0∨j=1∨j=2∨j=3∨j=4∨j=5)with rfl|rfl|rfl|rfl|rfl|rfl<;>rfl
theorem qdW{O:Ctx}{fr fr':List (Nat×SV)}{hp hp':List (Nat×Blk)}{nid nid' mid:Nat}{fit dom dom':Value→Bool}{get:Value→SV}{st:Value→Nat}{c:Nat}(hb:blk hp mid=some (.mapS fit dom get st c))(hd:∀v,dom' v=dom v)(hn:nid≤nid')(hf:qQ fr fr')(hh:SubHp (setBlk hp mid (.map fit dom' get)) hp'):Weak O ⟨fr,hp,nid⟩ ⟨fr',hp',nid'⟩:=
 Weak.trans (WA hb hd) (weakSU hn hf hh)
theorem qiX:qF Tryz.prog 255=48:=by kernel_rfl
theorem qnP:qD Tryz.prog 250=some ⟨true,[Lf.i .i64,Lf.i .i64,Lf.i .i64,Lf.i .i64,Lf.i .i64,Lf.i .i64],Ψ (Φ Γ 0)⟩:=by kernel_rfl
structure Hl(N:Nat)(len:Nat→Nat)(to:Nat→Nat→Nat)(F:Nat→Int)(dom0:Value→Bool)(nx:Nat→Nat→SV)(rest:List (Nat×Blk))(id tb xid rid mid:Nat):Prop where
 fx:Fx N len to F
 N5:N≤100000
 l5:∀i,i<N→len i≤5
 keys:∀v,dom0 v=true→∃(f:Nat→Int)(n:Nat),n<N∧v=kp f n
 one:∀v v',dom0 v=true→dom0 v'=true→zW v=zW v'→v=v'
 all:∀i,i<N→∃v,dom0 v=true∧zW v=i
 nx:∀i,i<N→(len i=0∧nx i 0=.val (.slice none 0 0))∨∃xi r,nx i 0=.vec xi (len i) 1∧blk rest xi=some (.rows 3 1 (len i) r)∧(xi≠tb∧xi≠xid∧xi≠rid∧xi≠mid∧xi<id)∧∀j,j<len i→r j 0=Ψ (Φ Γ (to i j:Nat))
 itb:tb<id
 ixid:xid<id
 irid:rid<id
 imid:mid<id
 d1:tb≠xid
 d2:tb≠rid
 d3:tb≠mid
 d4:xid≠rid
 d5:xid≠mid
 d6:rid≠mid
 und:Under rest id
structure Fnd(N:Nat)(len:Nat→Nat)(to:Nat→Nat→Nat)(F rw0 rw:Nat→Int)(dom:Value→Bool)(ks fl:List Value):Prop where
 nd:ks.Nodup
 inD:∀v,v∈ks→dom v=true
 sub:∀v,v∈fl→v∈ks
 rwF:Rw N F rw
 mem:∀v,dom v=true→(0≤rw (zW v)↔v∈fl)
 nil:fl=[]→rw=rw0∧∀v,v∈ks→∃j,j<len (zW v)∧rw0 (to (zW v) j)<0
 cn:cnt rw N+fl.length=cnt rw0 N
 up:∀i,0≤rw0 i→0≤rw i
theorem Fnd.stop{dom:Value→Bool}{ks:List Value}(h:Fnd N len to F rw0 rw dom ks fl){v:Value}(hv:dom v=true)(hn:v∉ks)(hj:∃j,j<len (zW v)∧rw (to (zW v) j)<0):Fnd N len to F rw0 rw dom (ks++[v]) fl:=
 ⟨gi h.nd hn,λx hx=>by
  rcases List.mem_append.1 hx with h1|h1
  ·exact h.inD x h1
  ·rw[List.mem_singleton.1 h1];exact hv,λx hx=>List.mem_append.2 (.inl (h.sub x hx)),h.rwF,h.mem,λe=>⟨(h.nil e).1,λx hx=>by
  rcases List.mem_append.1 hx with h1|h1
  ·exact(h.nil e).2 x h1
  ·rw[List.mem_singleton.1 h1,←(h.nil e).1];exact hj⟩,h.cn,h.up⟩
theorem Fnd.hit{dom:Value→Bool}{ks:List Value}(h:Fnd N len to F rw0 rw dom ks fl)(hone:∀v v',dom v=true→dom v'=true→zW v=zW v'→v=v'){v:Value}(hv:dom v=true)(hN:zW v<N)(hn:v∉ks){x:Int}(hx:x=F (zW v))(h0:0≤x):Fnd N len to F rw0 (Qc rw (zW v) x) dom (ks++[v]) (fl++[v]):=by
 have hneg:rw (zW v)<0:=by
  have:=(h.mem v hv).1;have:=mt this (λhm=>hn (h.sub v hm));omega
 refine⟨gi h.nd hn,λx hx=>?_,λx hx=>?_,λi hi=>?_,λu hu=>?_,λe=>?_,?_,λi hi=>?_⟩
 ·rcases List.mem_append.1 hx with h1|h1
  ·exact h.inD x h1
  ·simp_all
 ·rcases List.mem_append.1 hx with h1|h1
  ·exact List.mem_append.2 (.inl (h.sub x h1))
  ·simp_all
 ·unfold Qc
  split
  ·simp_all
  ·exact h.rwF i hi
 ·unfold Qc
  split
  ·grind
  ·rename_i e
   rw[h.mem u hu,xd4,xe0]
   grind
 ·simp at e
 ·have:=wi hneg h0 hN
  have:=h.cn
  grind
 ·unfold Qc
  split
  ·exact h0
  ·exact h.up i hi
open Classical in
noncomputable def domC(dom:Value→Bool)(fl:List Value):Value→Bool:=λv=>dom v&&!decide (v∈fl)
theorem qiY(dom:Value→Bool):domC dom []=dom:=by funext v;simp[domC]
open Classical in
theorem qoH{dom:Value→Bool}{f:Nat→Int}{n:Nat}:ko (domC dom fl) (kp f n)=domC dom (fl++[kp f n]):=by
 funext v;unfold ko domC;have e:eqK (kp f n) v=decide (v=kp f n):=by rw[Bool.eq_iff_iff,eqK_kp,decide_eq_true_eq]
 rw[e,Bool.eq_iff_iff];simp only[xe6,Bool.not_eq_true',decide_eq_false_iff_not,xd4,xe0];constructor
 iterate 2 focus simp_all
open Classical in
theorem Fnd.dom{dom0:Value→Bool}{ks:List Value}(h:Fnd N len to F rw0 rw (λv=>dom0 v&&decide (rw0 (zW v)<0)) ks fl):domC (λv=>dom0 v&&decide (rw0 (zW v)<0)) fl=λv=>dom0 v&&decide (rw (zW v)<0):=by
 funext v;unfold domC;rw[Bool.eq_iff_iff];simp only[xe6,Bool.not_eq_true',decide_eq_false_iff_not,decide_eq_true_eq];constructor
 ·rintro⟨⟨h1,h2⟩,h3⟩
  have:=mt (h.mem v (by rw[h1,decide_eq_true h2];rfl)).1 h3
  simp_all
 ·rintro⟨h1,h2⟩
  have h3:rw0 (zW v)<0:=by
   have:=mt (h.up (zW v));omega
  exact⟨⟨h1,h3⟩,mt (h.mem v (by rw[h1,decide_eq_true h3];rfl)).2 Ω⟩
def qrx(fl:List Value)(row:Nat→Nat→SV):Prop:=∀i j,i<fl.length→j<6→row i j=kc (fl.getD i undef) j
def st0(N:Nat)(get:Value→SV)(A Z:SV)(nx:Nat→Nat→SV)(dom0:Value→Bool)(rest:List (Nat×Blk))(id tb xid rid mid:Nat)(z:(Nat→Int)×(Nat→Nat→SV)×Nat):St:=
 ⟨[(0,.ptr tb 0)],(rid,.rows 3 1 N z.2.1) ::(mid,.map kfP (λv=>dom0 v&&decide (z.1 (zW v)<0)) get) ::(tb,.cells 253 [A,Z,.vec xid N 1,.vec rid N 1,.mp mid]) ::(xid,.rows 22 1 N nx) :: rest,id+(960*N+400)*z.2.2⟩
def st1(N:Nat)(get:Value→SV)(A Z:SV)(nx:Nat→Nat→SV)(dom:Value→Bool)(rest:List (Nat×Blk))(n1 tb xid rid mid clk:Nat)(stamp:Value→Nat)(z:List Value×List Value×(Nat→Int)×(Nat→Nat→SV)×Nat×(Nat→Nat→SV)):St:=
 match z with
 |(ks,[],_,row,_,_)=>⟨[(0,.ptr tb 0),(2,.val (.slice none 0 0)),(12,.ptr (n1+5) 0)],(n1+5,.iter mid clk (ks.map stamp) clk) ::(rid,.rows 3 1 N row) ::(mid,.mapS kfP dom get stamp clk) ::(tb,.cells 253 [A,Z,.vec xid N 1,.vec rid N 1,.mp mid]) ::(xid,.rows 22 1 N nx) :: rest,n1+20+900*ks.length⟩
 |(ks,_ :: l,_,row,oid,frow)=>⟨[(0,.ptr tb 0),(2,.vec oid (l.length+1) 6),(12,.ptr (n1+5) 0)],(oid,.rows 255 6 (l.length+1) frow) ::(n1+5,.iter mid clk (ks.map stamp) clk) ::(rid,.rows 3 1 N row) ::(mid,.mapS kfP dom get stamp clk) ::(tb,.cells 253 [A,Z,.vec xid N 1,.vec rid N 1,.mp mid]) ::(xid,.rows 22 1 N nx) :: rest,n1+20+900*ks.length⟩
theorem qiZ(N:Nat)(get:Value→SV)(A Z:SV)(nx:Nat→Nat→SV)(dom:Value→Bool)(rest:List (Nat×Blk))(n1 tb xid rid mid clk:Nat)(stamp:Value→Nat)(ks:List Value)(rw:Nat→Int)(row:Nat→Nat→SV)(oid:Nat)(frow:Nat→Nat→SV):st1 N get A Z nx dom rest n1 tb xid rid mid clk stamp (ks,[],rw,row,oid,frow)=⟨[(0,.ptr tb 0),(2,.val (.slice none 0 0)),(12,.ptr (n1+5) 0)],(n1+5,.iter mid clk (ks.map stamp) clk) ::(rid,.rows 3 1 N row) ::(mid,.mapS kfP dom get stamp clk) ::(tb,.cells 253 [A,Z,.vec xid N 1,.vec rid N 1,.mp mid]) ::(xid,.rows 22 1 N nx) :: rest,n1+20+900*ks.length⟩:=rfl
theorem qdX(N:Nat)(get:Value→SV)(A Z:SV)(nx:Nat→Nat→SV)(dom:Value→Bool)(rest:List (Nat×Blk))(n1 tb xid rid mid clk:Nat)(stamp:Value→Nat)(ks:List Value)(x:Value)(l:List Value)(rw:Nat→Int)(row:Nat→Nat→SV)(oid:Nat)(frow:Nat→Nat→SV):st1 N get A Z nx dom rest n1 tb xid rid mid clk stamp (ks,x :: l,rw,row,oid,frow)=⟨[(0,.ptr tb 0),(2,.vec oid (l.length+1) 6),(12,.ptr (n1+5) 0)],(oid,.rows 255 6 (l.length+1) frow) ::(n1+5,.iter mid clk (ks.map stamp) clk) ::(rid,.rows 3 1 N row) ::(mid,.mapS kfP dom get stamp clk) ::(tb,.cells 253 [A,Z,.vec xid N 1,.vec rid N 1,.mp mid]) ::(xid,.rows 22 1 N nx) :: rest,n1+20+900*ks.length⟩:=rfl
theorem qry(N:Nat)(len:Nat→Nat)(to:Nat→Nat→Nat)(F:Nat→Int)(dom0:Value→Bool)(get:Value→SV)(A Z:SV)(nx row0:Nat→Nat→SV)(rest:List (Nat×Blk))(id tb xid rid mid:Nat)
  (h:Hl N len to F dom0 nx rest id tb xid rid mid) (hr0:∀i,i<N→row0 i 0=Ψ (Φ Γ (-1))) :
  EffVC Tryz.prog 163 [.ptr tb 0] ((rid,.rows 3 1 N row0) ::(mid,.map kfP dom0 get) ::(tb,.cells 253 [A,Z,.vec xid N 1,.vec rid N 1,.mp mid]) ::(xid,.rows 22 1 N nx) :: rest) id (λhp' nid' res=>nid'≤id+1000*(N+2)*(N+2)∧res=.tup []∧∃row,(∀i,i<N→row i 0=Ψ (Φ Γ (F i)))∧hp'=(rid,.rows 3 1 N row) ::(mid,.map kfP (λv=>dom0 v&&decide (F (zW v)<0)) get) ::(tb,.cells 253 [A,Z,.vec xid N 1,.vec rid N 1,.mp mid]) ::(xid,.rows 22 1 N nx) :: rest):=by
 refine vu follows Tryz.func163 rfl Ωb Ωb (by rw[Tryz.ntmps163];simp) λout=>?_;have htb:=h.itb;have hxid:=h.ixid;have hrid:=h.irid;have hmid:=h.imid;have ND:=(⟨nmE h.d1,nmE h.d2,nmE h.d3,nmE h.d4,nmE h.d5,nmE h.d6⟩:_∧_∧_∧_∧_∧_);have NB:True:=trivial;have NB1:True:=trivial;have hN5:=h.N5;have e0:(λv=>dom0 v&&decide ((-1:Int)<0))=dom0:=by funext v;simp
 (repeat' first|refine sD ?_ ?_<;>intro _|refine aAa ?_|simp -dsimp only[↓RP,RQ,seval,NB,NB1,ND,jt,QÀ]);refine qp (λ(z:(Nat→Int)×(Nat→Nat→SV)×Nat)=>Rw N F z.1∧(∀i,i<N→z.2.1 i 0=Ψ (Φ Γ (z.1 i)))∧z.2.2+cnt z.1 N≤N) (st0 N get A Z nx dom0 rest id tb xid rid mid) (λz=>cnt z.1 N) (λ_=>-1,row0,0) ⟨λi hi=>.inr rfl,hr0,by have:=G5 (λ_=>-1) N;simp only[];omega⟩ (by unfold st0;simp only[Nat.mul_zero,xb1,e0];exact weakSU (xa5 _) Ωd (SubHp.refl _)) λz hz=>?_;obtain⟨rw0,row,c⟩:=z;obtain⟨z1,z2,z3⟩:=hz;simp only[]at z1 z2 z3;unfold st0;simp only[];obtain⟨n1,hn1⟩:∃n1,n1=id+(960*N+400)*c:=⟨_,rfl⟩;have hid1:id≤n1:=by rw[hn1];exact Nat.le_add_right _ _
 rw[←hn1];have NB:=(⟨nmA (Ω:tb<n1),nmA (Ω:xid<n1),nmA (Ω:rid<n1),nmA (Ω:mid<n1)⟩:_∧_∧_∧_);(repeat' first|refine sD ?_ ?_<;>intro _|refine aAa ?_|simp -dsimp only[↓RP,RQ,seval,NB,NB1,ND,jt,QÀ]);refine qdf (mid:=mid) (fit:=kfP) (dom:=(λv=>dom0 v&&decide (rw0 (zW v)<0))) (get:=get) Ωr Ωr qnP ΩO λstamp clk hst hinj=>?_;(repeat' first|refine sD ?_ ?_<;>intro _|refine aAa ?_|simp -dsimp only[↓RP,RQ,seval,NB,NB1,ND,jt,QÀ]);obtain⟨dom,hdom⟩:∃dom,dom=λv=>dom0 v&&decide (rw0 (zW v)<0):=⟨_,rfl⟩;have hst:∀k,dom k=true→stamp k<clk:=by rw[hdom];exact hst
 have hinj:∀k k',dom k=true→dom k'=true→stamp k=stamp k'→k=k':=by rw[hdom];exact hinj
 have hd0:∀k,dom k=true→dom0 k=true:=λk hk=>by rw[hdom]at hk;simp only[xe6]at hk;exact hk.1
 rw[←hdom];have hone:∀v v',dom v=true→dom v'=true→zW v=zW v'→v=v':=λv v' h1 h2=>h.one v v' (hd0 v h1) (hd0 v' h2);have hbx0:∀{Y Z':Blk} x,n1≤x→blk ((rid,Y) ::(mid,Z') ::(tb,.cells 253 [A,Z,.vec xid N 1,.vec rid N 1,.mp mid]) ::(xid,.rows 22 1 N nx) :: rest) x=none:=λx hx=>by
  simp only[blk];rw[if_neg Ω,if_neg Ω,if_neg Ω,if_neg Ω];exact h.und.none Ω
 have hbx:∀{X Y Z':Blk} x,n1+6≤x→blk ((n1+5,X) ::(rid,Y) ::(mid,Z') ::(tb,.cells 253 [A,Z,.vec xid N 1,.vec rid N 1,.mp mid]) ::(xid,.rows 22 1 N nx) :: rest) x=none:=λx hx=>by
  simp only[blk];rw[if_neg Ω,if_neg Ω,if_neg Ω,if_neg Ω,if_neg Ω];exact h.und.none Ω
 refine qp (λ(z:List Value×List Value×(Nat→Int)×(Nat→Nat→SV)×Nat×(Nat→Nat→SV))=>Fnd N len to F rw0 z.2.2.1 dom z.1 z.2.1∧(∀i,i<N→z.2.2.2.1 i 0=Ψ (Φ Γ (z.2.2.1 i)))∧qrx z.2.1 z.2.2.2.2.2∧(z.2.1≠[]→n1+6≤z.2.2.2.2.1∧z.2.2.2.2.1<n1+20+900*z.1.length)) (st1 N get A Z nx dom rest n1 tb xid rid mid clk stamp) (λz=>N - z.1.length) ([],[],rw0,row,0,λ_ _=>.top) ⟨⟨List.nodup_nil,λv hv=>Ωs,λv hv=>Ωs,z1,λv hv=>?_,λ_=>⟨rfl,λv hv=>Ωs⟩,rfl,λi hi=>hi⟩,z2,λi j hi=>(by cases hi),λhh=>absurd rfl hh⟩ (by rw[qiZ];exact weakSU Ωg Ωd (SubHp.refl _)) λz hz=>?_
 ·rw[hdom]at hv
  simp only[xe6,decide_eq_true_eq]at hv;exact⟨λh1=>by have h1:0≤rw0 (zW v):=h1;omega,λh1=>(by cases h1)⟩
 obtain⟨ks,fl,rw1,row1,oid,frow⟩:=z;obtain⟨y1,y2,y3,y4⟩:=hz;simp only[]at y1 y2 y3 y4;have hks:ks.length≤N:=by
  have:=vL N (ks.map zW) (yO y1.nd λa b ha hb=>hone a b (y1.inD a ha) (y1.inD b hb)) λx hx=>by
   obtain⟨v,hv,rfl⟩:=List.mem_map.1 hx;obtain⟨f,n,hn,rfl⟩:=h.keys v (hd0 v (y1.inD v hv));exact hn
  rwa [xe1]at this
 have hkl:∀v,dom v=true→v∉ks→ks.length<N:=λv hv hm=>by
  have:=vL N ((ks++[v]).map zW) (yO (gi y1.nd hm) λa b ha hb=>hone a b ?_ ?_) λx hx=>?_
  ·rw[xe1,xc8,xd1]at this;omega
  ·rcases List.mem_append.1 ha with h1|h1
   ·exact y1.inD a h1
   ·rw[List.mem_singleton.1 h1];exact hv
  ·rcases List.mem_append.1 hb with h1|h1
   ·exact y1.inD b h1
   ·rw[List.mem_singleton.1 h1];exact hv
  ·obtain⟨u,hu,rfl⟩:=List.mem_map.1 hx
   have hu2:dom u=true:=by
    rcases List.mem_append.1 hu with h1|h1
    ·exact y1.inD u h1
    ·rw[List.mem_singleton.1 h1];exact hv
   obtain⟨f,n,hn,rfl⟩:=h.keys u (hd0 u hu2);exact hn
 clear NB;obtain⟨nn,hnn⟩:∃nn,nn=n1+20+900*ks.length:=⟨_,rfl⟩;have hn2:n1+20≤nn:=by omega
 have NB:=(⟨nmA (Ω:tb<nn),nmA (Ω:xid<nn),nmA (Ω:rid<nn),nmA (Ω:mid<nn),nmA (Ω:tb<n1),nmA (Ω:xid<n1),nmA (Ω:rid<n1),nmA (Ω:mid<n1),nmA (Ω:n1+5<nn)⟩:_∧_∧_∧_∧_∧_∧_∧_∧_);cases fl with
 |nil=>
  ·rw[qiZ,←hnn]
   (repeat' first|refine sD ?_ ?_<;>intro _|refine aAa ?_|simp -dsimp only[↓RP,RQ,seval,NB,NB1,ND,jt,QÀ]);refine qhF (iid:=n1+5) (mid:=mid) (clk:=clk) (seen:=ks.map stamp) (fit:=kfP) (dom:=dom) (get:=get) (stamp:=stamp) Ωr Ωr ΩO ΩO (λk hk1 hk2 hk3=>?_) (λhall=>?_)
   ·obtain⟨f,n,hn,rfl⟩:=h.keys k (hd0 k hk2)
    have hk4:kp f n∉ks:=λhm=>hk3 (List.mem_map.2 ⟨_,hm,rfl⟩);(repeat' first|refine sD ?_ ?_<;>intro _|refine aAa ?_|simp -dsimp only[↓RP,RQ,seval,NB,NB1,ND,jt,QÀ]);refine Q3 (s:=.agg (kpL f n)) (iid:=n1+5) (mid:=mid) (clk:=clk) (seen:=ks.map stamp) (fit:=kfP) (dom:=dom) (get:=get) (stamp:=stamp) (k:=kp f n) Ωr Ωr ΩO ΩO hk2 (vF [Φ Γ (f 0),Φ Γ (f 1),Φ Γ (f 2),Φ Γ (f 3),Φ Γ (f 4),Φ Γ (n:Nat)]) ?_;unfold kpL;(repeat' first|refine sD ?_ ?_<;>intro _|refine aAa ?_|simp -dsimp only[↓RP,RQ,seval,NB,NB1,ND,jt,QÀ]);refine gG Ωr (qqn _ _ tb xid rid mid N n (len n) A Z nx row1 rw1 (to n) hN5 hn (by have:=h.l5 n hn;omega) ΩO ΩO ΩO y2 (λi hi=>by have:=h.fx.lo i hi;have:=h.fx.hi i hi;rcases y1.rwF i hi with e|e<;>omega) (λj hj=>h.fx.inn n j hn hj) ?hNX) λhp' n3 res hQ=>?_
    case hNX=>
     rcases h.nx n hn with⟨a,b⟩|⟨xi,r,a,b,⟨x1,x2,x3,x4,x5⟩,x6⟩
     ·exact .inl ⟨a,b⟩
     ·have NX:=(⟨nmE x1,nmE x2,nmE x3,nmE x4,nmA (Ω:xi<nn),nmA (Ω:xi<n1)⟩:_∧_∧_∧_∧_∧_)
      exact .inr ⟨xi,r,a,by simp[blk,NB,NB1,ND,NX,b],x6⟩
    obtain⟨rfl,q1,q2,hQ⟩:=hQ;have hl5:=h.l5 n hn;have NB3:=(⟨nmA (Ω:tb<n3),nmA (Ω:xid<n3),nmA (Ω:rid<n3),nmA (Ω:mid<n3),nmA (Ω:nn+4<n3),nmA (Ω:n1+5<n3)⟩:_∧_∧_∧_∧_∧_);rcases hQ with⟨hk,rfl⟩|⟨hk,rfl⟩
    ·obtain⟨w0,w1⟩:=h.fx.set y1.rwF hn hk
     have w2:=h.fx.hi n hn;have w3:=y1.cn;have w4:=G5 rw0 N;have w5:=hN5
     skip
     rw[w1];unfold I B;repeat' first|refine sD ?_ ?_<;>intro _|refine aAa ?_|simp -dsimp only[↓RP,RQ,seval,NB3,qiX,NB,NB1,ND,jt,QÀ]
     skip
     refine⟨(ks++[kp f n],[kp f n],Qc rw1 n (F n),(λa b=>if a=n∧b=0 then Ψ (Φ Γ (F n))else row1 a b),n3+13,(λi j=>[Ψ (Φ Γ (f 0)),Ψ (Φ Γ (f 1)),Ψ (Φ Γ (f 2)),Ψ (Φ Γ (f 3)),Ψ (Φ Γ (f 4)),Ψ (Φ Γ (n:Nat))].getD (i*6+j) SV.top)),⟨y1.hit hone hk2 hn hk4 rfl w0,λi hi=>?_,?_,λ_=>?_⟩,?_,?_⟩
     ·simp only[Qc]
      by_cases e:i=n
      ·rw[if_pos ⟨e,trivial⟩,if_pos e]
      ·rw[if_neg (λe2=>e e2.1),if_neg e];exact y2 i hi
     ·intro i j hi hj
      have e:i=0:=by have hi:i<1:=hi;omega
      subst e;have k:=qiT f n;show [Ψ (Φ Γ (f 0)),Ψ (Φ Γ (f 1)),Ψ (Φ Γ (f 2)),Ψ (Φ Γ (f 3)),Ψ (Φ Γ (f 4)),Ψ (Φ Γ (n:Nat))].getD (0*6+j) SV.top=kc (kp f n) j;rw[Nat.zero_mul,xb0];rcases(Ω:j=0∨j=1∨j=2∨j=3∨j=4∨j=5)with rfl|rfl|rfl|rfl|rfl|rfl
      ·exact k.1.symm
      ·exact k.2.1.symm
      ·exact k.2.2.1.symm
      ·exact k.2.2.2.1.symm
      ·exact k.2.2.2.2.1.symm
      ·exact k.2.2.2.2.2.symm
     ·simp only[xc8,xd1];omega
     ·have hk5:=hkl _ hk2 hk4
      simp only[xc8,xd1];omega
     ·rw[qdX,List.map_append,List.map_cons,List.map_nil,xc8,xd1]
      exact weakSU Ω Ωd (SubHp.cons (SubHp.skip (hbx _ Ω) (SubHp.skip (hbx _ Ω) (SubHp.refl _))))
    ·unfold I B
     (repeat' first|refine sD ?_ ?_<;>intro _|refine aAa ?_|simp -dsimp only[↓RP,RQ,seval,NB3,NB,NB1,ND,jt,QÀ]);refine⟨(ks++[kp f n],[],rw1,row1,oid,frow),⟨y1.stop hk2 hk4 hk,y2,y3,λhh=>?_⟩,?_,?_⟩
     ·exact absurd hh Ωg
     ·have hk5:=hkl _ hk2 hk4
      simp only[xc8,xd1];omega
     ·rw[qiZ,List.map_append,List.map_cons,List.map_nil,xc8,xd1]
      exact weakSU Ω Ωd (SubHp.skip (hbx _ Ω) (SubHp.refl _))
   ·skip
    have hkk:∀v,dom v=true→v∈ks:=λv hv=>by
     obtain⟨u,hu,e⟩:=List.mem_map.1 (hall v hv);rw[←hinj u v (y1.inD u hu) hv e];exact hu
    have⟨hrw,hno⟩:=y1.nil rfl;subst hrw;have hF:∀i,i<N→rw1 i=F i:=λi hi=>h.fx.fin y1.rwF (λi hi hneg=>by
     obtain⟨v,hv,rfl⟩:=h.all i hi;refine hno v (hkk v ?_);rw[hdom];simp only[hv,xf0,decide_eq_true_eq];exact hneg) 1000000 i hi (h.fx.hi i hi)
    (repeat' first|refine sD ?_ ?_<;>intro _|refine aAa ?_|simp -dsimp only[↓RP,RQ,seval,NB,NB1,ND,jt,QÀ]);refine⟨_,_,_,qdW (mid:=mid) (fit:=kfP) (dom:=dom) (dom':=λv=>dom0 v&&decide (F (zW v)<0)) (get:=get) (st:=stamp) (c:=clk) ΩO (λv=>?_) (xa5 _) (fr':=[(0,_)]) ⟨.inr rfl,trivial⟩ (by simp only[setBlk,NB,NB1,ND,reduceIte];exact SubHp.skip (hbx0 _ Ω) (SubHp.refl _)),?_,rfl,row1,λi hi=>by rw[y2 i hi,hF i hi],rfl⟩
    ·rw[hdom]
     show(dom0 v&&decide (F (zW v)<0))=(dom0 v&&decide (rw1 (zW v)<0));cases hv:dom0 v with
     |false=>rfl
     |true=>
      obtain⟨f,n,hn,rfl⟩:=h.keys v hv;rw[wx,hF n hn]
    ·have hc:=Nat.mul_le_mul_left (960*N+400) (Ω:c≤N)
     have e3:(960*N+400)*N=960*(N*N)+400*N:=by rw[Nat.add_mul,Nat.mul_assoc]
     rw[e3]at hc;have e1:1000*(N+2)*(N+2)=1000*(N*N)+4000*N+4000:=by
      rw[Nat.mul_assoc,Nat.add_mul,Nat.mul_add,Nat.mul_add];omega
     rw[e1,hnn,hn1];omega
 |cons x l=>
  have⟨y5,y6⟩:=y4 Ωg;rw[←hnn]at y6;have NO:=(⟨nmE (Ω:oid≠tb),nmE (Ω:oid≠xid),nmE (Ω:oid≠rid),nmE (Ω:oid≠mid),nmE (Ω:oid≠n1+5),nmA y6⟩:_∧_∧_∧_∧_∧_);have hdr:dropBlk rest oid=rest:=zg (h.und.none Ω);have hbx2:∀{X Y Z' V:Blk} x,n1+6≤x→x≠oid→blk ((oid,V) ::(n1+5,X) ::(rid,Y) ::(mid,Z') ::(tb,.cells 253 [A,Z,.vec xid N 1,.vec rid N 1,.mp mid]) ::(xid,.rows 22 1 N nx) :: rest) x=none:=λx hx hx2=>by
   simp only[blk];rw[if_neg hx2];exact hbx x hx
  ·rw[qdX,←hnn]
   (repeat' first|refine sD ?_ ?_<;>intro _|refine aAa ?_|simp -dsimp only[↓RP,RQ,seval,NO,hdr,NB,NB1,ND,jt,QÀ]);refine qhF (iid:=n1+5) (mid:=mid) (clk:=clk) (seen:=ks.map stamp) (fit:=kfP) (dom:=dom) (get:=get) (stamp:=stamp) Ωr Ωr ΩM ΩM (λk hk1 hk2 hk3=>?_) (λhall=>?_)
   ·obtain⟨f,n,hn,rfl⟩:=h.keys k (hd0 k hk2)
    have hk4:kp f n∉ks:=λhm=>hk3 (List.mem_map.2 ⟨_,hm,rfl⟩);(repeat' first|refine sD ?_ ?_<;>intro _|refine aAa ?_|simp -dsimp only[↓RP,RQ,seval,NO,hdr,NB,NB1,ND,jt,QÀ]);refine Q3 (s:=.agg (kpL f n)) (iid:=n1+5) (mid:=mid) (clk:=clk) (seen:=ks.map stamp) (fit:=kfP) (dom:=dom) (get:=get) (stamp:=stamp) (k:=kp f n) Ωr Ωr ΩM ΩM hk2 (vF [Φ Γ (f 0),Φ Γ (f 1),Φ Γ (f 2),Φ Γ (f 3),Φ Γ (f 4),Φ Γ (n:Nat)]) ?_;unfold kpL;(repeat' first|refine sD ?_ ?_<;>intro _|refine aAa ?_|simp -dsimp only[↓RP,RQ,seval,NO,hdr,NB,NB1,ND,jt,QÀ]);refine gG Ωr (qqn _ _ tb xid rid mid N n (len n) A Z nx row1 rw1 (to n) hN5 hn (by have:=h.l5 n hn;omega) ΩM ΩM ΩM y2 (λi hi=>by have:=h.fx.lo i hi;have:=h.fx.hi i hi;rcases y1.rwF i hi with e|e<;>omega) (λj hj=>h.fx.inn n j hn hj) ?hNX) λhp' n3 res hQ=>?_
    case hNX=>
     rcases h.nx n hn with⟨a,b⟩|⟨xi,r,a,b,⟨x1,x2,x3,x4,x5⟩,x6⟩
     ·exact .inl ⟨a,b⟩
     ·have NX:=(⟨nmE x1,nmE x2,nmE x3,nmE x4,nmA (Ω:xi<nn),nmA (Ω:xi<n1),nmE (Ω:xi≠oid)⟩:_∧_∧_∧_∧_∧_∧_)
      exact .inr ⟨xi,r,a,by simp[blk,NB,NB1,ND,NX,NO,b],x6⟩
    obtain⟨rfl,q1,q2,hQ⟩:=hQ;have hl5:=h.l5 n hn;have NB3:=(⟨nmA (Ω:tb<n3),nmA (Ω:xid<n3),nmA (Ω:rid<n3),nmA (Ω:mid<n3),nmA (Ω:nn+4<n3),nmA (Ω:n1+5<n3),nmA (Ω:oid<n3)⟩:_∧_∧_∧_∧_∧_∧_);rcases hQ with⟨hk,rfl⟩|⟨hk,rfl⟩
    ·obtain⟨w0,w1⟩:=h.fx.set y1.rwF hn hk
     have w2:=h.fx.hi n hn;have w3:=y1.cn;have w4:=G5 rw0 N;have w5:=hN5;rw[xe4]at w3;rw[w1];unfold I B;(repeat' first|refine sD ?_ ?_<;>intro _|refine aAa ?_|simp -dsimp only[↓RP,RQ,seval,NB3,qiX,NO,hdr,NB,NB1,ND,jt,QÀ]);refine⟨⟨.inr trivial,xa5 _,qrw _ _ _ _ _ _,Ω⟩,Ω,Ω,?_⟩;refine⟨(ks++[kp f n],x ::(l++[kp f n]),Qc rw1 n (F n),(λa b=>if a=n∧b=0 then Ψ (Φ Γ (F n))else row1 a b),n3+13,(λi j=>if i<l.length+1 then frow i j else [Ψ (Φ Γ (f 0)),Ψ (Φ Γ (f 1)),Ψ (Φ Γ (f 2)),Ψ (Φ Γ (f 3)),Ψ (Φ Γ (f 4)),Ψ (Φ Γ (n:Nat))].getD ((i -(l.length+1))*6+j) SV.top)),⟨y1.hit hone hk2 hn hk4 rfl w0,λi hi=>?_,?_,λ_=>?_⟩,?_,?_⟩
     ·simp only[Qc]
      by_cases e:i=n
      ·rw[if_pos ⟨e,trivial⟩,if_pos e]
      ·rw[if_neg (λe2=>e e2.1),if_neg e];exact y2 i hi
     ·intro i j hi hj
      have hi:i<(x ::(l++[kp f n])).length:=hi;rw[xe4,xc8,xd1]at hi;by_cases hc:i<l.length+1
      ·show(if i<l.length+1 then frow i j else _)=_
       rw[if_pos hc,y3 i j hc hj];have eG:(x ::(l++[kp f n])).getD i undef=(x :: l).getD i undef:=by
        rw[←List.cons_append,xc6,xc6,xc9 hc]
       show _=kc ((x ::(l++[kp f n])).getD i undef) j;rw[eG]
      ·have e:i=l.length+1:=by omega
       subst e;have k:=qiT f n;have eG:(x ::(l++[kp f n])).getD (l.length+1) undef=kp f n:=by simp[xc6]
       show(if l.length+1<l.length+1 then frow (l.length+1) j else [Ψ (Φ Γ (f 0)),Ψ (Φ Γ (f 1)),Ψ (Φ Γ (f 2)),Ψ (Φ Γ (f 3)),Ψ (Φ Γ (f 4)),Ψ (Φ Γ (n:Nat))].getD ((l.length+1 -(l.length+1))*6+j) SV.top)=kc ((x ::(l++[kp f n])).getD (l.length+1) undef) j;rw[if_neg Ω,eG,xb8,Nat.zero_mul,xb0];rcases(Ω:j=0∨j=1∨j=2∨j=3∨j=4∨j=5)with rfl|rfl|rfl|rfl|rfl|rfl
       ·exact k.1.symm
       ·exact k.2.1.symm
       ·exact k.2.2.1.symm
       ·exact k.2.2.2.1.symm
       ·exact k.2.2.2.2.1.symm
       ·exact k.2.2.2.2.2.symm
     ·simp only[xc8,xd1];omega
     ·have hk5:=hkl _ hk2 hk4
      simp only[xc8,xd1];omega
     ·rw[qdX,List.map_append,List.map_cons,List.map_nil,xc8,xd1,xc8,xd1]
      exact weakSU Ω Ωd (SubHp.cons (SubHp.skip (hbx _ Ω) (SubHp.skip (hbx _ Ω) (SubHp.refl _))))
    ·unfold I B
     (repeat' first|refine sD ?_ ?_<;>intro _|refine aAa ?_|simp -dsimp only[↓RP,RQ,seval,NB3,NO,hdr,NB,NB1,ND,jt,QÀ]);refine⟨(ks++[kp f n],x :: l,rw1,row1,oid,frow),⟨y1.stop hk2 hk4 hk,y2,y3,λhh=>?_⟩,?_,?_⟩
     ·have:=y4 hh
      simp only[xc8,xd1];omega
     ·have hk5:=hkl _ hk2 hk4
      simp only[xc8,xd1];omega
     ·rw[qdX,List.map_append,List.map_cons,List.map_nil,xc8,xd1]
      exact weakSU Ω Ωd (SubHp.skip (hbx2 _ Ω Ω) (SubHp.refl _))
   ·skip
    have hkk:ks.length≤N:=hks;have hfl:=y1.cn;have hcl:=G5 rw0 N;rw[xe4]at hfl;have hl0:=decide_eq_false (show ¬(((l.length+1:Nat):Nat):Int)=0 by omega);obtain⟨fl,hfe⟩:∃fl,fl=x :: l:=⟨_,rfl⟩;obtain⟨m,hm⟩:∃m,m=l.length+1:=⟨_,rfl⟩;have hml:m=fl.length:=by rw[hfe,hm];rfl
    rw[←hm]at hfl hl0;rw[←hfe]at y1 y3;rw[←hm];(repeat' first|refine sD ?_ ?_<;>intro _|refine aAa ?_|simp -dsimp only[↓RP,RQ,seval,NO,hdr,hl0,NB,NB1,ND,jt,QÀ]);refine qp (λ(i:Nat)=>i≤m) (λi=>⟨[(0,.ptr tb 0),(40,.vec oid m 6),(41,Ψ (Φ Γ (m:Nat))),(42,Ψ (Φ Γ (i:Nat)))],(oid,.rows 255 6 m frow) ::(rid,.rows 3 1 N row1) ::(mid,.mapS kfP (domC dom (fl.take i)) get stamp clk) ::(tb,.cells 253 [A,Z,.vec xid N 1,.vec rid N 1,.mp mid]) ::(xid,.rows 22 1 N nx) :: rest,nn+40+60*i⟩) (λi=>m - i) 0 (xb6 _) (by rw[List.take_zero,qiY];exact weakSU Ω Ωd (SubHp.cons (SubHp.skip (hbx0 _ Ω) (SubHp.refl _)))) λi hi=>?_;obtain⟨n4,hn4⟩:∃n4,n4=nn+40+60*i:=⟨_,rfl⟩;rw[←hn4];clear NB;have NB:=(⟨nmA (Ω:tb<n4),nmA (Ω:xid<n4),nmA (Ω:rid<n4),nmA (Ω:mid<n4),nmA (Ω:oid<n4)⟩:_∧_∧_∧_∧_);have hbx4:∀{X Y Z':Blk} x,n4≤x→blk ((oid,X) ::(rid,Y) ::(mid,Z') ::(tb,.cells 253 [A,Z,.vec xid N 1,.vec rid N 1,.mp mid]) ::(xid,.rows 22 1 N nx) :: rest) x=none:=λx hx=>by
     simp only[blk];rw[if_neg Ω,if_neg Ω,if_neg Ω,if_neg Ω,if_neg Ω];exact h.und.none Ω
    by_cases him:i<m
    ·have hlt:=decide_eq_true (Ω:((i:Nat):Int)<(m:Nat))
     have hmem:fl.getD i undef∈fl:=by
      rw[xc6,xc7 (Ω:i<fl.length)];exact List.getElem_mem _
     obtain⟨f,n,hn,hfn⟩:=h.keys _ (hd0 _ (y1.inD _ (y1.sub _ hmem)));have k:=qiT f n;have f0:=y3 i 0 Ω Ω;have f1:=y3 i 1 Ω Ω;have f2:=y3 i 2 Ω Ω;have f3:=y3 i 3 Ω Ω;have f4:=y3 i 4 Ω Ω;have f5:=y3 i 5 Ω Ω;rw[hfn,k.1]at f0;rw[hfn,k.2.1]at f1;rw[hfn,k.2.2.1]at f2;rw[hfn,k.2.2.2.1]at f3;rw[hfn,k.2.2.2.2.1]at f4;rw[hfn,k.2.2.2.2.2]at f5;(repeat' first|refine sD ?_ ?_<;>intro _|refine aAa ?_|simp -dsimp only[↓RP,RQ,seval,NO,hlt,f0,f1,f2,f3,f4,f5,qnP,qiX,NB,NB1,ND,jt,QÀ]);have hgi:fl[i]? = some (kp f n):=by
      rw[←hfn,xc6,xc7 (Ω:i<fl.length)];rfl
     have hcut:ko (domC dom (List.take i fl)) (Value.agg #[Value.int .i64 (f 0),Value.int .i64 (f 1),Value.int .i64 (f 2),Value.int .i64 (f 3),Value.int .i64 (f 4),Value.int .i64 (n:Nat)])=domC dom (List.take (i+1) fl):=by
      show ko _ (kp f n)=_;rw[qoH,List.take_add_one,hgi];rfl
     rw[hcut];exact⟨i+1,Ω,Ω,weakSU Ω Ωd (SubHp.skip (hbx4 _ Ω) (SubHp.refl _))⟩
    ·obtain rfl:i=m:=by omega
     have hlt:=decide_eq_false (Ω:¬((i:Nat):Int)<(i:Nat));(repeat' first|refine sD ?_ ?_<;>intro _|refine aAa ?_|simp -dsimp only[↓RP,RQ,seval,NO,hlt,NB,NB1,ND,jt,QÀ]);have yd:=y1;rw[hdom]at yd;have ed:=yd.dom;have hX:id+(960*N+400)*(c+1)=n1+(960*N+400):=by rw[hn1,Nat.mul_add,Nat.mul_one];omega
     refine⟨(rw1,row1,c+1),⟨y1.rwF,y2,by simp only[];omega⟩,by simp only[];omega,qdW (mid:=mid) (fit:=kfP) (dom:=domC dom (List.take i fl)) (dom':=λv=>dom0 v&&decide (rw1 (zW v)<0)) (get:=get) (st:=stamp) (c:=clk) ΩM (λv=>?_) (by simp only[];rw[hX];omega) Ωd (by simp only[setBlk,NB,NB1,ND,NO,reduceIte];exact SubHp.skip (hbx0 _ Ω) (SubHp.refl _))⟩;rw[hdom,List.take_of_length_le Ω,ed]
end Go.Tn
end
section
namespace Go.Sx
open Go.RowKit
noncomputable section
variable{l:List SV}{α:Type}
def gM(cl:SV→Option SV)(l:List SV):Option (List SV):=
 List.rec (motive:=λ_=>Option (List SV)) (some []) (λa _ ih=>match cl a,ih with
  |some b,some m=>some (b :: m)
  |_,_=>none) l
def qqu(k:Nat)(l:List SV)(i j:Nat):SV:=l.getD (i*k+j) .top
def qak(o full:Bool)(n k:Nat)(l:Option (List SV)):Option SV:=
 match l with
 |some l=>some (.arr o full n k (qqu k l))
 |none=>none
def qlV(f:List SV→SV)(l:Option (List SV)):Option SV:=
 match l with
 |some l=>some (f l)
 |none=>none
def fnO(f:Fn)(a b:Option (List SV)):Option SV:=
 match a,b with
 |some a,some b=>some (.fn f a b)
 |_,_=>none
def qlW(o:Bool)(n:Nat)(l:Option (List SV)):Option SV:=
 match l with
 |some l=>some (.ref o n (λj=>l.getD j .top))
 |none=>none
def qci(o:Bool)(hp:Tr 6 XB)(cl:SV→Option SV)(s:SV):Option SV:=
 match s with
 |.val v=>some (.val v)
 |.agg l=>qlV .agg (gM cl l)
 |.tup l=>qlV .tup (gM cl l)
 |.fn f a b=>fnO f (gM cl a) (gM cl b)
 |.vec id n k=>(match hp.find id with
  |some (.rows _ k' n' l)=>Bool.rec none (qak o false n k (gM cl (l.take (n*k)))) (Nat.ble n n'&&Nat.beq k k')
  |_=>none)
 |.cut id n k=>(match hp.find id with
  |some (.rows _ k' n' l)=>Bool.rec none (qak o true n k (gM cl (l.take (n*k)))) (Nat.ble n n'&&Nat.beq k k')
  |_=>none)
 |.asl id off n k=>(match hp.find id with
  |some (.cells _ l)=>Bool.rec none (qak o false n k (gM cl ((l.drop off).take (n*k)))) (Nat.ble (off+n*k) l.length)
  |_=>none)
 |.ptr id off=>(match hp.find id with
  |some (.cells _ l)=>qlW o (l.length - off) (gM cl (l.drop off))
  |_=>none)
 |.arr o' full n k row=>Bool.rec none (qak o full n k (gM cl (wM row k n))) (Bool.rec true o' o)
 |.ref o' n row=>Bool.rec none (qlW o n (gM cl (sel row 0 n))) (Bool.rec true o' o)
 |_=>some .top
def QC(o:Bool)(hp:Tr 6 XB)(n:Nat):SV→Option SV:=Nat.rec (λ_=>some .top) (λ_ ih=>qci o hp ih) n
section
variable{H:List (Nat×Blk)}{hp:Tr 6 XB}{LM:Nat→Option Loop}
def OF(o:Bool)(s:SV):Prop:=(o=false→Old s)∧(o=true→Fresh s)
def OFL(o:Bool)(s:List SV):Prop:=(o=false→OldL s)∧(o=true→FreshL s)
theorem zG{o:Bool}{cl:SV→Option SV}(hcl:∀s s',cl s=some s'→Sub H s' s∧OF o s'):∀{l l':List SV},gM cl l=some l'→SubL H l' l∧OFL o l'∧l'.length=l.length∧∀i,i<l.length→Sub H (l'.getD i .top) (l.getD i .top)∧OF o (l'.getD i .top)
 |[],l',h=>by
  cases h;exact⟨by simp[SubL],⟨λ_=>by simp[OldL],λ_=>by simp[FreshL]⟩,rfl,λi hi=>by simp at hi⟩
 |a :: l,l',h=>by
  have h:(match cl a,gM cl l with
   |some b,some m=>some (b :: m)
   |_,_=>none)=some l':=h
  split at h
  ·rename_i b m hb hm
   cases h;obtain⟨h1,h2⟩:=hcl _ _ hb;obtain⟨g1,g2,g3,g4⟩:=zG hcl hm;refine⟨by simp only[SubL];exact⟨h1,g1⟩,⟨λe=>by simp only[OldL];exact⟨h2.1 e,g2.1 e⟩,λe=>by simp only[FreshL];exact⟨h2.2 e,g2.2 e⟩⟩,by simp[g3],λi hi=>?_⟩;cases i with
   |zero=>exact⟨h1,h2⟩
   |succ i=>exact g4 i Ωah
  ·cases h
theorem WC{o full:Bool}{n k:Nat}(h:∀i,i<n*k→OF o (l.getD i .top)):OF o (.arr o full n k (qqu k l)):=
 ⟨λe=>by simp only[Old];exact⟨e,λi j hi hj=>(h _ (gm hi hj)).1 e⟩,λe=>by simp only[Fresh];exact⟨e,λi j hi hj=>(h _ (gm hi hj)).2 e⟩⟩
theorem qja{o:Bool}{n:Nat}(h:∀i,i<n→OF o (l.getD i .top)):OF o (.ref o n (λj=>l.getD j .top)):=
 ⟨λe=>by simp only[Old];exact⟨e,λj hj=>(h _ hj).1 e⟩,λe=>by simp only[Fresh];exact⟨e,λj hj=>(h _ hj).2 e⟩⟩
theorem qal{a b:Bool}{x:Option α}{y:α}(h:(Bool.rec none x (a&&b):Option α)=some y):a=true∧b=true∧x=some y:=by
 cases a<;>cases b<;>first|exact⟨rfl,rfl,h⟩|cases h
theorem G7{a:Bool}{x:Option α}{y:α}(h:(Bool.rec none x a:Option α)=some y):a=true∧x=some y:=by
 cases a<;>first|exact⟨rfl,h⟩|cases h
theorem yP{m i:Nat}(h:i<m):(l.take m).getD i .top=l.getD i .top:=by
 simp_all
theorem qgp{m i:Nat}:(l.drop m).getD i .top=l.getD (m+i) .top:=by
 simp_all
theorem Z0(hH:HRel LM hp H)(o:Bool):∀(n:Nat)(s s':SV),QC o hp n s=some s'→Sub H s' s∧OF o s'
 |0,s,s',h=>by
  have h:some SV.top=some s':=h;cases h;exact⟨by simp[Sub],⟨λ_=>by simp[Old],λ_=>by simp[Fresh]⟩⟩
 |m+1,s,s',h0=>by
  have h:qci o hp (QC o hp m) s=some s':=h0;clear h0;have ih:=Z0 hH o m;unfold qci at h;split at h
  ·cases h;exact⟨by simp[Sub],⟨λ_=>by simp[Old],λ_=>by simp[Fresh]⟩⟩
  ·unfold qlV at h
   split at h
   ·rename_i l' hl
    cases h;obtain⟨h1,h2,_⟩:=zG ih hl;exact⟨by simp only[Sub];exact h1,⟨λe=>by simp only[Old];exact h2.1 e,λe=>by simp only[Fresh];exact h2.2 e⟩⟩
   ·cases h
  ·unfold qlV at h
   split at h
   ·rename_i l' hl
    cases h;obtain⟨h1,h2,_⟩:=zG ih hl;exact⟨by simp only[Sub];exact h1,⟨λe=>by simp only[Old];exact h2.1 e,λe=>by simp only[Fresh];exact h2.2 e⟩⟩
   ·cases h
  ·unfold fnO at h
   split at h
   ·rename_i a' b' ha hb
    cases h;obtain⟨h1,h2,_⟩:=zG ih ha;obtain⟨g1,g2,_⟩:=zG ih hb;exact⟨by simp only[Sub];exact⟨trivial,h1,g1⟩,⟨λe=>by simp only[Old];exact⟨h2.1 e,g2.1 e⟩,λe=>by simp only[Fresh];exact⟨h2.2 e,g2.2 e⟩⟩⟩
   ·cases h
  ·split at h
   ·rename_i id n k _ _ k' n' l hb
    obtain⟨q1,q2,p⟩:=qal h;clear h;have q1:=xa7 q1;have q2:=xa6 q2;subst q2;unfold qak at p;split at p
    ·rename_i l' hl
     cases p;obtain⟨_,_,h3,h4⟩:=zG ih hl;obtain⟨row,hb,hr⟩:=hH.rows hb;have hlen:(l.take (n*k)).length=n*k:=(hr.take q1).1;refine⟨?_,WC λi hi=>(h4 i Ω).2⟩;simp only[Sub,hb];refine⟨trivial,trivial,trivial,q1,trivial,λi j hi hj=>?_⟩;have:=(h4 (i*k+j) (by rw[hlen];exact gm hi hj)).1;rw[yP (gm hi hj)]at this;rw[hr.2 i j Ω hj];exact this
    ·cases p
   ·cases h
  ·split at h
   ·rename_i id n k _ _ k' n' l hb
    obtain⟨q1,q2,p⟩:=qal h;clear h;have q1:=xa7 q1;have q2:=xa6 q2;subst q2;unfold qak at p;split at p
    ·rename_i l' hl
     cases p;obtain⟨_,_,h3,h4⟩:=zG ih hl;obtain⟨row,hb,hr⟩:=hH.rows hb;have hlen:(l.take (n*k)).length=n*k:=(hr.take q1).1;refine⟨?_,WC λi hi=>(h4 i Ω).2⟩;simp only[Sub,hb];refine⟨trivial,trivial,q1,trivial,λi j hi hj=>?_⟩;have:=(h4 (i*k+j) (by rw[hlen];exact gm hi hj)).1;rw[yP (gm hi hj)]at this;rw[hr.2 i j Ω hj];exact this
    ·cases p
   ·cases h
  ·split at h
   ·rename_i id off n k _ _ l hb
    obtain⟨q1,p⟩:=G7 h;clear h;have q1:=xa7 q1;unfold qak at p;split at p
    ·rename_i l' hl
     cases p;obtain⟨_,_,h3,h4⟩:=zG ih hl;have hlen:((l.drop off).take (n*k)).length=n*k:=by rw[xd9,List.length_drop];omega
     refine⟨?_,WC λi hi=>(h4 i Ω).2⟩;simp only[Sub,hH.cells hb];refine⟨trivial,trivial,trivial,q1,λi j hi hj=>?_⟩;have:=(h4 (i*k+j) (by rw[hlen];exact gm hi hj)).1;rw[yP (gm hi hj),qgp]at this;exact this
    ·cases p
   ·cases h
  ·split at h
   ·rename_i id off _ _ l hb
    unfold qlW at h;split at h
    ·rename_i l' hl
     cases h;obtain⟨_,_,h3,h4⟩:=zG ih hl;have hlen:(l.drop off).length=l.length - off:=List.length_drop;refine⟨?_,qja λi hi=>(h4 i Ω).2⟩;simp only[Sub,hH.cells hb]
     grind
    ·cases h
   ·cases h
  ·rename_i o' full n k row
   obtain⟨q1,p⟩:=G7 h;clear h;unfold qak at p;split at p
   ·rename_i l' hl
    cases p;obtain⟨_,_,h3,h4⟩:=zG ih hl;have hr:=jr row k n;refine⟨?_,WC λi hi=>(h4 i (by rw[hr.1];exact hi)).2⟩;simp only[Sub];refine⟨λe=>by rw[e]at q1;exact q1,id,trivial,trivial,λi j hi hj=>?_⟩;have:=(h4 (i*k+j) (by rw[hr.1];exact gm hi hj)).1;rw[hr.2 i j hi hj];exact this
   ·cases p
  ·rename_i o' n row
   obtain⟨q1,p⟩:=G7 h;clear h;unfold qlW at p;split at p
   ·rename_i l' hl
    cases p;obtain⟨_,_,h3,h4⟩:=zG ih hl;refine⟨?_,qja λi hi=>(h4 i (by rw[gV];exact hi)).2⟩;simp only[Sub];refine⟨λe=>by rw[e]at q1;exact q1,xa5 _,λj hj=>?_⟩;have:=(h4 j (by rw[gV];exact hj)).1;have e2:(sel row 0 n).getD j .top=row j:=by rw[xc6,yu,if_pos hj,xb0];rfl
    simp_all
   ·cases p
  ·cases h
   exact⟨by simp[Sub],⟨λ_=>by simp[Old],λ_=>by simp[Fresh]⟩⟩
def qcj(fr:SV→Bool)(s:SV):Bool:=
 match s with
 |.val _=>true
 |.agg l=>l.all fr
 |.tup l=>l.all fr
 |.fn _ a b=>a.all fr&&b.all fr
 |.arr true _ n k row=>(wM row k n).all fr
 |.ref true n row=>(sel row 0 n).all fr
 |_=>false
def G8(n:Nat):SV→Bool:=Nat.rec (λ_=>false) (λ_ ih=>qcj ih) n
theorem vN{fr:SV→Bool}(hfr:∀s,fr s=true→Fresh s):∀{l:List SV},l.all fr=true→FreshL l
 |[],_=>by simp[FreshL]
 |a :: l,h=>by
  rw[List.all_cons,xe6]at h;simp only[FreshL];exact⟨hfr a h.1,vN hfr h.2⟩
theorem yQ:∀(n:Nat)(s:SV),G8 n s=true→Fresh s
 |0,s,h=>by cases h
 |m+1,s,h0=>by
  have h:qcj (G8 m) s=true:=h0;clear h0;have ih:=yQ m;unfold qcj at h;split at h
  ·simp[Fresh]
  ·simp only[Fresh];exact vN ih h
  ·simp only[Fresh];exact vN ih h
  ·rw[xe6]at h
   simp only[Fresh];exact⟨vN ih h.1,vN ih h.2⟩
  ·rename_i n k row
   have hr:=jr row k n;simp only[Fresh];refine⟨trivial,λi j hi hj=>ih _ ?_⟩;rw[hr.2 i j hi hj,xc6];have hlt:i*k+j<(wM row k n).length:=by rw[hr.1];exact gm hi hj
   simp_all
  ·rename_i n row
   simp only[Fresh];refine⟨trivial,λj hj=>ih _ ?_⟩;have hlt:j<(sel row 0 n).length:=by rw[gV];exact hj
   have e:(sel row 0 n)[j]? = some (row j):=by rw[yu,if_pos hj,xb0]
   grind
  ·cases h
def qdY(u v:Value):Bool:=
 match u with
 |.int k a=>(match v with|.int k' b=>eqKind k k'&&JJ a b|_=>false)
 |.pointer none=>(match v with|.pointer none=>true|_=>false)
 |.slice none 0 0=>(match v with|.slice none 0 0=>true|_=>false)
 |.nilFunc=>(match v with|.nilFunc=>true|_=>false)
 |u=>eqK u v
theorem qam{u v:Value}(h:qdY u v=true):u=v:=by
 unfold qdY at h;split at h
 ·split at h
  ·rw[xe6,yK,decide_eq_true_eq]at h
   rw[vw h.1,h.2]
  ·cases h
 ·grind
 ·grind
 ·grind
 ·exact zz h
def mtL(m:SV→SV→Bool)(l:List SV):List SV→Bool:=List.rec (motive:=λ_=>List SV→Bool) (λl'=>List.rec true (λ_ _ _=>false) l') (λa _ ih l'=>List.rec false (λb l' _=>Bool.rec false (ih l') (m a b)) l') l
def mtR(m:SV→SV→Bool)(hp:Tr 6 XB)(o:Bool)(n k:Nat)(row:Nat→Nat→SV)(x:SV):Bool:=
 match x with
 |.vec id n1 k1=>(match hp.find id with
  |some (.rows _ k' n' l)=>Nat.beq n n1&&(Nat.beq k k1&&(Nat.beq k1 k'&&(Nat.ble n n'&&mtL m (wM row k n) (l.take (n*k)))))
  |_=>false)
 |.asl id off n1 k1=>(match hp.find id with
  |some (.cells _ l)=>Nat.beq n n1&&(Nat.beq k k1&&(Nat.ble (off+n*k) l.length&&mtL m (wM row k n) ((l.drop off).take (n*k))))
  |_=>false)
 |.arr o' _ n1 k1 row1=>Nat.beq n n1&&(Nat.beq k k1&&((Bool.rec true o' o:Bool)&&mtL m (wM row k n) (wM row1 k n)))
 |_=>false
def mtS(m:SV→SV→Bool)(hp:Tr 6 XB)(p x:SV):Bool:=
 match p with
 |.top=>true
 |.val u=>(match x with|.val v=>qdY u v|_=>false)
 |.agg l=>(match x with|.agg l'=>mtL m l l'|_=>false)
 |.tup l=>(match x with|.tup l'=>mtL m l l'|_=>false)
 |.arr o false n k row=>mtR m hp o n k row x
 |_=>false
def mtX(hp:Tr 6 XB)(n:Nat):SV→SV→Bool:=Nat.rec (λ_ _=>false) (λ_ ih=>mtS ih hp) n
theorem QD{m:SV→SV→Bool}(hm:∀p x,m p x=true→Sub H p x):∀{l l':List SV},mtL m l l'=true→SubL H l l'∧l.length=l'.length∧∀i,i<l.length→Sub H (l.getD i .top) (l'.getD i .top)
 |[],[],_=>⟨by simp[SubL],rfl,λi hi=>by simp at hi⟩
 |[],b :: l',h=>by cases h
 |a :: l,[],h=>by cases h
 |a :: l,b :: l',h=>by
  have h:(Bool.rec false (mtL m l l') (m a b):Bool)=true:=h;cases q:m a b with
  |false=>rw[q]at h;cases h
  |true=>
   rw[q]at h;obtain⟨h1,h2,h3⟩:=QD hm h;refine⟨by simp only[SubL];exact⟨hm _ _ q,h1⟩,by simp[h2],λi hi=>?_⟩;cases i with
   |zero=>exact hm _ _ q
   |succ i=>exact h3 i Ωah
theorem qck(hH:HRel LM hp H):∀(n:Nat)(p x:SV),mtX hp n p x=true→Sub H p x
 |0,p,x,h=>by cases h
 |n+1,p,x,h0=>by
  have h:mtS (mtX hp n) hp p x=true:=h0;clear h0;have ih:=qck hH n;unfold mtS at h;split at h
  ·simp[Sub]
  ·split at h
   ·rw[qam h];simp[Sub]
   ·cases h
  ·split at h
   ·simp only[Sub];exact(QD ih h).1
   ·cases h
  ·split at h
   ·simp only[Sub];exact(QD ih h).1
   ·cases h
  ·rename_i o n0 k row
   have hr0:=jr row k n0;have pr:∀i j,i<n0→j<k→(wM row k n0).getD (i*k+j) .top=row i j:=λi j hi hj=>(hr0.2 i j hi hj).symm;have hln:∀i j,i<n0→j<k→i*k+j<(wM row k n0).length:=λi j hi hj=>by rw[hr0.1];exact gm hi hj
   unfold mtR at h;split at h
   ·split at h
    ·rename_i id n1 k1 _ _ k' n' l hb
     simp only[xe6,Nat.beq_eq,Nat.ble_eq]at h;obtain⟨rfl,rfl,rfl,h4,h5⟩:=h;obtain⟨row',hb,hr⟩:=hH.rows hb;obtain⟨_,_,h7⟩:=QD ih h5;simp only[Sub,hb];refine⟨trivial,trivial,trivial,h4,trivial,λi j hi hj=>?_⟩;have:=h7 (i*k+j) (hln i j hi hj);rw[pr i j hi hj,yP (gm hi hj)]at this;rw[hr.2 i j Ω hj];exact this
    ·cases h
   ·split at h
    ·rename_i id off n1 k1 _ _ l hb
     simp only[xe6,Nat.beq_eq,Nat.ble_eq]at h;obtain⟨rfl,rfl,h4,h5⟩:=h;obtain⟨_,_,h7⟩:=QD ih h5;simp only[Sub,hH.cells hb]
     grind
    ·cases h
   ·rename_i o' full n1 k1 row1
    simp only[xe6,Nat.beq_eq]at h;obtain⟨rfl,rfl,h4,h5⟩:=h;obtain⟨_,_,h7⟩:=QD ih h5;have hr1:=jr row1 k n0;simp only[Sub];refine⟨λe=>(by rw[e]at h4;exact h4),λe=>(by cases e),trivial,trivial,λi j hi hj=>?_⟩;have:=h7 (i*k+j) (hln i j hi hj);rw[pr i j hi hj,←hr1.2 i j hi hj]at this;exact this
   ·cases h
  ·cases h
def Vq(hp:Tr 6 XB)(args:List SV)(l:List (List SV×α)):Option α:=List.rec none (λp _ ih=>Bool.rec ih (some p.2) (mtL (mtX hp 5) p.1 args)) l
theorem ym{α:Type}(hH:HRel LM hp H){args:List SV}:∀{l:List (List SV×α)}{s:α},Vq hp args l=some s→∃qq_,(qq_,s)∈l∧SubL H qq_ args
 |[],s,h=>by cases h
 |p :: l,s,h=>by
  have h:(Bool.rec (Vq hp args l) (some p.2) (mtL (mtX hp 5) p.1 args):Option α)=some s:=h;cases q:mtL (mtX hp 5) p.1 args with
  |false=>
   rw[q]at h;obtain⟨qq_,h1,h2⟩:=ym hH h
   grind
  |true=>
   rw[q]at h;have h:some p.2=some s:=h;cases h;exact⟨p.1,xd5,(QD (qck hH 5) q).1⟩
end
end
end Go.Sx
end
section
namespace Go.Sx
open Go.RowKit
noncomputable section
variable{fr:Tr 3 SV}{d:Option Tmp}{s:SV}{g:Tr 3 SV→Tr 6 XB→Nat→R}{hp hp':Tr 6 XB}{nid:Nat}{st:St}{H:List (Nat×Blk)}{K:St→Prop}{args:List SV}
variable{ρ:Q}
abbrev XK:=Ex→Tr 3 SV→Tr 6 XB→Nat→R
inductive CX:Type
 |top
 |rnd
 |gen (y:Nat) (L:List (Nat×List (Nat×Nat))) (fr:Tr 3 SV) (ps:List Tmp) (a b:Code)
abbrev FL:=List (Nat×List (Nat×Nat))
abbrev XC:=FL→CX→Code→Tr 3 SV→Tr 6 XB→Nat→XK→R
section
variable{P:Program}{E:XE}{LM:Nat→Option Loop}
def StR(LM:Nat→Option Loop)(fr:Tr 3 SV)(hp:Tr 6 XB)(nid:Nat)(st:St):Prop:=FRel fr st.fr∧HRel LM hp st.hp∧st.nid=nid
def putD(d:Option Tmp)(s:SV)(fr:Tr 3 SV)(g:Tr 3 SV→R):R:=
 match d with
 |none=>g fr
 |some d=>zf (some s) 12 fr d g
theorem FRel.put{fr':Tr 3 SV}{F:List (Nat×SV)}{d:Nat}(h:FRel fr F)(hp:qio fr fr' d (some s)):FRel fr' (putFr F d s):=λt=>by
 rw[zn];unfold qy;rw[hp t];by_cases c:t=d
 ·simp_all
 ·rw[if_neg c,if_neg c];exact h t
theorem kQ{g:Tr 3 SV→R}(h:putD d s fr g=.ok ρ)(hs:StR LM fr hp nid st):∃fr',StR LM fr' hp nid (st.put d s)∧g fr'=.ok ρ:=by
 unfold putD at h;cases d with
 |none=>exact⟨fr,hs,h⟩
 |some d=>
  obtain⟨fr',h1,h2⟩:=qC _ _ _ _ h;exact⟨fr',⟨hs.1.put h1,hs.2.1,hs.2.2⟩,h2⟩
theorem HRel.cons(h:HRel LM hp H){id:Nat}{b:XB}{b':Blk}(hb:BRel (LM id) b b')(hp:qio hp hp' id (some b)):HRel LM hp' ((id,b') :: H):=λj x hj=>by
 rw[hp j]at hj;by_cases c:j=id
 ·rw[if_pos c]at hj;cases hj;exact⟨b',by simp only[blk];rw[if_pos c],c▸hb⟩
 ·rw[if_neg c]at hj;simp only[blk];rw[if_neg c];exact h j x hj
theorem HRel.set(h:HRel LM hp H){id:Nat}{b y:XB}{b':Blk}(hb:BRel (LM id) b b')(hy:hp.find id=some y)(hp:qio hp hp' id (some b)):HRel LM hp' (setBlk H id b'):=λj x hj=>by
 rw[hp j]at hj;rw[qq];by_cases c:j=id
 ·rw[if_pos c]at hj;cases hj
  obtain⟨z,hz,_⟩:=h id y hy
  simp_all
 ·rw[if_neg c]at hj;rw[if_neg c];exact h j x hj
theorem HRel.drop(h:HRel LM hp H){id:Nat}(hp:qio hp hp' id none):HRel LM hp' (dropBlk H id):=λj x hj=>by
 rw[hp j]at hj;rw[qv];by_cases c:j=id
 ·simp_all
 ·rw[if_neg c]at hj;rw[if_neg c];exact h j x hj
structure qjb(P:Program)(g:Nat)(fn:Func)(L:FL)(c:Code):Prop where
 at_:P.funcs[g]? = some fn
 body:fn.body=some c
 name : (fn.name == "runtime.NumGoroutine") = false
 ok:qJ (qV L) fn.ntmps c=true
def WD(l:List SV):Nat→Tr 3 SV→(Tr 3 SV→R)→R:=
 List.rec (motive:=λ_=>Nat→Tr 3 SV→(Tr 3 SV→R)→R) (λ_ t g=>g t) (λa _ ih i t g=>zf (some a) 12 t i λt=>qm (Nat.succ i) λi=>ih i t g) l
theorem qdZ:∀(l:List SV)(i:Nat)(t:Tr 3 SV)(g:Tr 3 SV→R),WD l i t g=.ok ρ→∃t',(∀j,qy t' j=if j<i then qy t j else if j<i+l.length then l.getD (j - i) .top else qy t j)∧g t'=.ok ρ
 |[],i,t,g,h=>⟨t,λj=>by
   by_cases c:j<i
   ·rw[if_pos c]
   ·rw[if_neg c,if_neg (by simpa using c)],h⟩
 |a :: l,i,t,g,h=>by
  have h:zf (some a) 12 t i (λt=>qm (Nat.succ i) λi=>WD l i t g)=.ok ρ:=h;obtain⟨t1,h1,h⟩:=qC _ _ _ _ h;rw[qj]at h;obtain⟨t2,h2,h⟩:=qdZ l _ _ _ h;refine⟨t2,λj=>?_,h⟩;rw[h2 j];have e1:qy t1 j=if j=i then a else qy t j:=by
   unfold qy;rw[h1 j];by_cases c:j=i
   ·simp_all
   ·simp_all
  rw[e1];by_cases c:j<i
  ·grind
  ·grind
theorem yR{l:List SV}{g:Tr 3 SV→R}(h:WD l 0 .nil g=.ok ρ):∃t',FRel t' (argFr 0 l)∧g t'=.ok ρ:=by
 obtain⟨t',h1,h2⟩:=qdZ l 0 .nil g h;refine⟨t',λj=>?_,h2⟩;rw[h1 j,GD,if_neg (Nat.not_lt_zero j),if_neg (Nat.not_lt_zero j),Nat.sub_zero];by_cases c:j<0+l.length
 ·rw[if_pos c]
 ·rw[if_neg c,xc6,List.getElem?_eq_none Ω];unfold qy;rw[Q9];rfl
def qlX(E:XE)(fr:Tr 3 SV)(hp:Tr 6 XB)(rv:ResultVar)(g:SV→R):R:=
 match rv with
 |.tmp t=>g (qy fr t)
 |.cell t ty=>YY E hp ty (qy fr t) λx=>(match x with|.pure s=>g s|_=>.bad 300 0)
def yn(E:XE)(fr:Tr 3 SV)(hp:Tr 6 XB)(l:List ResultVar):(List SV→R)→R:=
 List.rec (motive:=λ_=>(List SV→R)→R) (λg=>g []) (λrv _ ih g=>qlX E fr hp rv λs=>svK s λs=>ih λm=>g (s :: m)) l
theorem qlY(hE:XOk P E)(hs:StR LM fr hp nid st){rv:ResultVar}{g:SV→R}{K:SV→Prop}(h:qlX E fr hp rv g=.ok ρ)(hk:∀s,g s=.ok ρ→K s):resultVC P rv st K:=by
 unfold qlX at h;split at h
 ·show K (look st.fr _)
  rw[hs.1];exact hk _ h
 ·rename_i t ty
  show match rLoad (qn P ty) st.hp (look st.fr t)with
   |.pure obl sv=>obl∧K sv
   |.ex obl=>∃sv,obl sv∧K sv
   |_=>False
  rw[hs.1];obtain⟨x,h1,h2⟩:=YZ (id:=0) hE hs.2.1 h;cases x<;>simp only[reduceCtorEq]at h2
  rename_i s;rcases h1 with⟨obl,e,ho⟩|⟨obl,e,ho⟩
  ·simp_all
  ·grind
theorem yS(hE:XOk P E){fr:Tr 3 SV}{hp:Tr 6 XB}{nid:Nat}{st:St}(hs:StR LM fr hp nid st):∀{l:List ResultVar}{g:List SV→R}{K:List SV→Prop},yn E fr hp l g=.ok ρ→(∀m,g m=.ok ρ→K m)→resultsVC P l st K
 |[],g,K,h,hk=>hk [] h
 |rv :: l,g,K,h,hk=>by
  have h:qlX E fr hp rv (λs=>svK s λs=>yn E fr hp l λm=>g (s :: m))=.ok ρ:=h;refine qlY hE hs h λs h=>?_;rw[Qx]at h;exact yS hE hs h λm h=>hk _ h
theorem QE {O : Ctx} (far : Nat → List (Nat × Nat)) (hm : P.follows .mixedOrders = true) {f : FuncId} {fn : Func} {c : Code} (hf : P.funcs[f]? = some fn) (hb : fn.body = some c) (hname : (fn.name == "runtime.NumGoroutine") = false) (hok : qJ far fn.ntmps c = true) {args : List SV} (hlen : args.length ≤ fn.ntmps) {st : St} {K : St → SV → Prop}
  (h:∀out:List Fr,vc P ⟨out,st.nid,false,far⟩ c ⟨argFr 0 args,st.hp,st.nid⟩ (λe st'=>match e with|.exit _=>False|_=>resultsVC P fn.results.toList st' (λm=>K ⟨st.fr,st'.hp,st'.nid⟩ (oneSV m)))):ky P O f args st K:=by
 intro base okc ns r outs a w vs h0 hl ha;refine⟨gF hf hb hname vs w,?_⟩;refine kD hm hf hb hok (O:=⟨⟨st.fr,none,ns,st.nid⟩ :: O.fs,st.nid,false,far⟩) (outs:=⟨a :: outs.as,r⟩) (base:=base) (okc:=okc) (st0:=⟨argFr 0 args,st.hp,st.nid⟩) rfl (Post:=λst' m=>K ⟨st.fr,st'.hp,st'.nid⟩ (oneSV m))
  ⟨r,h0.pushF far none (λ_ h=>by cases h) false (yH hl Ω ha) Ωj rfl⟩ (h _) λst' r' a' w' m us hP hi hml hreps=>?_
 exact⟨_,⟨st.fr,st'.hp,st'.nid⟩,r',oneSV m,rfl,hP,hi.lo,hi.popF h0,vC hml hreps⟩
def wJ(P:Program)(E:XE):Prop:=∀g fn L,E.fns g=some (fn,L)→∃c,qjb P g fn L c
def qgq(LM:Nat→Option Loop)(fs:List Fr)(rnd:Bool):CX→Prop
 |.top=>rnd=false
 |.rnd=>rnd=true
 |.gen y L0 fr ps a b=>rnd=false∧∃L F,LM y=some L∧FRel fr F∧GM (qV L0) fs L F ps a b
def vo(P:Program)(run:XC):Prop:=∀(ρ:Q)(LM:Nat→Option Loop)(fs:List Fr)(lo:Nat)(rnd:Bool)(L:FL)(cx:CX)(c:Code)(st:St)(fr:Tr 3 SV)(hp:Tr 6 XB)(nid:Nat)(f:XK)(K:Ex→St→Prop),qgq LM fs rnd cx→StR LM fr hp nid st→run L cx c fr hp nid f=.ok ρ→
 (∀e fr' hp' nid' st',StR LM fr' hp' nid' st'→f e fr' hp' nid'=.ok ρ→K e st')→vc P ⟨fs,lo,rnd,qV L⟩ c st K
def qrz(E:XE)(rs:List ResultVar)(d:Option Tmp)(fr:Tr 3 SV)(g:Tr 3 SV→Tr 6 XB→Nat→R):XK
 |.exit _,_,_,_=>.bad 301 0
 |.normal,fr3,hp3,nid3=>yn E fr3 hp3 rs λm=>svK (oneSV m) λs=>putD d s fr λfr=>g fr hp3 nid3
 |.ret,fr3,hp3,nid3=>yn E fr3 hp3 rs λm=>svK (oneSV m) λs=>putD d s fr λfr=>g fr hp3 nid3
def qjc(E:XE)(run:XC)(fn:Func)(L:FL)(d:Option Tmp)(args:List SV)(fr:Tr 3 SV)(hp:Tr 6 XB)(id:Nat)(g:Tr 3 SV→Tr 6 XB→Nat→R):R:=
 match fn.body with
 |some c=>ql 302 (Nat.ble args.length fn.ntmps) (WD args 0 .nil λfr2=>run L .top c fr2 hp id (qrz E fn.results.toList d fr g))
 |none=>.bad 303 0
def qcl(ps:List Tmp):List SV→Tr 3 SV→(Tr 3 SV→R)→R:=
 List.rec (motive:=λ_=>List SV→Tr 3 SV→(Tr 3 SV→R)→R) (λ_ t g=>g t) (λp _ ih qq_ t g=>match qq_ with
  |[]=>.bad 340 0
  |a :: qq_=>zf (some a) 12 t p λt=>ih qq_ t g) ps
theorem Vr:∀{ps:List Tmp}{qq_:List SV}{t:Tr 3 SV}{F:List (Nat×SV)}{g:Tr 3 SV→R},FRel t F→qcl ps qq_ t g=.ok ρ→∃t',FRel t' (putPs F ps qq_)∧g t'=.ok ρ
 |[],qq_,t,F,g,hF,h=>⟨t,(by cases qq_<;>exact hF),h⟩
 |p :: ps,[],t,F,g,hF,h=>by cases h
 |p :: ps,a :: qq_,t,F,g,hF,h=>by
  have h:zf (some a) 12 t p (λt=>qcl ps qq_ t g)=.ok ρ:=h;obtain⟨t1,h1,h⟩:=qC _ _ _ _ h;exact Vr (ps:=ps) (qq_:=qq_) (hF.put h1) h
def qnQ(y:Nat)(d:Option Tmp)(fr:Tr 3 SV)(g:Tr 3 SV→Tr 6 XB→Nat→R)(e:Ex)(hp:Tr 6 XB)(nid:Nat):R:=
 match hp.find y with
 |some (.loop .busy)=>(match e with
  |.normal=>zf (some (.loop .ready)) 22 hp y λhp=>putD d (.val (.bool true)) fr λfr=>g fr hp nid
  |.ret=>zf (some (.loop .retd)) 22 hp y λhp=>putD d (.val (.bool false)) fr λfr=>g fr hp nid
  |.exit i=>zf (some (.loop (.left i))) 22 hp y λhp=>putD d (.val (.bool false)) fr λfr=>g fr hp nid)
 |_=>.bad 341 0
def qnR(run:XC)(L:FL)(y:Nat)(b:Code)(d:Option Tmp)(fr:Tr 3 SV)(g:Tr 3 SV→Tr 6 XB→Nat→R):XK
 |.normal,fr1,hp1,nid1=>(match hp1.find y with
  |some (.loop .ready)=>zf (some (.loop .busy)) 22 hp1 y λhp2=>run L .rnd b fr1 hp2 nid1 λe _ hp nid=>qnQ y d fr g e hp nid
  |_=>.bad 342 0)
 |_,_,_,_=>.bad 343 0
def qcm(run:XC)(cx:CX)(d:Option Tmp)(y:Nat)(args:List SV)(fr:Tr 3 SV)(hp:Tr 6 XB)(id:Nat)(g:Tr 3 SV→Tr 6 XB→Nat→R):R:=
 match cx with
 |.gen y0 L fr0 ps a b=>ql 344 (Nat.beq y y0) (ql 345 (Nat.beq args.length ps.length) (match hp.find y with
  |some (.loop .ready)=>qcl ps args fr0 λfr2=>run L .rnd a fr2 hp id (qnR run L y b d fr g)
  |_=>.bad 346 0))
 |_=>.bad 347 0
theorem HRel.loop(h:HRel LM hp H){y:Nat}{s:RSt}{L:Loop}(e:hp.find y=some (.loop s))(hL:LM y=some L):blk H y=some (.loop L s):=by
 obtain⟨b',h1,h2⟩:=h _ _ e;cases b'<;>simp only[BRel]at h2
 simp_all
variable{run:XC}
theorem qgr(hm:P.follows .mixedOrders=true)(hrun:vo P run){fs:List Fr}{lo:Nat}{rnd:Bool}{far:Nat→List (Nat×Nat)}{cx:CX}(hcx:qgq LM fs rnd cx){y:Nat}{id:Nat}(hs:StR LM fr hp nid st)(h:qcm run cx d y args fr hp id g=.ok ρ)
  (hk:∀fr' hp' nid' st',StR LM fr' hp' nid' st'→g fr' hp' nid'=.ok ρ→K st'):wd P ⟨fs,lo,rnd,far⟩ y args ⟨st.fr,st.hp,id⟩ λst' res=>K (st'.put d res):=by
 unfold qcm at h;split at h
 ·rename_i y0 L0 fr0 ps a b
  obtain⟨q1,p1⟩:=qe h;obtain⟨q2,p2⟩:=qe p1;have q1:=xa6 q1;have q2:=xa6 q2;subst q1;obtain⟨_,L,F,hL,hF,hR⟩:=hcx;split at p2
  ·rename_i hb
   obtain⟨fr2,h2,h⟩:=Vr hF p2;refine Ve hm hR (hs.2.1.loop hb hL) q2 λout=>?_;refine hrun ρ LM _ _ _ L0 .rnd a ⟨_,_,_⟩ fr2 hp id _ _ rfl ⟨h2,hs.2.1,rfl⟩ h λe fr1 hp1 nid1 st1 hs1 h1=>?_;unfold qnR at h1;split at h1
   ·split at h1
    ·rename_i hb1
     have hb1':=hs1.2.1.loop hb1 hL;obtain⟨hp2,p2,h1⟩:=qC _ _ _ _ h1;refine⟨by rw[hb1'];rfl,?_⟩;refine hrun ρ LM _ _ _ L0 .rnd b ⟨_,_,_⟩ _ hp2 _ _ _ rfl ⟨hs1.1,hs1.2.1.set (b:=.loop .busy) (b':=.loop L .busy) ⟨rfl,hL⟩ hb1 p2,hs1.2.2⟩ h1 λe fr3 hp3 nid3 st3 hs3 h3=>?_;unfold qnQ at h3;split at h3
     ·rename_i hb3
      have hb3':=hs3.2.1.loop hb3 hL;refine⟨by rw[hb3'];rfl,?_⟩;have fin:∀(s:RSt)(b:Bool),(zf (some (.loop s)) 22 hp3 y λhp=>putD d (.val (.bool b)) fr λfr=>g fr hp nid3)=.ok ρ→K (St.put ⟨st.fr,setBlk st3.hp y (.loop L s),st3.nid⟩ d (.val (.bool b))):=by
       intro s b h;obtain⟨hp4,p4,h⟩:=qC _ _ _ _ h;obtain⟨fr',g1,g2⟩:=kQ (LM:=LM) (st:=⟨st.fr,setBlk st3.hp y (.loop L s),st3.nid⟩) h ⟨hs.1,hs3.2.1.set (b:=.loop s) (b':=.loop L s) ⟨rfl,hL⟩ hb3 p4,hs3.2.2⟩
       grind
      cases e with
      |normal=>exact fin _ _ h3
      |ret=>exact fin _ _ h3
      |exit i=>exact fin _ _ h3
     ·cases h3
    ·cases h1
   ·cases h1
  ·cases p2
 ·cases h
def qlZ(E:XE)(h0:Nat)(rs:List ResultVar):XK
 |.exit _,_,_,_=>.bad 370 0
 |.normal,fr,hp,_=>yn E fr hp rs λm=>(match QC true hp 5 (oneSV m)with|some s=>.ok (.mk s .nil 0)|none=>.bad 371 h0)
 |.ret,fr,hp,_=>yn E fr hp rs λm=>(match QC true hp 5 (oneSV m)with|some s=>.ok (.mk s .nil 0)|none=>.bad 371 h0)
def qnS(fr:Tr 3 SV)(hp:Tr 6 XB)(nid:Nat)(d:Option Tmp)(g:Tr 3 SV→Tr 6 XB→Nat→R)(r:R):R:=
 match r with
 |.ok (.mk s _ _)=>ql 373 (G8 5 s) (putD d s fr λfr=>g fr hp nid)
 |.bad c i=>.bad c i
def qjd(n:Nat)(i:Sh)(args:List SV)(d:Option Tmp)(fr:Tr 3 SV)(hp:Tr 6 XB)(nid:Nat)(g:Tr 3 SV→Tr 6 XB→Nat→R):R:=
 ql 376 (Nat.beq args.length n) (match i.sv args with
  |some s=>putD d s fr λfr=>g fr hp nid
  |none=>.bad 377 0)
theorem qje{h0 n:Nat}{i:Sh}(hp0:Ke P h0 n i)(hs:StR LM fr hp nid st)(h:qjd n i args d fr hp nid g=.ok ρ)
  (hk:∀fr' hp' nid' st',StR LM fr' hp' nid' st'→g fr' hp' nid'=.ok ρ→K st'):VT P st.hp h0 args (λr=>K (st.put d r)):=by
 unfold qjd at h;obtain⟨q,p⟩:=qe h;have q:=xa6 q;split at p
 ·rename_i s ha
  obtain⟨fr',k1,k2⟩:=kQ p hs;exact⟨s,.inr ⟨i,by rw[q];exact hp0,ha⟩,hk _ _ _ _ k1 k2⟩
 ·cases p
def qjf(E:XE)(run:XC)(h0:Nat)(fn:Func)(L:FL)(d:Option Tmp)(qq_:Option (List SV))(fr:Tr 3 SV)(hp:Tr 6 XB)(nid:Nat)(g:Tr 3 SV→Tr 6 XB→Nat→R):R:=
 match fn.body,qq_ with
 |some c,some qq_=>ql 374 (Nat.ble qq_.length fn.ntmps) (qnS fr hp nid d g (WD qq_ 0 .nil λfr2=>run L .top c fr2 .nil 0 (qlZ E h0 fn.results.toList)))
 |_,_=>.bad 375 h0
theorem qjg(hm:P.follows .mixedOrders=true)(hE:XOk P E)(hrun:vo P run){h0:Nat}{fn:Func}{L:FL}{c:Code}(hc:qjb P h0 fn L c)(hs:StR LM fr hp nid st)(h:qjf E run h0 fn L d (gM (QC false hp 5) args) fr hp nid g=.ok ρ)
  (hk:∀fr' hp' nid' st',StR LM fr' hp' nid' st'→g fr' hp' nid'=.ok ρ→K st'):VT P st.hp h0 args (λr=>K (st.put d r)):=by
 unfold qjf at h;rw[hc.body]at h;split at h
 ·rename_i c' qq_ hb has
  cases hb;obtain⟨q,h⟩:=qe h;obtain⟨g1,g2,_⟩:=zG (Z0 hs.2.1 false 5) has;unfold qnS at h;split at h
  ·rename_i s hp0 n0 hr
   obtain⟨q2,h⟩:=qe h;obtain⟨fr',k1,k2⟩:=kQ h hs;obtain⟨fr2,f1,f2⟩:=yR hr;refine⟨s,.inl ⟨qq_,kP (qV L) hc.at_ hc.body hc.name hm hc.ok qq_ s (xa7 q) (g2.1 rfl) ?_,.inl ⟨g1,yQ 5 s q2⟩⟩,hk _ _ _ _ k1 k2⟩;have key:∀(fr3:Tr 3 SV)(hp3:Tr 6 XB)(nid3:Nat)(st3:St),StR (λ_=>none) fr3 hp3 nid3 st3→yn E fr3 hp3 fn.results.toList (λm=>(match QC true hp3 5 (oneSV m)with|some s=>.ok (.mk s .nil 0)|none=>.bad 371 h0))=.ok (.mk s hp0 n0)→retVC P fn.results.toList st3 s:=λfr3 hp3 nid3 st3 h3 h=>by
    rw[GG];refine yS hE h3 h λm h=>?_;split at h
    ·rename_i s' hs'
     cases h;exact(Z0 h3.2.1 true 5 _ _ hs').1
    ·cases h
   refine hrun _ (λ_=>none) _ _ _ L .top c _ fr2 .nil 0 _ _ rfl ⟨f1,λid b hb=>(by rw[Q9]at hb;cases hb),rfl⟩ f2 λe fr3 hp3 nid3 st3 h3 h=>?_;cases e with
   |exit i=>cases h
   |normal=>exact key _ _ _ _ h3 h
   |ret=>exact key _ _ _ _ h3 h
  ·cases h
 ·cases h
def Zp(E:XE)(run:XC)(cx:CX)(j:Bool)(d:Option Tmp)(id:Nat)(xr:XR)(fr:Tr 3 SV)(hp:Tr 6 XB)(nid:Nat)(g:Tr 3 SV→Tr 6 XB→Nat→R):R:=
 match xr with
 |.pure s=>putD d s fr λfr=>g fr hp nid
 |.new b s=>zf (some b) 22 hp id λhp=>putD d s fr λfr=>g fr hp nid
 |.upd i b s=>(match hp.find i with
  |some _=>zf (some b) 22 hp i λhp=>putD d s fr λfr=>g fr hp nid
  |none=>.bad 304 0)
 |.grow i b s=>ql 305 (!(Nat.beq i id)) (zf none 22 hp i λhp=>zf (some b) 22 hp id λhp=>putD d s fr λfr=>g fr hp nid)
 |.call h args=>(match E.prj h with
  |some (n,i)=>qjd n i args d fr hp nid g
  |none=>match E.orc h with
  |some f=>ql 306 j (f args hp id λs hp nid=>putD d s fr λfr=>g fr hp nid)
  |none=>match Vq hp args (E.ctr h)with
  |some s=>ql 309 (G8 5 s) (putD d s fr λfr=>g fr hp nid)
  |none=>match Vq hp args (E.ctn h)with
  |some (t,k,n,l,s)=>Qb l λl=>zf (some (.rows t k n l)) 22 hp id λhp=>putD d (setId id s) fr λfr=>g fr hp nid
  |none=>match E.fns h with
  |some (fn,L)=>Bool.rec (qjf E run h fn L d (gM (QC false hp 5) args) fr hp nid g) (qjc E run fn L d args fr hp id g) j
  |none=>.bad 307 h)
 |.yield y args=>ql 308 j (qcm run cx d y args fr hp id g)
theorem qma(hm:P.follows .mixedOrders=true)(hE:XOk P E)(hf:wJ P E)(hrun:vo P run){fs:List Fr}{lo:Nat}{rnd:Bool}{far:Nat→List (Nat×Nat)}{cx:CX}(hcx:qgq LM fs rnd cx){j:Bool}{J:Prop}(hj:j=true→J){op:Op}{id:Nat}{xr:XR}{r:Res}(hs:StR LM fr hp nid st)(hh:Hit xr id r)(h:Zp E run cx j d id xr fr hp nid g=.ok ρ)
  (hk:∀fr' hp' nid' st',StR LM fr' hp' nid' st'→g fr' hp' nid'=.ok ρ→K st'):wE P ⟨fs,lo,rnd,far⟩ J op d id st K r:=by
 unfold Zp at h;split at h
 ·obtain⟨fr',h1,h2⟩:=kQ h hs
  rcases hh with⟨obl,rfl,ho⟩|⟨obl,rfl,ho⟩
  ·exact⟨ho,hk _ _ _ _ h1 h2⟩
  ·exact⟨_,ho,hk _ _ _ _ h1 h2⟩
 ·obtain⟨obl,b',mk,rfl,ho,hb,rfl⟩:=hh
  obtain⟨hp',p1,h⟩:=qC _ _ _ _ h;obtain⟨fr',h1,h2⟩:=kQ (st:={ st with hp:=(id,b') :: st.hp }) h ⟨hs.1,hs.2.1.cons hb.any p1,hs.2.2⟩;exact⟨ho,hk _ _ _ _ h1 h2⟩
 ·split at h
  ·rename_i y hy
   obtain⟨hp',p1,h⟩:=qC _ _ _ _ h;rcases hh with⟨obl,b',rfl,ho,hb,rfl⟩|⟨obl,b',rfl,ho,hb⟩
   ·obtain⟨fr',h1,h2⟩:=kQ (st:={ st with hp:=setBlk st.hp _ b' }) h ⟨hs.1,hs.2.1.set hb.any hy p1,hs.2.2⟩
    exact⟨ho,hk _ _ _ _ h1 h2⟩
   ·obtain⟨fr',h1,h2⟩:=kQ (st:={ st with hp:=setBlk st.hp _ b' }) h ⟨hs.1,hs.2.1.set hb.any hy p1,hs.2.2⟩
    exact⟨ho,hk _ _ _ _ h1 h2⟩
  ·cases h
 ·rename_i i b s
  obtain⟨obl,b',mk,rfl,ho,hb,rfl⟩:=hh;obtain⟨q,h⟩:=qe h;have q:i≠id:=λe=>by rw[e,Nat.beq_refl]at q;cases q
  obtain⟨hp1,p1,h⟩:=qC _ _ _ _ h;obtain⟨hp2,p2,h⟩:=qC _ _ _ _ h;obtain⟨fr',h1,h2⟩:=kQ (st:={ st with hp:=(id,b') :: dropBlk st.hp i }) h ⟨hs.1,(hs.2.1.drop p1).cons hb.any p2,hs.2.2⟩;exact⟨⟨ho,q⟩,hk _ _ _ _ h1 h2⟩
 ·rename_i h0 args
  split at h
  ·rename_i n i hp0
   have hh:r=.call h0 args:=hh;subst hh;exact .inl (qje (hE.prj _ _ _ hp0) hs h hk)
  split at h
  ·rename_i f hof
   obtain⟨q,h⟩:=qe h;have hh:r=.call h0 args:=hh;subst hh;refine .inr (.inr ⟨hj q,hE.orc _ _ hof ρ LM _ args hp _ ⟨st.fr,st.hp,id⟩ (λst' res=>K (st'.put d res)) hs.2.1 h λs hp' nid' H' hH' hk'=>?_⟩);obtain⟨fr',h1,h2⟩:=kQ (LM:=LM) (st:=⟨st.fr,H',nid'⟩) hk' ⟨hs.1,hH',rfl⟩
   grind
  split at h
  ·rename_i s hcs
   obtain⟨qq_,h1,h2⟩:=ym hs.2.1 hcs;obtain⟨h3,h⟩:=qe h;have hh:r=.call h0 args:=hh;subst hh;obtain⟨fr',g1,g2⟩:=kQ h hs;exact .inl ⟨s,.inl ⟨qq_,hE.ctr _ _ _ h1,.inl ⟨h2,yQ 5 _ h3⟩⟩,hk _ _ _ _ g1 g2⟩
  split at h
  ·rename_i t k n l s hcs
   obtain⟨qq_,h1,h2⟩:=ym hs.2.1 hcs;obtain⟨row,c1,c2,c3,c4⟩:=hE.ctn _ _ _ _ _ _ _ h1;rw[ku]at h;obtain⟨hp',p1,h⟩:=qC _ _ _ _ h;have hh:r=.call h0 args:=hh;subst hh;obtain⟨fr',g1,g2⟩:=kQ (st:={ st with hp:=(id,.rows t k n row) :: st.hp }) h ⟨hs.1,hs.2.1.cons (b:=.rows t k n l) (b':=.rows t k n row) ⟨rfl,rfl,rfl,c2⟩ p1,hs.2.2⟩;exact .inr (.inl ⟨qq_,_,_,c1,.inl ⟨h2,c3,c4⟩,hk _ _ _ _ g1 g2⟩)
  split at h
  ·rename_i fn L hfn
   obtain⟨c,hc⟩:=hf _ _ _ hfn;cases q:j with
   |false=>
    rw[q]at h;have hh:r=.call h0 args:=hh;subst hh;exact .inl (qjg hm hE hrun hc hs h hk)
   |true=>
   rw[q]at h;have h:qjc E run fn L d args fr hp id g=.ok ρ:=h;unfold qjc at h;rw[hc.body]at h;obtain⟨q2,h⟩:=qe h;obtain⟨fr2,f1,f2⟩:=yR h;have hh:r=.call h0 args:=hh;subst hh;refine .inr (.inr ⟨hj q,QE (qV L) (K:=λst' res=>K (st'.put d res)) hm hc.at_ hc.body hc.name hc.ok (xa7 q2) λout=>?_⟩);have key:∀(fr3:Tr 3 SV)(hp3:Tr 6 XB)(nid3:Nat)(st3:St),StR LM fr3 hp3 nid3 st3→yn E fr3 hp3 fn.results.toList (λm=>svK (oneSV m) λs=>putD d s fr λfr=>g fr hp3 nid3)=.ok ρ→resultsVC P fn.results.toList st3 (λm=>K (St.put ⟨st.fr,st3.hp,st3.nid⟩ d (oneSV m))):=by
    intro fr3 hp3 nid3 st3 h3 h;refine yS hE h3 h λm h=>?_;rw[Qx]at h;obtain⟨fr',g1,g2⟩:=kQ (st:=⟨st.fr,st3.hp,st3.nid⟩) h ⟨hs.1,h3.2.1,h3.2.2⟩
    grind
   refine hrun ρ LM _ _ _ L .top c ⟨argFr 0 args,st.hp,id⟩ fr2 hp id _ _ rfl ⟨f1,hs.2.1,rfl⟩ f2 λe fr3 hp3 nid3 st3 h3 h=>?_;cases e with
   |exit i=>cases h
   |normal=>exact key _ _ _ _ h3 h
   |ret=>exact key _ _ _ _ h3 h
  ·cases h
 ·rename_i y args
  obtain⟨q,h⟩:=qe h;have hh:r=.yield y args:=hh;subst hh;exact⟨hj q,qgr hm hrun hcx hs h hk⟩
def xGo(E:XE)(run:XC)(cx:CX)(j:Bool)(o:Oper)(fr:Tr 3 SV)(hp:Tr 6 XB)(nid i:Nat)(g:Tr 3 SV→Tr 6 XB→Nat→R):R:=
 qm (nid+i) λid=>xOp E fr hp id o.op λxr=>Zp E run cx j o.dst id xr fr hp nid g
def yo(ds:List (Option Tmp))(gd:Option (Nat×Bool))(d:Option Tmp)(fr:Tr 3 SV)(hp:Tr 6 XB)(nid:Nat)(go:R)(g:Tr 3 SV→Tr 6 XB→Nat→R):R:=
 match gd with
 |none=>go
 |some (i,want)=>(match nth ds i with
  |none=>.bad 310 0
  |some t=>(match qy fr t with
   |.val (.bool b)=>Bool.rec (putD d undefSV fr λfr=>g fr hp nid) go (b == want)
   |.val (.tuple _)=>putD d undefSV fr λfr=>g fr hp nid
   |_=>.bad 311 0))
def Zq(E:XE)(run:XC)(cx:CX)(j:Bool)(ds:List (Option Tmp))(ops:List Oper):Nat→Tr 3 SV→Tr 6 XB→Nat→(Tr 3 SV→Tr 6 XB→Nat→R)→R:=
 List.rec (motive:=λ_=>Nat→Tr 3 SV→Tr 6 XB→Nat→(Tr 3 SV→Tr 6 XB→Nat→R)→R) (λ_ fr hp nid g=>g fr hp nid)
  (λo _ ih i fr hp nid g=>yo ds o.guard o.dst fr hp nid (xGo E run cx j o fr hp nid i λfr hp nid=>qm (Nat.succ i) λi=>ih i fr hp nid g) (λfr hp nid=>qm (Nat.succ i) λi=>ih i fr hp nid g)) ops
theorem StR.same(hs:StR LM fr hp nid st){t:Tmp}(e:qy fr t=s):StR LM fr hp nid (st.put (some t) s):=⟨λu=>by
 show look (putFr st.fr t s) u=_;rw[zn];by_cases c:u=t
 ·rw[if_pos c,c,e]
 ·rw[if_neg c];exact hs.1 u,hs.2.1,hs.2.2⟩
theorem KO(hm:P.follows .mixedOrders=true)(hE:XOk P E)(hf:wJ P E){run:XC}(hrun:vo P run){fs:List Fr}{lo:Nat}{rnd:Bool}{far:Nat→List (Nat×Nat)}{cx:CX}(hcx:qgq LM fs rnd cx){j:Bool}{J:Prop}(hj:j=true→J){ds:List (Option Tmp)}:∀{ops:List Oper}{i:Nat}{fr:Tr 3 SV}{hp:Tr 6 XB}{nid:Nat}{g:Tr 3 SV→Tr 6 XB→Nat→R}{st:St}{K:St→Prop},StR LM fr hp nid st→Zq E run cx j ds ops i fr hp nid g=.ok ρ→
  (∀fr' hp' nid' st',StR LM fr' hp' nid' st'→g fr' hp' nid'=.ok ρ→K st')→zc P ⟨fs,lo,rnd,far⟩ J ds ops i st K
 |[],i,fr,hp,nid,g,st,K,hs,h,hk=>hk _ _ _ _ hs h
 |o :: ops,i,fr,hp,nid,g,st,K,hs,h,hk=>by
  have h:yo ds o.guard o.dst fr hp nid (xGo E run cx j o fr hp nid i λfr hp nid=>qm (Nat.succ i) λi=>Zq E run cx j ds ops i fr hp nid g) (λfr hp nid=>qm (Nat.succ i) λi=>Zq E run cx j ds ops i fr hp nid g)=.ok ρ:=h;have next:∀fr' hp' nid' st',StR LM fr' hp' nid' st'→(qm (Nat.succ i) λi=>Zq E run cx j ds ops i fr' hp' nid' g)=.ok ρ→zc P ⟨fs,lo,rnd,far⟩ J ds ops (i+1) st' K:=by
   intro fr' hp' nid' st' hs' h';rw[qj]at h';exact KO hm hE hf hrun hcx hj hs' h' hk
  have go:∀st,StR LM fr hp nid st→xGo E run cx j o fr hp nid i (λfr hp nid=>qm (Nat.succ i) λi=>Zq E run cx j ds ops i fr hp nid g)=.ok ρ→wE P ⟨fs,lo,rnd,far⟩ J o.op o.dst (st.nid+i) st (λst=>zc P ⟨fs,lo,rnd,far⟩ J ds ops (i+1) st K) (stepR P (look st.fr) st.hp o.op):=by
   intro st hs h;unfold xGo at h;rw[qj]at h;obtain⟨xr,h1,h2⟩:=qca hE hs.1.fn hs.2.1 h;rw[hs.2.2];exact qma hm hE hf hrun hcx hj hs h1 h2 next
  have skip:∀st,StR LM fr hp nid st→(putD o.dst undefSV fr λfr=>qm (Nat.succ i) λi=>Zq E run cx j ds ops i fr hp nid g)=.ok ρ→zc P ⟨fs,lo,rnd,far⟩ J ds ops (i+1) (st.put o.dst undefSV) K:=by
   intro st hs h;obtain⟨fr',h1,h2⟩:=kQ h hs
   grind
  unfold zc zp;unfold yo at h;cases hgd:o.guard with
  |none=>rw[hgd]at h;exact go st hs h
  |some x=>
   obtain⟨i0,want⟩:=x;rw[hgd]at h;dsimp only at h ⊢;cases hn:nth ds i0 with
   |none=>rw[hn]at h;cases h
   |some t=>
    rw[hn]at h;dsimp only at h ⊢;rw[hs.1 t];split at h
    ·rename_i b hb
     rw[hb];have hs2:=hs.same hb;cases want<;>cases b<;>(dsimp only at h ⊢)
     ·exact⟨λe=>(by cases e),λ_=>go _ hs2 h⟩
     ·exact⟨λ_=>skip _ hs2 h,λe=>by cases e⟩
     ·exact⟨λe=>(by cases e),λ_=>skip _ hs2 h⟩
     ·exact⟨λ_=>go _ hs2 h,λe=>by cases e⟩
    ·simp_all
    ·cases h
end
end
end Go.Sx
end
section
namespace Go.Sx
open Go.RowKit
noncomputable section
variable{run:XC}{O:Ctx}{op:Op}{hp:Tr 6 XB}{st:St}{K:Ex→St→Prop}{s:SV}{fr:Tr 3 SV}{o:Oper}{H:List (Nat×Blk)}{l:List Oper}
variable{ρ:Q}
def qjh(eq:SV→SV→Bool):List SV→List SV→Bool
 |[],[]=>true
 |a :: l,b :: m=>eq a b&&qjh eq l m
 |_,_=>false
def qoI(eq:SV→SV→Bool)(a b:SV):Bool:=
 match a with
 |.val u=>(match b with|.val v=>qdY u v|_=>false)
 |.ptr i o=>(match b with|.ptr j p=>Nat.beq i j&&Nat.beq o p|_=>false)
 |.elt i k a c=>(match b with|.elt j l b d=>Nat.beq i j&&(Nat.beq k l&&(Nat.beq a b&&Nat.beq c d))|_=>false)
 |.vec i n k=>(match b with|.vec j m l=>Nat.beq i j&&(Nat.beq n m&&Nat.beq k l)|_=>false)
 |.cut i n k=>(match b with|.cut j m l=>Nat.beq i j&&(Nat.beq n m&&Nat.beq k l)|_=>false)
 |.asl i o n k=>(match b with|.asl j p m l=>Nat.beq i j&&(Nat.beq o p&&(Nat.beq n m&&Nat.beq k l))|_=>false)
 |.que i o n k=>(match b with|.que j p m l=>Nat.beq i j&&(Nat.beq o p&&(Nat.beq n m&&Nat.beq k l))|_=>false)
 |.mp i=>(match b with|.mp j=>Nat.beq i j|_=>false)
 |.agg l=>(match b with|.agg m=>qjh eq l m|_=>false)
 |.tup l=>(match b with|.tup m=>qjh eq l m|_=>false)
 |.top=>(match b with|.top=>true|_=>false)
 |_=>false
def qoJ(n:Nat):SV→SV→Bool:=Nat.rec (λ_ _=>false) (λ_ ih=>qoI ih) n
theorem qea{eq:SV→SV→Bool}(h:∀a b,eq a b=true→a=b):∀{l m:List SV},qjh eq l m=true→l=m
 |[],[],_=>rfl
 |[],_ :: _,e=>by cases e
 |_ :: _,[],e=>by cases e
 |a :: l,b :: m,e=>by
  simp only[qjh,xe6]at e;rw[h _ _ e.1,qea h e.2]
theorem qeb:∀(n:Nat)(a b:SV),qoJ n a b=true→a=b
 |0,a,b,h=>by cases h
 |n+1,a,b,h=>by
  have h:qoI (qoJ n) a b=true:=h;have ih:=qeb n;unfold qoI at h;split at h<;>(try split at h)<;>first
   |(cases h;done)
   |(rw[qam h];done)
   |(rw[qea ih h];done)
   |(rw[xa6 h];done)
   |rfl
   |(simp only[xe6,Nat.beq_eq]at h;obtain⟨rfl,rfl⟩:=h;rfl)
   |(simp only[xe6,Nat.beq_eq]at h;obtain⟨rfl,rfl,rfl⟩:=h;rfl)
   |(simp only[xe6,Nat.beq_eq]at h;obtain⟨rfl,rfl,rfl,rfl⟩:=h;rfl)
def qrA(E:XE)(rs:List ResultVar)(g:SV→Tr 6 XB→Nat→R):XK
 |.exit _,_,_,_=>.bad 301 0
 |.normal,fr3,hp3,nid3=>yn E fr3 hp3 rs λm=>svK (oneSV m) λs=>g s hp3 nid3
 |.ret,fr3,hp3,nid3=>yn E fr3 hp3 rs λm=>svK (oneSV m) λs=>g s hp3 nid3
def qnT(E:XE)(run:XC)(fn:Func)(L:FL)(args:List SV)(hp:Tr 6 XB)(id:Nat)(g:SV→Tr 6 XB→Nat→R):R:=
 match fn.body with
 |some c=>ql 302 (Nat.ble args.length fn.ntmps) (WD args 0 .nil λfr2=>run L .top c fr2 hp id (qrA E fn.results.toList g))
 |none=>.bad 303 0
def qnU(n:Nat)(i:Sh)(args:List SV)(g:SV→R):R:=
 ql 376 (Nat.beq args.length n) (match i.sv args with
  |some s=>svK s g
  |none=>.bad 377 0)
def qan(E:XE)(run:XC)(id:Nat)(xr:XR)(hp:Tr 6 XB)(g:SV→Tr 6 XB→Nat→R):R:=
 match xr with
 |.pure s=>g s hp id
 |.new b s=>zf (some b) 22 hp id λhp=>g s hp id
 |.upd i b s=>(match hp.find i with
  |some _=>zf (some b) 22 hp i λhp=>g s hp id
  |none=>.bad 304 0)
 |.grow i b s=>ql 305 (!(Nat.beq i id)) (zf none 22 hp i λhp=>zf (some b) 22 hp id λhp=>g s hp id)
 |.call h args=>(match E.prj h with
  |some (n,i)=>qnU n i args λs=>g s hp id
  |none=>match E.orc h with
  |some f=>f args hp id g
  |none=>match Vq hp args (E.ctr h)with
  |some s=>ql 309 (G8 5 s) (g s hp id)
  |none=>match Vq hp args (E.ctn h)with
  |some (t,k,n,l,s)=>Qb l λl=>zf (some (.rows t k n l)) 22 hp id λhp=>g (setId id s) hp id
  |none=>match E.fns h with
  |some (fn,L)=>qnT E run fn L args hp id g
  |none=>.bad 307 h)
 |.yield _ _=>.bad 381 0
def okQ(s:SV)(hp:Tr 6 XB)(nid:Nat):R:=.ok (.mk s hp nid)
def Kr(E:XE)(run:XC)(id:Nat)(o:Oper)(fr:Tr 3 SV)(hp:Tr 6 XB)(g:SV→Tr 6 XB→Nat→R):R:=
 match (xOp E fr hp id o.op λxr=>qan E run id xr hp okQ)with
 |.ok (.mk s hp nid)=>g s hp nid
 |.bad c i=>.bad c i
def qec(xr:XR):R:=
 match xr with
 |.pure s=>.ok (.mk s .nil 0)
 |_=>.bad 382 0
def G9(k:Value)(l:List Value):Bool:=List.rec false (λa _ ih=>Bool.rec ih true (GS a k)) l
def jD(es:List (Value×Option SV)):List Value→List Value:=List.rec (motive:=λ_=>List Value→List Value) (λ_=>[]) (λp _ ih seen=>Bool.rec (ih seen) (Bool.rec (Option.rec (ih (p.1 :: seen)) (λ_=>p.1 :: ih (p.1 :: seen)) p.2) (ih seen) (G9 p.1 seen)) (GS p.1 p.1)) es
def qcn(es:List (Value×Option SV)):List Value→Nat→(Nat→R)→R:=List.rec (motive:=λ_=>List Value→Nat→(Nat→R)→R) (λ_ c f=>f c) (λp _ ih seen c f=>Bool.rec (ih seen c f) (Bool.rec (Option.rec (ih (p.1 :: seen) c f) (λ_=>qm (Nat.succ c) λc=>ih (p.1 :: seen) c f) p.2) (ih seen c f) (G9 p.1 seen)) (GS p.1 p.1)) es
def qao(E:XE)(op:Op):Option Operand:=
 match op with
 |.call ⟨.builtin .len,args,ts⟩=>(match args.toList,ts.toList with
  |[x],[t]=>(match E.mps t with
   |some _=>some x
   |none=>none)
  |_,_=>none)
 |_=>none
def Ja(x:SV)(hp:Tr 6 XB):R:=
 match x with
 |.mp id=>(match hp.find id with
  |some (.map _ _ es)=>qcn es [] 0 λn=>.ok (.mk (Ψ (Φ Γ (.ofNat n))) .nil 0)
  |_=>.bad 390 0)
 |_=>.bad 391 0
def Jb(E:XE)(fr:Tr 3 SV)(hp:Tr 6 XB)(op:Op):R:=
 match qao E op with
 |some x=>Ja (zk fr x) hp
 |none=>xOp E fr hp 0 op qec
def gN(E:XE)(o:Oper)(fr:Tr 3 SV)(hp:Tr 6 XB)(g:SV→R):R:=
 match (Jb E fr hp o.op)with
 |.ok (.mk s _ _)=>g s
 |.bad c i=>.bad c i
def qnV(fr:Tr 3 SV)(op:Op):Bool:=
 match op with
 |.load _ x=>(match zk fr x with|.ref _ _ _=>true|_=>false)
 |_=>false
def zL(fr:Tr 3 SV)(op:Op):Bool:=GZ op&&!qnV fr op
def JN(b:Bool)(hp:Tr 6 XB):Tr 6 XB:=Bool.rec .nil hp b
abbrev CK:=Tr 3 SV→Tr 6 XB→Nat→List (Tr 6 XB)→R
def gdX(ds:List (Option Tmp))(gd:Option (Nat×Bool))(fr:Tr 3 SV):Option Bool:=
 match gd with
 |none=>some false
 |some (i,want)=>(match nth ds i with
  |none=>none
  |some t=>(match qy fr t with
   |.val (.bool b)=>some (!(b == want))
   |.val (.tuple _)=>some true
   |_=>none))
def gU(E:XE)(run:XC)(n:Nat)(ds:List (Option Tmp))(ops:List Oper):Tr 3 SV→Tr 6 XB→Nat→List (Tr 6 XB)→CK→R:=
 List.rec (motive:=λ_=>Tr 3 SV→Tr 6 XB→Nat→List (Tr 6 XB)→CK→R) (λfr hp nid hs g=>g fr hp nid hs)
  (λo _ ih fr hp nid hs g=>match gdX ds o.guard fr with
   |some false=>Bool.rec (gN E o fr (JN (zL fr o.op) hp) λs=>putD o.dst s fr λfr=>ih fr hp nid hs g)
    (qm (nid+n) λid=>Kr E run id o fr hp λs hp' nid'=>qm (Nat.succ nid') λnid'=>putD o.dst s fr λfr=>ih fr hp' nid' (hs++[hp']) g) (gK o.op)
   |some true=>putD o.dst undefSV fr λfr=>Bool.rec (ih fr hp nid hs g) (qm (nid+n) λnid=>ih fr hp nid (hs++[hp]) g) (gK o.op)
   |none=>.bad 386 0) ops
def KB(ds:List (Option Tmp))(o:Oper)(fr:Tr 3 SV):Bool:=match gdX ds o.guard fr with
 |some false=>true
 |_=>false
def WE(E:XE)(fr:Tr 3 SV)(o:Oper)(hp:Tr 6 XB)(r:R):R:=
 gN E o fr hp λs=>(match o.dst with
  |some d=>qqg 384 d (qoJ 6 s (qy fr d)) r
  |none=>r)
def QF(E:XE)(fr:Tr 3 SV)(o:Oper)(lo hi tx:Nat)(r:R)(hs:List (Tr 6 XB)):Nat→R:=
 List.rec (motive:=λ_=>Nat→R) (λ_=>r) (λhp _ ih k=>Bool.rec (qm (Nat.succ k) λk=>ih k) (WE E fr o hp (qm (Nat.succ k) λk=>ih k)) (Nat.ble lo k&&(Nat.ble k hi&&!(Nat.beq k tx)))) hs
def Jc(E:XE)(l:List Oper)(fr:Tr 3 SV)(hs:List (Tr 6 XB))(r:R)(ops:List Oper):Nat→R:=
 List.rec (motive:=λ_=>Nat→R) (λ_=>r) (λo _ ih i=>Bool.rec (qm (Nat.succ i) λi=>ih i) (qm (loC l i) λlo=>qm (hiC l i) λhi=>qm (kc (efL l) i) λtx=>QF E fr o lo hi tx (qm (Nat.succ i) λi=>ih i) hs 0) (zL fr o.op&&KB (dsts l) o fr)) ops
def qmb(E:XE)(run:XC)(ops:List Oper)(fr:Tr 3 SV)(hp:Tr 6 XB)(nid:Nat)(f:XK):R:=
 ql 385 (G3 ops) (qm ops.length λn=>gU E run n (dsts ops) ops fr hp nid [hp] λfr hp nid hs=>Jc E ops fr hs (qm (nid+n) λnid=>f .normal fr hp nid) ops 0)
section
variable{P:Program}{E:XE}{LM:Nat→Option Loop}
theorem qmc(hm:P.follows .mixedOrders=true)(hE:XOk P E)(hf:wJ P E)(hrun:vo P run){d:Option Tmp}{id:Nat}{xr:XR}{g:SV→Tr 6 XB→Nat→R}{K:St→Prop}{r:Res}(hH:HRel LM hp st.hp)(hn:st.nid=id)(hh:Hit xr id r)(h:qan E run id xr hp g=.ok ρ)
  (hk:∀s hp' nid' st',(∀t,look st'.fr t=look (st.put d s).fr t)→HRel LM hp' st'.hp→st'.nid=nid'→g s hp' nid'=.ok ρ→K st'):wE P O True op d id st K r:=by
 have fr0:∀(H:List (Nat×Blk))(n:Nat)(s:SV)(t:Nat),look (St.put ⟨st.fr,H,n⟩ d s).fr t=look (st.put d s).fr t:=λH n s t=>by rw[gL,gL]
 unfold qan at h;split at h
 ·rcases hh with⟨obl,rfl,ho⟩|⟨obl,rfl,ho⟩
  ·exact⟨ho,hk _ _ _ _ (λt=>rfl) (by rw[zo];exact hH) Ωy h⟩
  ·exact⟨_,ho,hk _ _ _ _ (λt=>rfl) (by rw[zo];exact hH) Ωy h⟩
 ·obtain⟨obl,b',mk,rfl,ho,hb,rfl⟩:=hh
  obtain⟨hp',p1,h⟩:=qC _ _ _ _ h;exact⟨ho,hk _ _ _ _ (λt=>fr0 _ _ _ t) (by rw[zo];exact hH.cons hb.any p1) Ωy h⟩
 ·split at h
  ·rename_i y hy
   obtain⟨hp',p1,h⟩:=qC _ _ _ _ h;rcases hh with⟨obl,b',rfl,ho,hb,rfl⟩|⟨obl,b',rfl,ho,hb⟩
   ·exact⟨ho,hk _ _ _ _ (λt=>fr0 _ _ _ t) (by rw[zo];exact hH.set hb.any hy p1) Ωy h⟩
   ·exact⟨ho,hk _ _ _ _ (λt=>fr0 _ _ _ t) (by rw[zo];exact hH.set hb.any hy p1) Ωy h⟩
  ·cases h
 ·rename_i i b s
  obtain⟨obl,b',mk,rfl,ho,hb,rfl⟩:=hh;obtain⟨q,h⟩:=qe h;have q:i≠id:=λe=>by rw[e,Nat.beq_refl]at q;cases q
  obtain⟨hp1,p1,h⟩:=qC _ _ _ _ h;obtain⟨hp2,p2,h⟩:=qC _ _ _ _ h;exact⟨⟨ho,q⟩,hk _ _ _ _ (λt=>fr0 _ _ _ t) (by rw[zo];exact(hH.drop p1).cons hb.any p2) Ωy h⟩
 ·rename_i h0 args
  have hh:r=.call h0 args:=hh;subst hh;split at h
  ·rename_i n i hp0
   unfold qnU at h;obtain⟨q,h⟩:=qe h;have q:=xa6 q;split at h
   ·rename_i s ha
    rw[Qx]at h;exact .inl ⟨s,.inr ⟨i,by rw[q];exact hE.prj _ _ _ hp0,ha⟩,hk _ _ _ _ (λt=>rfl) (by rw[zo];exact hH) Ωy h⟩
   ·cases h
  split at h
  ·rename_i f hof
   refine .inr (.inr ⟨trivial,hE.orc _ _ hof ρ LM O args hp g ⟨st.fr,st.hp,id⟩ (λst' res=>K (st'.put d res)) hH h λs hp' nid' H' hH' hk'=>?_⟩);exact hk _ _ _ _ (λt=>fr0 _ _ _ t) (by rw[zo];exact hH') (by rw[qz]) hk'
  split at h
  ·rename_i s hcs
   obtain⟨qq_,h1,h2⟩:=ym hH hcs;obtain⟨h3,h⟩:=qe h;exact .inl ⟨s,.inl ⟨qq_,hE.ctr _ _ _ h1,.inl ⟨h2,yQ 5 _ h3⟩⟩,hk _ _ _ _ (λt=>rfl) (by rw[zo];exact hH) Ωy h⟩
  split at h
  ·rename_i t k n l s hcs
   obtain⟨qq_,h1,h2⟩:=ym hH hcs;obtain⟨row,c1,c2,c3,c4⟩:=hE.ctn _ _ _ _ _ _ _ h1;rw[ku]at h;obtain⟨hp',p1,h⟩:=qC _ _ _ _ h;exact .inr (.inl ⟨qq_,_,_,c1,.inl ⟨h2,c3,c4⟩,hk _ _ _ _ (λt=>fr0 _ _ _ t) (by rw[zo];exact hH.cons (b:=.rows t k n l) (b':=.rows t k n row) ⟨rfl,rfl,rfl,c2⟩ p1) Ωy h⟩)
  split at h
  ·rename_i fn L hfn
   obtain⟨c,hc⟩:=hf _ _ _ hfn;unfold qnT at h;rw[hc.body]at h;obtain⟨q2,h⟩:=qe h;obtain⟨fr2,f1,f2⟩:=yR h;refine .inr (.inr ⟨trivial,QE (qV L) (K:=λst' res=>K (st'.put d res)) hm hc.at_ hc.body hc.name hc.ok (xa7 q2) λout=>?_⟩);have key:∀(fr3:Tr 3 SV)(hp3:Tr 6 XB)(nid3:Nat)(st3:St),StR LM fr3 hp3 nid3 st3→yn E fr3 hp3 fn.results.toList (λm=>svK (oneSV m) λs=>g s hp3 nid3)=.ok ρ→resultsVC P fn.results.toList st3 (λm=>K (St.put ⟨st.fr,st3.hp,st3.nid⟩ d (oneSV m))):=by
    intro fr3 hp3 nid3 st3 h3 h;refine yS hE h3 h λm h=>?_;rw[Qx]at h;exact hk _ _ _ _ (λt=>fr0 _ _ _ t) (by rw[zo];exact h3.2.1) (by rw[qz];exact h3.2.2) h
   refine hrun ρ LM _ _ _ L .top c ⟨argFr 0 args,st.hp,id⟩ fr2 hp id _ _ rfl ⟨f1,hH,rfl⟩ f2 λe fr3 hp3 nid3 st3 h3 h=>?_;cases e with
   |exit i=>cases h
   |normal=>exact key _ _ _ _ h3 h
   |ret=>exact key _ _ _ _ h3 h
  ·cases h
 ·cases h
def qed(P:Program)(LM:Nat→Option Loop)(n:Nat)(ds:List (Option Tmp))(o:Oper)(sk:Bool)(s:SV)(X X':Tr 3 SV)(Y Y':Tr 6 XB)(Z Z':Nat):Prop:=
 (∀t,qy X' t=if o.dst=some t then s else qy X t)∧gdX ds o.guard X=some sk∧
 (sk=true→s=undefSV∧Y'=Y∧(gK o.op=true→Z+n≤Z'))∧
 (gK o.op=false→Y'=Y∧Z'=Z)∧
 (sk=false→gK o.op=false→(∀H,HRel LM Y H→PureAt P (qy X) H o.op s)∧(zL X o.op=false→∀H,PureAt P (qy X) H o.op s))∧
 (sk=false→gK o.op=true→∀(O:Ctx)(st1:St),(∀t,t∈zP o→look st1.fr t=qy X t)→HRel LM Y st1.hp→st1.nid=Z+n→∀K':St→Prop,(∀st':St,(∀t,look st'.fr t=look (st1.put o.dst s).fr t)→HRel LM Y' st'.hp→st'.nid+1≤Z'→K' st')→wE P O True o.op o.dst st1.nid st1 K' (stepR P (look st1.fr) st1.hp o.op))
theorem WF{d:Option Tmp}{g:Tr 3 SV→R}(h:putD d s fr g=.ok ρ):∃fr',(∀t,qy fr' t=if d=some t then s else qy fr t)∧g fr'=.ok ρ:=by
 unfold putD at h;cases d with
 |none=>exact⟨fr,λt=>by rw[if_neg (by intro h;cases h)],h⟩
 |some d=>
  obtain⟨fr',h1,h2⟩:=qC _ _ _ _ h;refine⟨fr',λt=>?_,h2⟩;unfold qy;rw[h1 t];by_cases c:t=d
  ·simp_all
  ·grind
theorem QG{t:Tmp}(h : .tmp t∈o.op.operands.toList):t∈zP o:=by
 unfold zP
 grind
theorem qee:HRel LM .nil H:=λid b hb=>by rw[Q9]at hb;cases hb
theorem Vs{g:SV→R}(h:gN E o fr hp g=.ok ρ):∃s,(∃a b,Jb E fr hp o.op=.ok (.mk s a b))∧g s=.ok ρ:=by
 unfold gN at h;split at h
 ·simp_all
 ·cases h
theorem WG{k:Value}(hk:eqK k k=true):∀{l:List Value},G9 k l=true↔k∈l
 |[]=>by simp[G9]
 |a :: l=>by
  show(Bool.rec (G9 k l) true (GS a k):Bool)=true↔_;rw[Wh,List.mem_cons];cases h:eqK a k with
  |true=>have:=zz h;simp[this]
  |false=>
   show G9 k l=true↔_;rw[WG hk];constructor
   ·exact .inr
   ·grind
theorem QH(p:Value×Option SV)(es:List (Value×Option SV))(seen:List Value):jD (p :: es) seen=(Bool.rec (jD es seen) (Bool.rec (Option.rec (jD es (p.1 :: seen)) (λ_=>p.1 :: jD es (p.1 :: seen)) p.2) (jD es seen) (G9 p.1 seen)) (GS p.1 p.1):List Value):=rfl
theorem Zr(f:Nat→R):∀(es:List (Value×Option SV))(seen:List Value)(c:Nat),qcn es seen c f=f (c+(jD es seen).length)
 |[],seen,c=>rfl
 |p :: es,seen,c=>by
  show(Bool.rec (qcn es seen c f) (Bool.rec (Option.rec (qcn es (p.1 :: seen) c f) (λ_=>qm (Nat.succ c) λc=>qcn es (p.1 :: seen) c f) p.2) (qcn es seen c f) (G9 p.1 seen)) (GS p.1 p.1):R)=_;rw[QH];cases GS p.1 p.1 with
  |false=>exact Zr f es seen c
  |true=>
  cases G9 p.1 seen with
  |true=>exact Zr f es seen c
  |false=>
   cases p.2 with
   |none=>exact Zr f es _ c
   |some s=>
    show(qm (Nat.succ c) λc=>qcn es (p.1 :: seen) c f)=f (c+((jD es (p.1 :: seen)).length+1));rw[qj,Zr f es _ _]
    congr 1;omega
theorem keysE_mem{k:Value}:∀{es:List (Value×Option SV)}{seen:List Value},k∈jD es seen↔k∉seen∧(kG es k).isSome=true
 |[],seen=>by
  show k∈[]↔_∧Option.isSome none=true;simp
 |p :: es,seen=>by
  rw[QH,zR,Wh];cases hs:eqK p.1 p.1 with
  |false=>
   show k∈jD es seen↔_;rw[keysE_mem];have:¬(eqK p.1 k=true):=λh=>by rw[←zz h,hs]at h;cases h
   rw[if_neg this]
  |true=>
   cases hh:G9 p.1 seen with
   |true=>
    show k∈jD es seen↔_;have hm:=(WG hs).1 hh;rw[keysE_mem];by_cases c:eqK p.1 k=true
    ·have:=zz c
     simp_all
    ·rw[if_neg c]
   |false=>
    have hm:p.1∉seen:=λh=>by rw[(WG hs).2 h]at hh;cases hh
    by_cases c:eqK p.1 k=true
    ·rw[if_pos c]
     have:=zz c;subst this;cases p.2 with
     |none=>
      show p.1∈jD es (p.1 :: seen)↔_;rw[keysE_mem];simp
     |some s=>
      show p.1∈p.1 :: jD es (p.1 :: seen)↔_;simp[hm]
    ·rw[if_neg c]
     have hne:k≠p.1:=λh=>by rw[h,hs]at c;exact c rfl
     cases p.2 with
     |none=>
      show k∈jD es (p.1 :: seen)↔_;rw[keysE_mem];simp[hne]
     |some s=>
      show k∈p.1 :: jD es (p.1 :: seen)↔_;rw[List.mem_cons,keysE_mem];simp[hne]
theorem ju:∀{es:List (Value×Option SV)}{seen:List Value},(jD es seen).Nodup
 |[],seen=>List.nodup_nil
 |p :: es,seen=>by
  rw[QH];cases GS p.1 p.1 with
  |false=>exact ju
  |true=>
   cases G9 p.1 seen with
   |true=>exact ju
   |false=>
    cases p.2 with
    |none=>exact ju
    |some s=>
     refine List.nodup_cons.2 ⟨λh=>?_,ju⟩;have:=(keysE_mem.1 h).1;simp at this
theorem qji{x:Operand}(h:qao E op=some x):∃t mi,op=.call ⟨.builtin .len,#[x],#[t]⟩∧E.mps t=some mi:=by
 unfold qao at h;split at h
 ·rename_i args ts
  split at h
  ·rename_i x' t ha ht
   split at h
   ·rename_i mi hm
    cases h;have e1:=Ge ha;have e2:=Ge ht
    simp_all
   ·cases h
  ·cases h
 ·cases h
theorem Zs(hE:XOk P E)(hH:HRel LM hp H)(h:∃a b,Jb E fr hp op=.ok (.mk s a b)):PureAt P (qy fr) H op s:=by
 obtain⟨a,b,h⟩:=h;unfold Jb at h;split at h
 ·rename_i x hl
  obtain⟨t,mi,rfl,hm⟩:=qji hl;refine .inr ⟨rfl,λO st hfr hst=>?_⟩;unfold Ja at h;split at h
  ·rename_i id hx
   split at h
   ·rename_i ag ls es hb
    rw[Zr]at h;cases h;subst hst;obtain⟨dom,get,g1,g2⟩:=hH.map hb;have hxe:env (look st.fr) x=.mp id:=by
     rw[←hx];cases x with
     |tmp t=>exact hfr t Ωh
     |_=>rfl
    have:=Vo (O:=O) (hE.mps _ _ hm) hxe g1 ju (L:=jD es []) λk=>by rw[(g2 k).1,keysE_mem];simp
    simp_all
   ·cases h
  ·cases h
 ·obtain⟨xr,h1,h2⟩:=qca hE (F:=qy fr) (λ_=>rfl) hH h
  cases xr<;>simp only[qec,reduceCtorEq]at h2
  cases h2;exact .inl h1
theorem PureAt.congr{F F':Nat→SV}(h:PureAt P F H o.op s)(hF:∀t,t∈zP o→F' t=F t):PureAt P F' H o.op s:=by
 rcases h with h|⟨h1,h2⟩
 ·exact .inl (by rw[Vl (F':=F) λt ht=>hF t (QG ht)];exact h)
 ·exact .inr ⟨h1,λO st hfr hst=>h2 O st (λt ht=>by rw[hfr t ht,hF t ht]) hst⟩
theorem qjj{j:Nat}:efL (o :: l) (j+1)=efL l j:=by simp[efL]
theorem qef{o:Oper}{l:List Oper}:∀{j:Nat},kc (efL (o :: l)) (j+1)=(if gK o.op=true then 1 else 0)+kc (efL l) j
 |0=>by simp[kc,efL]
 |j+1=>by
  have ih:=qef (o:=o) (l:=l) (j:=j);simp only[kc]at ih ⊢;rw[ih,qjj];omega
theorem Jd(hm:P.follows .mixedOrders=true)(hE:XOk P E)(hf:wJ P E){run:XC}(hrun:vo P run){n:Nat}{ds:List (Option Tmp)}:∀{ops:List Oper}{fr:Tr 3 SV}{hp:Tr 6 XB}{nid k0:Nat}{hs:List (Tr 6 XB)}{g:CK},gU E run n ds ops fr hp nid hs g=.ok ρ→hs.length=k0+1→hs[k0]? = some hp→
  ∃(res:Nat→SV)(sk:Nat→Bool)(X:Nat→Tr 3 SV)(Y:Nat→Tr 6 XB)(Z:Nat→Nat)(hs':List (Tr 6 XB)),X 0=fr∧Y 0=hp∧Z 0=nid∧g (X ops.length) (Y ops.length) (Z ops.length) hs'=.ok ρ∧
   (∀i o,ops[i]? = some o→qed P LM n ds o (sk i) (res i) (X i) (X (i+1)) (Y i) (Y (i+1)) (Z i) (Z (i+1)))∧(∀j,j≤ops.length→hs'[k0+kc (efL ops) j]? = some (Y j))∧∀k,k≤k0→hs'[k]? = hs[k]?
 |[],fr,hp,nid,k0,hs,g,h,hl,hh=>by
  refine⟨λ_=>.top,λ_=>false,λ_=>fr,λ_=>hp,λ_=>nid,hs,rfl,rfl,rfl,h,λi o ho=>by simp at ho,λj hj=>?_,λ_ _=>rfl⟩;have:j=0:=by simpa using hj
  subst this;exact hh
 |o :: ops,fr,hp,nid,k0,hs,g,h,hl,hh=>by
  have h:(match gdX ds o.guard fr with
   |some false=>Bool.rec (gN E o fr (JN (zL fr o.op) hp) λs=>putD o.dst s fr λfr=>gU E run n ds ops fr hp nid hs g)
    (qm (nid+n) λid=>Kr E run id o fr hp λs hp' nid'=>qm (Nat.succ nid') λnid'=>putD o.dst s fr λfr=>gU E run n ds ops fr hp' nid' (hs++[hp']) g) (gK o.op)
   |some true=>putD o.dst undefSV fr λfr=>Bool.rec (gU E run n ds ops fr hp nid hs g) (qm (nid+n) λnid=>gU E run n ds ops fr hp nid (hs++[hp]) g) (gK o.op)
   |none=>.bad 386 0:R)=.ok ρ:=h
  have glue:∀(k:Bool)(s:SV)(fr':Tr 3 SV)(hp':Tr 6 XB)(nid' k1:Nat)(hs1:List (Tr 6 XB)),qed P LM n ds o k s fr fr' hp hp' nid nid'→gU E run n ds ops fr' hp' nid' hs1 g=.ok ρ→hs1.length=k1+1→hs1[k1]? = some hp'→k1=k0+(if gK o.op=true then 1 else 0)→(∀k,k≤k0→hs1[k]? = hs[k]?)→
    ∃(res:Nat→SV)(sk:Nat→Bool)(X:Nat→Tr 3 SV)(Y:Nat→Tr 6 XB)(Z:Nat→Nat)(hs':List (Tr 6 XB)),X 0=fr∧Y 0=hp∧Z 0=nid∧g (X (o :: ops).length) (Y (o :: ops).length) (Z (o :: ops).length) hs'=.ok ρ∧
   (∀i o',(o :: ops)[i]? = some o'→qed P LM n ds o' (sk i) (res i) (X i) (X (i+1)) (Y i) (Y (i+1)) (Z i) (Z (i+1)))∧(∀j,j≤(o :: ops).length→hs'[k0+kc (efL (o :: ops)) j]? = some (Y j))∧∀k,k≤k0→hs'[k]? = hs[k]?:=by
   intro k s fr' hp' nid' k1 hs1 hstep hrest hl1 hh1 hk1 hpre;obtain⟨res,sk,X,Y,Z,hs',e1,e2,e3,hg,hst,hsg,hpr⟩:=Jd hm hE hf hrun hrest hl1 hh1;refine⟨λi=>Nat.casesOn i s res,λi=>Nat.casesOn i k sk,λi=>Nat.casesOn i fr X,λi=>Nat.casesOn i hp Y,λi=>Nat.casesOn i nid Z,hs',rfl,rfl,rfl,hg,λi o' ho=>?_,λj hj=>?_,λk hk=>?_⟩
   ·cases i with
    |zero=>
     (simp_all;omega)
    |succ i=>exact hst i o' (by simpa using ho)
   ·cases j with
    |zero=>
     show hs'[k0+0]? = some hp
     simp_all
    |succ j=>
     show hs'[_]? = some (Y j);rw[qef,←xb2,←hk1]
     simp_all
   ·grind
  split at h
  ·rename_i hgd
   cases q:gK o.op with
   |false=>
    rw[q]at h;have h:gN E o fr (JN (zL fr o.op) hp) (λs=>putD o.dst s fr λfr=>gU E run n ds ops fr hp nid hs g)=.ok ρ:=h;obtain⟨s,hx,h⟩:=Vs h;obtain⟨fr',hfr,h⟩:=WF h;refine glue false s fr' hp nid k0 hs ⟨hfr,hgd,λe=>(by cases e),λ_=>⟨rfl,rfl⟩,λ_ _=>⟨λH hH=>?_,λhr H=>?_⟩,λ_ e=>by rw[q]at e;cases e⟩ h hl hh (by simp[q]) (λ_ _=>rfl)
    ·refine Zs hE (LM:=LM) (hp:=JN (zL fr o.op) hp) ?_ hx
     cases zL fr o.op
     ·exact qee
     ·exact hH
    ·rw[hr]at hx
     exact Zs hE (LM:=LM) (hp:=.nil) qee hx
   |true=>
    rw[q]at h;have h:qm (nid+n) (λid=>Kr E run id o fr hp λs hp' nid'=>qm (Nat.succ nid') λnid'=>putD o.dst s fr λfr=>gU E run n ds ops fr hp' nid' (hs++[hp']) g)=.ok ρ:=h;rw[qj]at h;unfold Kr at h;split at h
    ·rename_i s hp' nid' hx
     dsimp only at h;rw[qj]at h;obtain⟨fr',hfr,h⟩:=WF h;refine glue false s fr' hp' (nid'+1) (k0+1) (hs++[hp']) ⟨hfr,hgd,λe=>(by cases e),λe=>(by rw[q]at e;cases e),λ_ e=>(by rw[q]at e;cases e),λ_ _ O st1 hops hH hn K' hk=>?_⟩ h (by simp[hl]) ?_ (by simp[q]) λk hk=>?_
     ·have e:stepR P (look st1.fr) st1.hp o.op=stepR P (qy fr) st1.hp o.op:=Vl λt ht=>hops t (QG ht)
      rw[e,hn];obtain⟨xr,h1,h2⟩:=qca hE (F:=qy fr) (λ_=>rfl) hH hx;refine qmc hm hE hf hrun (id:=nid+n) hH hn h1 h2 λs1 hp1 nid1 st' hf' hH' hn' hq=>?_;unfold okQ at hq
      simp_all
     ·simp_all
     ·grind
    ·cases h
  ·rename_i hgd
   obtain⟨fr',hfr,h⟩:=WF h;cases q:gK o.op with
   |false=>
    rw[q]at h;exact glue true undefSV fr' hp nid k0 hs ⟨hfr,hgd,λ_=>⟨rfl,rfl,λe=>(by rw[q]at e;cases e)⟩,λ_=>⟨rfl,rfl⟩,λe=>(by cases e),λe=>(by cases e)⟩ h hl hh (by simp[q]) (λ_ _=>rfl)
   |true=>
    rw[q]at h;have h:(qm (nid+n) λnid=>gU E run n ds ops fr' hp nid (hs++[hp]) g)=.ok ρ:=h;rw[qj]at h;refine glue true undefSV fr' hp (nid+n) (k0+1) (hs++[hp]) ⟨hfr,hgd,λ_=>⟨rfl,rfl,λ_=>xa5 _⟩,λe=>(by rw[q]at e;cases e),λe=>(by cases e),λe=>(by cases e)⟩ h (by simp[hl]) ?_ (by simp[q]) λk hk=>?_
    ·simp_all
    ·grind
  ·cases h
def qjk(P:Program)(LM:Nat→Option Loop)(fr:Tr 3 SV)(o:Oper)(hp:Tr 6 XB):Prop:=∀H,HRel LM hp H→∃s,PureAt P (qy fr) H o.op s∧∀d,o.dst=some d→s=qy fr d
theorem qgs(hE:XOk P E){r:R}(h:WE E fr o hp r=.ok ρ):qjk P LM fr o hp∧r=.ok ρ:=by
 obtain⟨s,hx,h⟩:=Vs h;cases e:o.dst with
 |none=>
  rw[e]at h;exact⟨λH hH=>⟨s,Zs hE hH hx,λd hd=>by rw[e]at hd;cases hd⟩,h⟩
 |some d=>
  rw[e]at h;obtain⟨h1,h⟩:=qlD h;exact⟨λH hH=>⟨s,Zs hE hH hx,λd' hd=>by rw[e]at hd;cases hd;exact qeb _ _ _ h1⟩,h⟩
theorem qeg(hE:XOk P E){fr:Tr 3 SV}{o:Oper}{lo hi tx:Nat}{r:R}:∀{hs:List (Tr 6 XB)}{k:Nat},QF E fr o lo hi tx r hs k=.ok ρ→r=.ok ρ∧∀j y,hs[j]? = some y→lo≤k+j→k+j≤hi→k+j≠tx→qjk P LM fr o y
 |[],k,h=>⟨h,λj y hj=>by simp at hj⟩
 |hp :: hs,k,h=>by
  have h:(Bool.rec (qm (Nat.succ k) λk=>QF E fr o lo hi tx r hs k) (WE E fr o hp (qm (Nat.succ k) λk=>QF E fr o lo hi tx r hs k)) (Nat.ble lo k&&(Nat.ble k hi&&!(Nat.beq k tx))):R)=.ok ρ:=h;have key:(qm (Nat.succ k) λk=>QF E fr o lo hi tx r hs k)=.ok ρ∧(lo≤k→k≤hi→k≠tx→qjk P LM fr o hp):=by
   cases q:(Nat.ble lo k&&(Nat.ble k hi&&!(Nat.beq k tx)))with
   |false=>
    (simp_all;omega)
   |true=>
    rw[q]at h;obtain⟨h1,h2⟩:=qgs (LM:=LM) hE h
    simp_all
  obtain⟨h1,h2⟩:=key;rw[qj]at h1;obtain⟨h3,h4⟩:=qeg hE h1;refine⟨h3,λj y hj a b c=>?_⟩;cases j with
  |zero=>simp at hj;subst hj;exact h2 a b c
  |succ j=>exact h4 j y (by simpa using hj) Ω Ω Ω
theorem qeh(hE:XOk P E){l:List Oper}{fr:Tr 3 SV}{hs:List (Tr 6 XB)}{r:R}:∀{ops:List Oper}{i:Nat},Jc E l fr hs r ops i=.ok ρ→r=.ok ρ∧∀j o,ops[j]? = some o→(zL fr o.op&&KB (dsts l) o fr)=true→∀k y,hs[k]? = some y→loC l (i+j)≤k→k≤hiC l (i+j)→k≠kc (efL l) (i+j)→qjk P LM fr o y
 |[],i,h=>⟨h,λj o hj=>by simp at hj⟩
 |o :: ops,i,h=>by
  have h:(Bool.rec (qm (Nat.succ i) λi=>Jc E l fr hs r ops i) (qm (loC l i) λlo=>qm (hiC l i) λhi=>qm (kc (efL l) i) λtx=>QF E fr o lo hi tx (qm (Nat.succ i) λi=>Jc E l fr hs r ops i) hs 0) (zL fr o.op&&KB (dsts l) o fr):R)=.ok ρ:=h;have key:(qm (Nat.succ i) λi=>Jc E l fr hs r ops i)=.ok ρ∧((zL fr o.op&&KB (dsts l) o fr)=true→∀k y,hs[k]? = some y→loC l i≤k→k≤hiC l i→k≠kc (efL l) i→qjk P LM fr o y):=by
   cases q:(zL fr o.op&&KB (dsts l) o fr)with
   |false=>rw[q]at h;exact⟨h,λe=>by cases e⟩
   |true=>
    rw[q]at h;have h:(qm (loC l i) λlo=>qm (hiC l i) λhi=>qm (kc (efL l) i) λtx=>QF E fr o lo hi tx (qm (Nat.succ i) λi=>Jc E l fr hs r ops i) hs 0)=.ok ρ:=h;rw[qj,qj,qj]at h;obtain⟨h1,h2⟩:=qeg (LM:=LM) hE h
    grind
  obtain⟨h1,h2⟩:=key;rw[qj]at h1;obtain⟨h3,h4⟩:=qeh hE h1;refine⟨h3,λj o' hj hr k y hk a b c=>?_⟩;cases j with
  |zero=>simp at hj;subst hj;exact h2 hr k y hk a b c
  |succ j=>
   grind
theorem qmd(hm:P.follows .mixedOrders=true)(hE:XOk P E)(hf:wJ P E)(hrun:vo P run){id:Nat}{nid:Nat}{f:XK}{g:Tag K}(hs:StR LM fr hp nid st)(h:qmb E run l fr hp nid f=.ok ρ)
  (hk:∀e fr' hp' nid' st',StR LM fr' hp' nid' st'→f e fr' hp' nid'=.ok ρ→K e st'):jC P O id l true st K g:=by
 obtain⟨q,h⟩:=qe h;rw[qj]at h;have hc:=Vn q;obtain⟨res,sk,X,Y,Z,hs',e1,e2,e3,hg,hst,hsg,hpr⟩:=Jd (LM:=LM) hm hE hf hrun h (k0:=0) rfl rfl;obtain⟨hfin,hck⟩:=qeh (LM:=LM) hE hg;rw[qj]at hfin;have hsi:∀i,i<l.length→∃o,l[i]? = some o:=λi hi=>⟨l[i],by simp[hi]⟩;have hX:∀j,j≤l.length→∀t,qy (X j) t=FS (nth (dsts l)) res (λ_=>true) (look st.fr) j t:=by
  intro j
  induction j with
  |zero=>intro _ t;rw[e1];exact(hs.1 t).symm
  |succ j ih=>
   intro hj t;obtain⟨o,ho⟩:=hsi j Ω;have hd:nth (dsts l) j=o.dst:=by rw[zA,ho];rfl
   rw[(hst j o ho).1 t,ih Ω t];simp only[FS,hd,true_and]
 have hopd:∀i o,l[i]? = some o→∀t,t∈zP o→qy (X l.length) t=qy (X i) t:=by
  intro i o ho t ht;have hi:i<l.length:=(List.getElem?_eq_some_iff.1 ho).1;rw[hX _ (xa5 _),hX i Ω];refine Wx Ω λx hx hxl hd=>?_;have:=hc.lt i x hi (hc.ops i o t x ho ht hxl hd);omega
 have hef:∀i o,l[i]? = some o→efL l i=gK o.op:=λi o ho=>by simp[efL,ho]
 have hY:∀j,j<l.length→efL l j=false→Y (j+1)=Y j∧Z (j+1)=Z j:=by
  intro j hj he;obtain⟨o,ho⟩:=hsi j hj;exact(hst j o ho).2.2.2.1 (by rw[←hef j o ho];exact he)
 have hgt:∀i o g want t,l[i]? = some o→o.guard=some (g,want)→nth (dsts l) g=some t→qy (X l.length) t=qy (X i) t:=by
  intro i o g want t ho hgd ht;have hi:i<l.length:=(List.getElem?_eq_some_iff.1 ho).1;have hgl:=hc.lt i g hi (hc.grd i o g want ho hgd).1;rw[hX _ (xa5 _),hX i Ω];refine Wx Ω λx hx hxl hd=>?_;exact hc.dist x g t Ω hxl hd ht
 have hgX:∀i o,l[i]? = some o→gdX (dsts l) o.guard (X l.length)=gdX (dsts l) o.guard (X i):=by
  intro i o ho;unfold gdX;cases hgd:o.guard with
  |none=>rfl
  |some p=>
   obtain⟨g,want⟩:=p;dsimp only;cases ht:nth (dsts l) g with
   |none=>rfl
   |some t=>dsimp only;rw[hgt i o g want t ho hgd ht]
 refine qaf hm hc res Y Z (qy (X l.length)) sk (λi o ho=>?_) hY (λt=>hX _ (xa5 _) t) (by rw[e2];exact hs.2.1) (by rw[e3];exact hs.2.2) ?_ ?_ ?_
 ·obtain⟨_,s2,s3,s4,_,_⟩:=hst i o ho
  rw[←hgX i o ho]at s2;refine⟨?_,λhs=>⟨(s3 hs).2.1,λhe=>(s3 hs).2.2 (by rw[←hef i o ho];exact he),λd hd=>(s3 hs).1⟩⟩;unfold gdX at s2;unfold Grd;cases hgd:o.guard with
  |none=>rw[hgd]at s2;exact(Option.some.inj s2).symm
  |some p=>
   obtain⟨g,want⟩:=p;rw[hgd]at s2;dsimp only at s2;split at s2
   ·cases s2
   ·rename_i t ht
    refine⟨t,ht,?_⟩;split at s2
    ·rename_i b hb
     exact .inl ⟨b,hb,(Option.some.inj s2).symm⟩
    ·rename_i vs hb
     exact .inr ⟨⟨vs,hb⟩,(Option.some.inj s2).symm⟩
    ·cases s2
 ·intro i o ho hsk he j hj hlo hhi F H hF hH
  have hi:i<l.length:=(List.getElem?_eq_some_iff.1 ho).1;obtain⟨p1,p2⟩:=(hst i o ho).2.2.2.2.1 hsk (by rw[←hef i o ho];exact he);have hFi:∀t,t∈zP o→F t=qy (X i) t:=λt ht=>by rw[hF t ht,hopd i o ho t ht]
  by_cases c:kc (efL l) j=kc (efL l) i
  ·have hst2:Y j=Y i:=by
    by_cases d:j≤i
    ·exact(vK hY d Ω c).1
    ·exact(vK hY (Ω:i≤j) hj c.symm).1.symm
   exact⟨_,(p1 H (by rw[←hst2];exact hH)).congr hFi,λ_ _=>rfl⟩
  ·have hsee:zL (X l.length) o.op=zL (X i) o.op:=by
    unfold zL
    congr 2
    unfold qnV;split
    ·rename_i t x hop
     have:zk (X l.length) x=zk (X i) x:=by
      cases x<;>first|rfl|skip
      rename_i t;exact hopd i o ho t (QG (by rw[hop];simp[Op.operands]))
     rw[this]
    ·rfl
   cases d:zL (X i) o.op with
   |false=>
    exact⟨_,(p2 d H).congr hFi,λ_ _=>rfl⟩
   |true=>
    have h1:=hsg j hj;rw[xb0]at h1;have:=hck i o ho (by rw[hsee,d,xf0];unfold KB;rw[hgX i o ho,(hst i o ho).2.1,hsk]) _ _ h1 (by rw[xb0];exact hlo) (by rw[xb0];exact hhi) (by rw[xb0];exact c) H hH;obtain⟨s,hs1,hs2⟩:=this;refine⟨s,?_,λd hd=>?_⟩
    ·exact hs1.congr hF
    ·rw[hs2 d hd,hX _ (xa5 _)]
     have hdi:nth (dsts l) i=some d:=by rw[zA,ho];exact hd
     refine Ws hdi rfl hi λx hx hxd=>?_;refine xf9 λhne=>?_;by_cases hlt:x<i
     ·exact hc.dist i x d hlt hi hdi hxd
     ·exact hc.dist x i d Ω hx hxd hdi
 ·intro i o ho hsk he st1 hops hH hn K' hk'
  exact(hst i o ho).2.2.2.2.2 hsk (by rw[←hef i o ho];exact he) O st1 (λt ht=>by rw[hops t ht,hopd i o ho t ht]) hH hn K' hk'
 ·intro st' hf' hH' hn'
  exact hk _ _ _ _ _ ⟨hf',hH',hn'⟩ hfin
def qgt(P:Program)(O:Ctx)(ds:List (Option Tmp)):List Oper→St→(St→Prop)→Prop
 |[],st,K=>∃st1,Weak O st st1∧K st1
 |o :: rest,st,K=>∃st1,Weak O st st1∧opH P O ds o st1 λst'=>qgt P O ds rest st' K
theorem qei{O:Ctx}{base:World}{okc:Nat→Prop}{ns:Nat}{outs:jj}{ro:Option Nat}{allops:Array Oper}{Q:Exit→Act→World→Prop}{K:St→Prop}:∀(ops:List Oper)(st:St)(a:Act)(w:World),Inv O base okc ns st.nid outs st a w→ops.all (jk ns)=true→
  qgt P O (dsts allops.toList) ops st K→(∀st' a' w',K st'→Inv O base okc ns st'.nid outs st' a' w'→Q .normal a' w')→wpListIn (FR ro) 0 P allops Q ops a w
 |[],st,a,w,h,hd,⟨st1,hw,hk⟩,hK=>hK st1 a w hk (hw _ _ _ _ _ _ h)
 |o :: rest,st,a,w,h,hd,⟨st1,hw,hk⟩,hK=>by
  simp only[List.all_cons,xe6]at hd;unfold wpListIn;exact qbO (hw _ _ _ _ _ _ h) hd.1 hk λst' a' w' hk' hi'=>qei rest st' a' w' hi' hd.2 hk' hK
theorem qme{id:Nat}{ops:List Oper}{g:Tag K}(h:qgt P O (dsts ops) ops st (λst'=>K .normal st')):jC P O id ops false st K g:=by
 intro base okc ns outs a w ro Q hro hc hi hK;simp only[qJ,xe6]at hc;obtain⟨hd,-⟩:=hc;have hd:ops.all (jk ns)=true:=by simpa using hd
 refine wpIn_region_list ?_;have:=qei (ro:=ro) (allops:=ops.toArray) (Q:=Q) (K:=λst'=>K .normal st') ops st a w hi hd ΩN λst' a' w' hk hi'=>hK .normal st' a' w' hk hi';simpa using this
theorem qjl{O:Ctx}{n:Nat}{all:List Oper}{K:St→Prop}:∀{l:List Oper}{res:Nat→SV}{sk:Nat→Bool}{X:Nat→Tr 3 SV}{Y:Nat→Tr 6 XB}{Z:Nat→Nat}{st:St}{d:Nat},(∀i o,l[i]? = some o→qed P LM n (dsts all) o (sk i) (res i) (X i) (X (i+1)) (Y i) (Y (i+1)) (Z i) (Z (i+1)))→FRel (X 0) st.fr→HRel LM (Y 0) st.hp→st.nid≤Z 0+d→d+l.length≤n→
  (∀st',FRel (X l.length) st'.fr→HRel LM (Y l.length) st'.hp→st'.nid=Z l.length+n→K st')→qgt P O (dsts all) l st K
 |[],res,sk,X,Y,Z,st,d,h,hF,hH,hn,hd,hk=>by
  have hd:d≤n:=by simpa using hd
  have hk:∀st',FRel (X 0) st'.fr→HRel LM (Y 0) st'.hp→st'.nid=Z 0+n→K st':=hk;exact⟨{ st with nid:=Z 0+n },QA _ _ _ Ω,hk _ hF hH rfl⟩
 |o :: l,res,sk,X,Y,Z,st,d,h,hF,hH,hn,hd,hk=>by
  have hst:=h 0 o rfl;have hd:d+(l.length+1)≤n:=by simpa using hd
  have next:∀st',FRel (X 1) st'.fr→HRel LM (Y 1) st'.hp→st'.nid≤Z 1+(d+1)→qgt P O (dsts all) l st' K:=λst' hf' hs' hn'=>
   qjl (l:=l) (res:=λi=>res (i+1)) (sk:=λi=>sk (i+1)) (X:=λi=>X (i+1)) (Y:=λi=>Y (i+1)) (Z:=λi=>Z (i+1)) (d:=d+1) (λi o' ho=>h (i+1) o' (by simpa using ho)) hf' hs' hn' Ω hk
  obtain⟨s1,s2,s3,s4,s5,s6⟩:=hst;have s1:∀t,qy (X 1) t=if o.dst=some t then res 0 else qy (X 0) t:=s1
  have s4:gK o.op=false→Y 1=Y 0∧Z 1=Z 0:=s4;have s3:sk 0=true→res 0=undefSV∧Y 1=Y 0∧(gK o.op=true→Z 0+n≤Z 1):=s3;have hgrd:Grd all (look st.fr) o (sk 0):=by
   unfold gdX at s2;unfold Grd;cases hgd:o.guard with
   |none=>rw[hgd]at s2;exact(Option.some.inj s2).symm
   |some p=>
    obtain⟨g,want⟩:=p;rw[hgd]at s2;dsimp only at s2;split at s2
    ·cases s2
    ·rename_i t ht
     refine⟨t,ht,?_⟩;rw[hF t];split at s2
     ·simp_all
     ·simp_all
     ·cases s2
  have frs:∀(st2:St)(fr:List (Nat×SV)),(∀t,look st2.fr t=look st.fr t)→(∀t,look fr t=look (st2.put o.dst (res 0)).fr t)→FRel (X 1) fr:=λst2 fr h2 h3 t=>by
   rw[h3,gL,s1 t,h2,hF t]
  cases q:gK o.op with
  |false=>
   obtain⟨y1,z1⟩:=s4 q;refine⟨st,Weak.refl _ _,G4 hgrd (λhsk st2 h2 h2h h2n=>?_) (λhsk st2 h2 h2h h2n=>?_)⟩
   ·obtain⟨p1,_⟩:=s5 hsk q
    have h1:=(p1 st2.hp (by rw[h2h];exact hH)).congr (F':=look st2.fr) λt _=>by rw[h2,hF t]
    have f2:qgt P O (dsts all) l ⟨inD o.dst (st2.put o.dst (res 0)).fr,(st2.put o.dst (res 0)).hp,(st2.put o.dst (res 0)).nid+1⟩ K:=next _ (frs st2 _ h2 λt=>gC _ _ _) (by show HRel LM (Y 1) (st2.put o.dst (res 0)).hp;rw[zo,h2h,y1];exact hH) (by show(st2.put o.dst (res 0)).nid+1≤_;rw[qz,z1];omega);rcases h1 with(⟨obl,e,h⟩|⟨obl,e,h⟩)|⟨hnd,h⟩
    ·rw[e];exact .inl ⟨h,f2⟩
    ·rw[e];exact .inl ⟨_,h,f2⟩
    ·refine .inr ⟨hnd,(h O st2 (λt _=>rfl) rfl).mono ?_⟩
     rintro st' res' ⟨rfl,rfl⟩;exact next _ (frs st' _ h2 λt=>wv _ _ _ _) (by rw[ww,h2h,y1];exact hH) (by rw[kF,z1];omega)
   ·obtain⟨k1,k2,_⟩:=s3 hsk
    exact next _ (frs st2 _ h2 λt=>by rw[wv,k1]) (by rw[ww,h2h,y1];exact hH) (by rw[kF,z1];omega)
  |true=>
   refine⟨{ st with nid:=Z 0+n },QA _ _ _ Ω,G4 (st:={ st with nid:=Z 0+n }) hgrd (λhsk st2 h2 h2h h2n=>?_) (λhsk st2 h2 h2h h2n=>?_)⟩
   ·refine .inl (s6 hsk q O st2 (λt _=>by rw[h2];exact hF t) (by rw[h2h];exact hH) h2n _ λst' hf' hH' hn'=>?_)
    exact next _ (frs st2 _ h2 λt=>by rw[gC,hf']) hH' (by show st'.nid+1≤_;exact xc1 hn' (Nat.le_add_right _ _))
   ·obtain⟨k1,k2,k3⟩:=s3 hsk
    exact next _ (frs st2 _ h2 λt=>by rw[wv,k1]) (by rw[ww,h2h,k2];exact hH) (by rw[kF,h2n];exact xc1 (k3 q) (Nat.le_add_right _ _))
def qoK(E:XE)(run:XC)(ops:List Oper)(fr:Tr 3 SV)(hp:Tr 6 XB)(nid:Nat)(f:XK):R:=
 qm ops.length λn=>gU E run n (dsts ops) ops fr hp nid [hp] λfr hp nid hs=>qm (nid+n) λnid=>f .normal fr hp nid
theorem qmf(hm:P.follows .mixedOrders=true)(hE:XOk P E)(hf:wJ P E)(hrun:vo P run){id:Nat}{nid:Nat}{f:XK}{g:Tag K}(hs:StR LM fr hp nid st)(h:qoK E run l fr hp nid f=.ok ρ)
  (hk:∀e fr' hp' nid' st',StR LM fr' hp' nid' st'→f e fr' hp' nid'=.ok ρ→K e st'):jC P O id l false st K g:=by
 unfold qoK at h;rw[qj]at h;obtain⟨res,sk,X,Y,Z,hs',e1,e2,e3,hg,hst,hsg,hpr⟩:=Jd (LM:=LM) hm hE hf hrun h (k0:=0) rfl rfl;rw[qj]at hg;refine qme (qjl (d:=0) hst (by rw[e1];exact hs.1) (by rw[e2];exact hs.2.1) (by rw[e3,hs.2.2];omega) Ω λst' hf' hH' hn'=>?_);exact hk _ _ _ _ st' ⟨hf',hH',hn'⟩ hg
end
end
end Go.Sx
end
section
namespace Go.Sx
open Go.RowKit
noncomputable section
variable{LM:Nat→Option Loop}{hp:Tr 6 XB}{fr:Tr 3 SV}
variable{ρ:Q}
def qgu(run:XC)(L:FL)(cx:CX)(b:Code)(f:XK):XK
 |.normal,fr,hp,nid=>run L cx b fr hp nid f
 |.exit i,fr,hp,nid=>f (.exit i) fr hp nid
 |.ret,fr,hp,nid=>f .ret fr hp nid
def qjm(id:Nat)(f:XK):XK
 |.normal,fr,hp,nid=>f .normal fr hp nid
 |.exit i,fr,hp,nid=>Bool.rec (f (.exit i) fr hp nid) (f .normal fr hp nid) (Nat.beq i id)
 |.ret,fr,hp,nid=>f .ret fr hp nid
def qjn(v:SV)(a b:R):R:=
 match v with
 |.val (.bool c)=>Bool.rec b a c
 |_=>.bad 320 0
def qjo(bk:SV→Option Nat)(fr:Tr 3 SV)(l:List (Nat×Nat))(k:R):R:=
 List.rec (motive:=λ_=>R) k (λp _ ih=>match bk (qy fr p.1),bk (qy fr p.2)with
  |some i,some j=>ql 360 (!(Nat.beq i j)) ih
  |_,_=>ih) l
def Je(ops:List Oper)(f:XK)(fr:Tr 3 SV)(hp:Tr 6 XB)(nid:Nat):R:=qm (nid+ops.length) λnid=>f .normal fr hp nid
def qrB(mid:Nat)(fr:Tr 3 SV)(l:List Tmp):Bool:=l.all λa=>match qT (qy fr a)with
 |some i=>!(Nat.beq i mid)
 |none=>true
def qjp(q:EI)(ops:List Oper)(fr:Tr 3 SV)(hp:Tr 6 XB)(k:R):R:=match qy fr q.mm with
 |.mp mid=>(match hp.find mid with
  |some (.map _ _ _)=>ql 365 (qrB mid fr (Zn ops)) k
  |_=>.bad 366 0)
 |_=>.bad 367 0
def qqv(te tx:Tmp)(fr:Tr 3 SV)(g:Tr 3 SV→R):R:=zf (some .top) 22 fr te λfr=>zf (some .top) 22 fr tx g
def qoL(E:XE)(run:XC)(cx:CX)(ops:List Oper)(l:List (Nat×Nat))(fr:Tr 3 SV)(hp:Tr 6 XB)(nid:Nat)(f:XK):R:=
 match entI ops with
 |some q=>ql 363 (qiO q l ops) (Zq E run cx false (dsts ops) (Zm q.e q.x q.s q.upd 0 ops) 0 fr hp nid λfr hp nid=>qjo qT fr l (qjp q ops fr hp (qqv q.te q.tx fr λfr=>Je ops f fr hp nid)))
 |none=>.bad 368 0
def qco(E:XE)(run:XC)(L:FL)(cx:CX)(id:Nat)(d:Bool)(ops:List Oper)(fr:Tr 3 SV)(hp:Tr 6 XB)(nid:Nat)(f:XK):R:=
 match qV L id with
 |[]=>Zq E run cx (kr d ops) (dsts ops) ops 0 fr hp nid (Je ops f)
 |(a,b) :: l=>Bool.rec (Zq E run cx (kr d ops) (dsts ops) ops 0 fr hp nid λfr hp nid=>qjo qT fr ((a,b) :: l) (Je ops f fr hp nid))
  (Bool.rec (ql 361 d (Bool.rec (Bool.rec (.bad 362 0) (qmb E run ops fr hp nid f) (Nat.beq a 2)) (qoL E run cx ops l fr hp nid f) (Nat.beq a 1))) (ql 364 (!d) (qoK E run ops fr hp nid f)) (Nat.beq a 3)) (Nat.beq a b)
def WH(id:Nat)(fr:Tr 3 SV)(f:XK)(hp:Tr 6 XB)(nid:Nat):R:=
 match hp.find id with
 |some (.loop s)=>zf none 22 hp id λhp=>(match s with
  |.ready=>f .normal fr hp nid
  |.retd=>f .ret fr hp nid
  |.left i=>f (.exit i) fr hp nid
  |_=>.bad 350 0)
 |_=>.bad 351 0
def WI(E:XE)(run:XC)(L:FL)(v:SV)(ps:List Tmp)(a b:Code)(fr:Tr 3 SV)(hp:Tr 6 XB)(nid:Nat)(f:XK):R:=
 match v with
 |.fn (.func g) [] caps=>(match E.fns g with
  |some (fn,[])=>(match fn.body,fn.results.toList with
   |some c,[]=>ql 352 (Nat.ble (caps.length+1) fn.ntmps) (zf (some (.loop .ready)) 22 hp nid λhp1=>WD (.yld nid :: caps) 0 .nil λfr1=>qm (Nat.succ nid) λn1=>run [] (.gen nid L fr ps a b) c fr1 hp1 n1 λe _ hp3 nid3=>(match e with
    |.exit _=>.bad 353 0
    |.normal=>WH nid fr f hp3 nid3
    |.ret=>WH nid fr f hp3 nid3))
   |_,_=>.bad 354 0)
  |_=>.bad 355 g)
 |_=>.bad 356 0
def Vt(E:XE)(run:XC)(L:FL)(cx:CX)(c:Code)(fr:Tr 3 SV)(hp:Tr 6 XB)(nid:Nat)(f:XK):R:=
 match c with
 |.skip=>f .normal fr hp nid
 |.label _=>f .normal fr hp nid
 |.seq a b=>run L cx a fr hp nid (qgu run L cx b f)
 |.cond x a b=>qjn (zk fr x) (run L cx a fr hp nid f) (run L cx b fr hp nid f)
 |.block id c=>run L cx c fr hp nid (qjm id f)
 |.exit id=>f (.exit id) fr hp nid
 |.ret=>f .ret fr hp nid
 |.scope c=>run L cx c fr hp nid f
 |.loop c=>run L cx c fr hp nid (qgu run L cx (.loop c) f)
 |.region id ops d=>qco E run L cx id d ops.toList fr hp nid f
 |.rangeFunc x ps a b=>(match cx with
  |.rnd=>.bad 357 0
  |_=>WI E run L (zk fr x) ps.toList a b fr hp nid f)
 |_=>.bad 321 0
section
variable{P:Program}{E:XE}
theorem HRel.lm{LM':Nat→Option Loop}{H:List (Nat×Blk)}(h:HRel LM hp H)(e:∀id b,hp.find id=some b→LM' id=LM id):HRel LM' hp H:=λid b hb=>by
 rw[e id b hb];exact h id b hb
theorem qgv(hm:P.follows .mixedOrders=true)(hf:wJ P E){run:XC}(hrun:vo P run){fs:List Fr}{lo:Nat}{L:FL}{x:Operand}{ps:List Tmp}{a b:Code}{st:St}{n0:Nat}{f:XK}{K:Ex→St→Prop}(hs:StR LM fr hp n0 st)(h:WI E run L (zk fr x) ps a b fr hp n0 f=.ok ρ)
  (hk:∀e fr' hp' nid' st',StR LM fr' hp' nid' st'→f e fr' hp' nid'=.ok ρ→K e st'):wF P ⟨fs,lo,false,qV L⟩ (.rangeFunc x ps.toArray a b) st K:=by
 obtain⟨F,H,nid⟩:=st;obtain⟨s1,s2,s3⟩:=hs;have s3:nid=n0:=s3;subst s3;have s1:FRel fr F:=s1;have s2:HRel LM hp H:=s2;unfold WI at h;split at h
 ·rename_i g caps hv
  split at h
  ·rename_i fn hfn
   obtain⟨c,hc⟩:=hf _ _ _ hfn;split at h
   ·rename_i c' hb hr
    have:c'=c:=by rw[hc.body]at hb;cases hb;rfl
    subst this;obtain⟨q,h⟩:=qe h;obtain⟨hp1,p1,h⟩:=qC _ _ _ _ h;obtain⟨fr1,f1,h⟩:=yR h;rw[qj]at h;refine Vf hm rfl (by rw[s1.fn.env];exact hv) hc.at_ hc.body hc.name hc.ok hr (xa7 q) λout Lr hL=>?_;generalize hLM:(λi=>if i=nid then some Lr else LM i)=LM';have eL:LM' nid=some Lr:=by rw[←hLM];show(if nid=nid then some Lr else LM nid)=_;rw[if_pos rfl]
    have eO:∀i,i≠nid→LM' i=LM i:=λi hi=>by rw[←hLM];show(if i=nid then some Lr else LM i)=_;rw[if_neg hi]
    have r1:HRel LM' hp1 ((nid,.loop Lr .ready) :: H):=λi y hy=>by
     rw[p1 i]at hy;by_cases c:i=nid
     ·rw[if_pos c]at hy;cases hy
      exact⟨.loop Lr .ready,by simp only[blk];rw[if_pos c],rfl,by rw[c];exact eL⟩
     ·rw[if_neg c]at hy;simp only[blk];rw[if_neg c,eO i c];exact s2 i y hy
    have fin:∀(hp3:Tr 6 XB)(nid3:Nat)(fr3:Tr 3 SV)(st3:St),StR LM' fr3 hp3 nid3 st3→WH nid fr f hp3 nid3=.ok ρ→vE Lr F K st3.hp st3.nid nid (blk st3.hp nid):=by
     intro hp3 nid3 fr3 st3 h3 hr;unfold WH at hr;split at hr
     ·rename_i s hb3
      rw[h3.2.1.loop hb3 eL];obtain⟨hp4,p4,hr⟩:=qC _ _ _ _ hr;have r4:StR LM fr hp4 nid3 ⟨F,dropBlk st3.hp nid,st3.nid⟩:=by
       refine⟨s1,(h3.2.1.drop p4).lm λi y hy=>?_,h3.2.2⟩;rw[p4 i]at hy;by_cases c:i=nid
       ·simp_all
       ·exact(eO i c).symm
      refine⟨rfl,?_⟩;cases s<;>first|exact hk _ _ _ _ _ r4 hr|cases hr
     ·cases hr
    refine hrun ρ LM' _ _ _ [] (.gen nid L fr ps a b) c' ⟨_,_,_⟩ fr1 hp1 (nid+1) _ _ ⟨rfl,Lr,F,eL,s1,hL⟩ ⟨f1,r1,rfl⟩ h λe fr3 hp3 nid3 st3 h3 h=>?_;cases e with
    |exit i=>cases h
    |normal=>exact fin _ _ _ _ h3 h
    |ret=>exact fin _ _ _ _ h3 h
   ·cases h
  ·cases h
 ·cases h
theorem Zt{fr:Tr 3 SV}{st:St}(hF:FRel fr st.fr){X:Prop}{k:R}(hX:k=.ok ρ→X):∀{l:List (Nat×Nat)},qjo qT fr l k=.ok ρ→FarVC l st X
 |[],h=>hX h
 |(a,b) :: l,h=>by
  have h:(match qT (qy fr a),qT (qy fr b)with
   |some i,some j=>ql 360 (!(Nat.beq i j)) (qjo qT fr l k)
   |_,_=>qjo qT fr l k)=.ok ρ:=h
  show vi (look st.fr a) (look st.fr b)∧FarVC l st X;rw[hF a,hF b];unfold vi;split at h
  ·rename_i i j h1 h2
   rw[h1,h2];obtain⟨q,h⟩:=qe h;exact⟨λe=>(by rw[e,Nat.beq_refl]at q;cases q),Zt hF hX h⟩
  ·rename_i hn
   refine⟨?_,Zt hF hX h⟩;split
   ·simp_all
   ·trivial
theorem qjq{q:EI}{ops:List Oper}{st:St}(hF:FRel fr st.fr)(hH:HRel LM hp st.hp){k:R}(h:qjp q ops fr hp k=.ok ρ):qqm q ops st∧k=.ok ρ:=by
 unfold qjp at h;split at h
 ·rename_i mid e1
  split at h
  ·rename_i e2
   obtain⟨h1,h2⟩:=qe h;refine⟨λmid' hmid=>?_,h2⟩;rw[hF,e1]at hmid;injection hmid with hmid;subst hmid;refine⟨?_,λa ha=>?_⟩
   ·obtain⟨b',hb,hr⟩:=hH _ _ e2
    cases b'<;>simp only[BRel]at hr
    simp_all
   ·rw[hF]
    have:=List.all_eq_true.1 h1 a ha;intro c
    simp_all
  ·cases h
 ·cases h
theorem qmg{te tx:Tmp}{g:Tr 3 SV→R}(h:qqv te tx fr g=.ok ρ):∃fr',(∀t,qy fr' t=if t=te∨t=tx then .top else qy fr t)∧g fr'=.ok ρ:=by
 obtain⟨f1,h1,h⟩:=qC _ _ _ _ h;obtain⟨f2,h2,h⟩:=qC _ _ _ _ h;refine⟨f2,λt=>?_,h⟩;unfold qy;rw[h2,h1];by_cases c1:t=tx
 ·simp_all
 ·by_cases c2:t=te
  ·simp_all
  ·simp_all
theorem qjr(hm:P.follows .mixedOrders=true)(hE:XOk P E)(hf:wJ P E){run:XC}(hrun:vo P run)(hloop:∀(ρ:Q)(LM:Nat→Option Loop)(fs:List Fr)(lo:Nat)(rnd:Bool)(L:FL)(cx:CX)(c:Code)(st:St)(fr:Tr 3 SV)(hp:Tr 6 XB)(nid:Nat)(f:XK)(K:Ex→St→Prop),qgq LM fs rnd cx→StR LM fr hp nid st→run L cx c fr hp nid (qgu run L cx (.loop c) f)=.ok ρ→
  (∀e fr' hp' nid' st',StR LM fr' hp' nid' st'→f e fr' hp' nid'=.ok ρ→K e st')→vc P ⟨fs,lo,rnd,qV L⟩ (.loop c) st K):vo P (Vt E run):=by
 intro ρ LM fs lo rnd L cx c st fr hp nid f K hcx hs h hk;cases c<;>simp only[Vt,reduceCtorEq]at h
 case skip=>exact hk _ _ _ _ _ hs h
 case label=>exact hk _ _ _ _ _ hs h
 case exit=>exact hk _ _ _ _ _ hs h
 case ret=>exact hk _ _ _ _ _ hs h
 case scope c=>exact hrun ρ LM _ _ _ _ _ c _ _ _ _ _ _ hcx hs h hk
 case seq a b=>
  refine hrun ρ LM _ _ _ _ _ a _ _ _ _ _ _ hcx hs h λe fr' hp' nid' st' hs' h'=>?_;cases e with
  |normal=>exact hrun ρ LM _ _ _ _ _ b _ _ _ _ _ _ hcx hs' h' hk
  |exit i=>exact hk _ _ _ _ _ hs' h'
  |ret=>exact hk _ _ _ _ _ hs' h'
 case loop c=>exact hloop ρ LM _ _ _ _ _ c _ _ _ _ _ _ hcx hs h hk
 case block id c=>
  refine hrun ρ LM _ _ _ _ _ c _ _ _ _ _ _ hcx hs h λe fr' hp' nid' st' hs' h'=>?_;cases e with
  |normal=>exact hk _ _ _ _ _ hs' h'
  |ret=>exact hk _ _ _ _ _ hs' h'
  |exit i=>
   have h':(Bool.rec (f (.exit i) fr' hp' nid') (f .normal fr' hp' nid') (Nat.beq i id):R)=.ok ρ:=h';show if i=id then K .normal st' else K (.exit i) st'
   cases e:Nat.beq i id with
   |true=>rw[e]at h';rw[if_pos (xa6 e)];exact hk _ _ _ _ _ hs' h'
   |false=>
    rw[e]at h';rw[if_neg (λq=>by rw[q,Nat.beq_refl]at e;cases e)]
    grind
 case rangeFunc x ps a b=>
  have key:rnd=false∧WI E run L (zk fr x) ps.toList a b fr hp nid f=.ok ρ:=by
   cases cx with
   |top=>exact⟨hcx,h⟩
   |rnd=>cases h
   |gen y L0 fr0 ps0 a0 b0=>exact⟨hcx.1,h⟩
  obtain⟨rfl,h⟩:=key;have:=qgv (fs:=fs) (lo:=lo) (x:=x) (ps:=ps.toList) hm hf hrun hs h hk;exact this
 case cond x a b=>
  show GA P (env (look st.fr) x) _ _;rw[hs.1.fn.env];unfold qjn at h;split at h
  ·rename_i b0 hb
   rw[hb];cases b0 with
   |true=>exact⟨λ_=>hrun ρ LM _ _ _ _ _ a _ _ _ _ _ _ hcx hs h hk,λe=>by cases e⟩
   |false=>exact⟨λe=>(by cases e),λ_=>hrun ρ LM _ _ _ _ _ b _ _ _ _ _ _ hcx hs h hk⟩
  ·cases h
 case region id ops d=>
  have done:∀fr' hp' nid' st',StR LM fr' hp' nid' st'→Je ops.toList f fr' hp' nid'=.ok ρ→K .normal ⟨st'.fr,st'.hp,st'.nid+ops.toList.length⟩:=by
   intro fr' hp' nid' st' hs' h';unfold Je at h';rw[qj]at h';exact hk _ _ _ _ ⟨st'.fr,st'.hp,st'.nid+ops.toList.length⟩ ⟨hs'.1,hs'.2.1,by rw[hs'.2.2]⟩ h'
  show(if gz (qV L id)=true then wF P _ (.region id ops d) st K else zc P _ (kr d ops.toList=true) (dsts ops.toList) ops.toList 0 st (λst'=>FarVC (qV L id) st' (K .normal { st' with nid:=st'.nid+ops.toList.length })));unfold qco at h;split at h
  ·rename_i hl
   rw[hl,if_neg (by simp[gz])];exact KO hm hE hf hrun hcx (λe=>e) hs h done
  ·rename_i a b l hl
   rw[hl];cases e:Nat.beq a b with
   |false=>
    rw[e]at h;have hab:a≠b:=λq=>by rw[q,Nat.beq_refl]at e;cases e
    rw[if_neg (by simp[gz,hab])];refine KO hm hE hf hrun hcx (λe=>e) hs h λfr' hp' nid' st' hs' h'=>?_;exact Zt hs'.1 (λh'=>done _ _ _ _ hs' h') h'
   |true=>
    rw[e]at h;have hab:a=b:=xa6 e;rw[if_pos (by simp[gz,hab])];cases e3:Nat.beq a 3 with
    |true=>
     rw[e3]at h;obtain⟨q1,p1⟩:=qe h;have q1:d=false:=by cases d<;>first|rfl|cases q1
     subst q1;have:=qmf (P:=P) (O:=⟨fs,lo,rnd,qV L⟩) (id:=id) (K:=K) (g:=.mk) hm hE hf hrun hs p1 hk;exact this
    |false=>
    rw[e3]at h;obtain⟨q1,p1⟩:=qe h;subst q1;cases e1:Nat.beq a 1 with
    |true=>
     rw[e1]at p1
     replace p1:qoL E run cx ops.toList l fr hp nid f=.ok ρ:=p1
     unfold qoL at p1;split at p1
     ·rename_i q hq
      obtain⟨q2,p2⟩:=qe p1;exact yj (P:=P) (O:=⟨fs,lo,rnd,qV L⟩) (id:=id) (K:=K) (g:=.mk) (far:=l) hm (qlT hq) q2 (KO hm hE hf hrun hcx (J:=False) (λe=>by cases e) hs p2 λfr' hp' nid' st' hs' h'=>Zt hs'.1 (λh'=>by
       obtain⟨h1,h2⟩:=qjq hs'.1 hs'.2.1 h';refine⟨h1,λst2 hf2 hh2 hn2=>?_⟩;obtain⟨fr2,hfr2,h3⟩:=qmg h2;unfold Je at h3;rw[qj]at h3;refine hk _ _ _ _ st2 ⟨λt=>?_,λi b hb=>?_,?_⟩ h3
       ·rw[hf2,hfr2,hs'.1]
       ·rw[hh2];exact hs'.2.1 i b hb
       ·rw[hn2,hs'.2.2]) h')
     ·cases p1
    |false=>
    rw[e1]at p1;cases e2:Nat.beq a 2 with
    |true=>
     rw[e2]at p1;have:=qmd (P:=P) (O:=⟨fs,lo,rnd,qV L⟩) (id:=id) (K:=K) (g:=.mk) hm hE hf hrun hs p1 hk;exact this
    |false=>
    simp_all
end
end
end Go.Sx
end
section
namespace Go.Sx
open Go.RowKit
noncomputable section
def svF(s:SV):(Value→R)→R→R:=SV.rec (motive_1:=λ_=>(Value→R)→R→R) (motive_2:=λ_=>PUnit) (λ f d=>d) (λv f d=>f v) (λ_ _ f d=>d) (λ_ _ f d=>d) (λ_ _ _ _ _ f d=>d) (λ_ _ f d=>d) (λ_ _ _ _ f d=>d) (λ_ _ _ _ f d=>d) (λ_ _ _ _ _ _ f d=>d) (λ_ _ _ f d=>d) (λ_ f d=>d) (λ_ _ _ _ f d=>d) (λ_ _ _ _ f d=>d) (λ_ _ _ f d=>d) (λ_ _ _ _ _ f d=>d) (λ_ f d=>d) PUnit.unit (λ_ _ _ _=>PUnit.unit) s
def qrC(v:Value):(IntKind→Int→R)→R→R:=Value.rec (motive_1:=λ_=>(IntKind→Int→R)→R→R) (motive_2:=λ_=>PUnit) (motive_3:=λ_=>PUnit) (λ_ f d=>d) (λk n f d=>f k n) (λ_ _ f d=>d) (λ_ _ _ f d=>d) (λ_ f d=>d) (λ_ f d=>d) (λ_ _ _ f d=>d) (λ_ f d=>d) (λ_ f d=>d) (λ_ _ _ _ _ f d=>d) (λ f d=>d) (λ_ _ _ f d=>d) (λ f d=>d) (λ_ _ f d=>d) (λ_ _ f d=>d) (λ_ _=>PUnit.unit) PUnit.unit (λ_ _ _ _=>PUnit.unit) v
def qqw(v:Value):(Bool→R)→R→R:=Value.rec (motive_1:=λ_=>(Bool→R)→R→R) (motive_2:=λ_=>PUnit) (motive_3:=λ_=>PUnit) (λb f d=>f b) (λ_ _ f d=>d) (λ_ _ f d=>d) (λ_ _ _ f d=>d) (λ_ f d=>d) (λ_ f d=>d) (λ_ _ _ f d=>d) (λ_ f d=>d) (λ_ f d=>d) (λ_ _ _ _ _ f d=>d) (λ f d=>d) (λ_ _ _ f d=>d) (λ f d=>d) (λ_ _ f d=>d) (λ_ _ f d=>d) (λ_ _=>PUnit.unit) PUnit.unit (λ_ _ _ _=>PUnit.unit) v
def qej(s:SV)(f:IntKind→Int→R)(d:R):R:=svF s (λv=>qrC v f d) d
def qoM(s:SV)(f:Bool→R)(d:R):R:=svF s (λv=>qqw v f d) d
def kA(k:IntKind):Nat:=IntKind.rec 100 101 2 3 4 5 6 7 k
def kB(k:IntKind):Nat:=IntKind.rec 102 103 2 3 4 5 6 7 k
def qoN(k k':IntKind):Bool:=Nat.beq (kA k) (kB k')
theorem qmh(k k':IntKind):qoN k k'=eqKind k k':=by cases k<;>cases k'<;>rfl
def qoO(a b:Int):IntKind→(XR→R)→R:=Int.rec (λx=>Int.rec (λy k f=>qm (Nat.add x y) λn=>Bool.rec (.bad 19 0) (f (.pure (.val (.int k (.ofNat n))))) (Nat.ble n (hiK k))) (λy k f=>jM 19 k (Int.add (.ofNat x) (.negSucc y)) f) b) (λx k f=>jM 19 k (Int.add (.negSucc x) b) f) a
theorem qmi(a b:Int)(k:IntKind)(f:XR→R):qoO a b k f=jM 19 k (Int.add a b) f:=by
 cases a with
 |negSucc x=>rfl
 |ofNat x=>cases b with
  |negSucc y=>rfl
  |ofNat y=>
   have e:qoO (.ofNat x) (.ofNat y) k f=qm (Nat.add x y) λn=>Bool.rec (.bad 19 0) (f (.pure (.val (.int k (.ofNat n))))) (Nat.ble n (hiK k)):=rfl;rw[e,qj];unfold jM;rw[jL];rfl
def qqx(a b:Int):IntKind→(XR→R)→R:=Int.rec (λx=>Int.rec (λy k f=>Bool.rec (jM 20 k (Int.sub (.ofNat x) (.ofNat y)) f) (qm (Nat.sub x y) λn=>Bool.rec (.bad 20 0) (f (.pure (.val (.int k (.ofNat n))))) (Nat.ble n (hiK k))) (Nat.ble y x)) (λy k f=>jM 20 k (Int.sub (.ofNat x) (.negSucc y)) f) b) (λx k f=>jM 20 k (Int.sub (.negSucc x) b) f) a
theorem qmj(a b:Int)(k:IntKind)(f:XR→R):qqx a b k f=jM 20 k (Int.sub a b) f:=by
 cases a with
 |negSucc x=>rfl
 |ofNat x=>cases b with
  |negSucc y=>rfl
  |ofNat y=>
   show(Bool.rec _ _ (Nat.ble y x):R)=_;cases h:Nat.ble y x with
   |false=>rfl
   |true=>
    have e:Int.sub (.ofNat x) (.ofNat y)=.ofNat (x - y):=by
     have:=xa7 h;show(Int.ofNat x - Int.ofNat y)=_
     grind
    rw[e];show qm (Nat.sub x y) _=jM 20 k (Int.ofNat (x - y)) f;unfold jM;rw[qj,jL];rfl
def qoP(a b:Int):IntKind→(XR→R)→R:=Int.rec (λx=>Int.rec (λy k f=>qm (Nat.mul x y) λn=>Bool.rec (.bad 21 0) (f (.pure (.val (.int k (.ofNat n))))) (Nat.ble n (hiK k))) (λy k f=>jM 21 k (Int.mul (.ofNat x) (.negSucc y)) f) b) (λx k f=>jM 21 k (Int.mul (.negSucc x) b) f) a
theorem qmk(a b:Int)(k:IntKind)(f:XR→R):qoP a b k f=jM 21 k (Int.mul a b) f:=by
 cases a with
 |negSucc x=>rfl
 |ofNat x=>cases b with
  |negSucc y=>rfl
  |ofNat y=>
   have e:qoP (.ofNat x) (.ofNat y) k f=qm (Nat.mul x y) λn=>Bool.rec (.bad 21 0) (f (.pure (.val (.int k (.ofNat n))))) (Nat.ble n (hiK k)):=rfl;rw[e,qj];unfold jM;rw[jL];rfl
def qjs(op:BinOp):Bx (IntKind→Int→Int→(XR→R)→R):=
 match op with
 |.add=>.mk λk a b f=>qoO a b k f
 |.sub=>.mk λk a b f=>qqx a b k f
 |.mul=>.mk λk a b f=>qoP a b k f
 |.eql=>.mk λk a b f=>Kq (JJ a b) λb=>f (.pure (.val (.bool b)))
 |.neq=>.mk λk a b f=>Bool.rec (f (.pure (.val (.bool true)))) (f (.pure (.val (.bool false)))) (JJ a b)
 |.lss=>.mk λk a b f=>Kq (KA a b) λb=>f (.pure (.val (.bool b)))
 |.leq=>.mk λk a b f=>Bool.rec (f (.pure (.val (.bool true)))) (f (.pure (.val (.bool false)))) (KA b a)
 |.gtr=>.mk λk a b f=>Kq (KA b a) λb=>f (.pure (.val (.bool b)))
 |.geq=>.mk λk a b f=>Bool.rec (f (.pure (.val (.bool true)))) (f (.pure (.val (.bool false)))) (KA a b)
 |op=>.mk λk a b f=>qgb op k a b f
theorem qjt(b:Bool)(f:XR→R):(Bool.rec (f (.pure (.val (.bool true)))) (f (.pure (.val (.bool false)))) b:R)=Qz (!b) f:=by
 rw[jN];cases b<;>rfl
theorem qml(op:BinOp)(k:IntKind)(a b:Int)(f:XR→R):(qjs op).get k a b f=qgb op k a b f:=by
 cases op<;>first
  |rfl
  |exact qmi _ _ _ _
  |exact qmj _ _ _ _
  |exact qmk _ _ _ _
  |exact qjt _ _
def qju(l:List SV):Nat→(SV→R)→R→R:=List.rec (λ_ _ d=>d) (λa _ ih i=>Nat.rec (λf _=>f a) (λj _=>ih j) i) l
theorem qek:∀(l:List SV)(i:Nat)(f:SV→R)(d:R),qju l i f d=(match l[i]? with|some s=>f s|none=>d)
 |[],i,f,d=>by cases i<;>rfl
 |a :: l,0,f,d=>rfl
 |a :: l,i+1,f,d=>by
  rw[xd7,←qek l i f d];rfl
def qel(l:List SV):Nat→(List SV→R)→R:=List.rec (λi g=>Nat.rec (g []) (λ_ _=>.bad 65 0) i) (λa _ ih i=>Nat.rec (λg=>g []) (λj _ g=>ih j λm=>g (a :: m)) i) l
def qem(l:List SV):Nat→Nat→(List SV→R)→R:=List.rec (λo sz g=>Nat.rec (Nat.rec (g []) (λ_ _=>.bad 65 0) sz) (λ_ _=>.bad 65 0) o) (λa tl ih o=>Nat.rec (λsz g=>qel (a :: tl) sz g) (λj _ sz g=>ih j sz g) o) l
theorem qap:∀(l:List SV)(n:Nat)(g:List SV→R),qel l n g=ql 65 (Nat.ble n l.length) (g (l.take n))
 |[],0,g=>rfl
 |[],n+1,g=>rfl
 |a :: l,0,g=>rfl
 |a :: l,n+1,g=>by
  show qel l n (λm=>g (a :: m))=_;rw[qap l n];rfl
theorem qaq:∀(l:List SV)(o n:Nat)(g:List SV→R),qem l o n g=ql 65 (Nat.ble (o+n) l.length) (g ((l.drop o).take n))
 |[],0,0,g=>rfl
 |[],0,n+1,g=>by rw[xb0];rfl
 |[],o+1,n,g=>by rw[show o+1+n=(o+n)+1 by omega];rfl
 |a :: l,0,n,g=>by
  show qel (a :: l) n g=_;rw[qap,xb0];rfl
 |a :: l,o+1,n,g=>by
  show qem l o n g=_;rw[qaq l o n,show o+1+n=(o+n)+1 by omega];rfl
def qjv(l:List SV):Nat→SV→(List SV→R)→R:=List.rec (λ_ _ _=>.bad 78 0) (λa tl ih o=>Nat.rec (λs g=>g (s :: tl)) (λj _ s g=>ih j s λm=>g (a :: m)) o) l
theorem WJ:∀(l:List SV)(o:Nat)(s:SV)(g:List SV→R),qjv l o s g=Y0 s l o g
 |[],o,s,g=>by unfold Y0;cases o<;>rfl
 |a :: l,0,s,g=>by unfold Y0;rw[qX];rfl
 |a :: l,o+1,s,g=>by
  show qjv l o s (λm=>g (a :: m))=_;rw[WJ l o s];unfold Y0;rw[qX,qX];rfl
def ldC(b:Option XB)(off:Nat)(f:XR→R):R:=Option.rec (motive:=λ_=>Nat→(XR→R)→R) (λ_ _=>.bad 69 0) (λb=>XB.rec (motive:=λ_=>Nat→(XR→R)→R) (λ_ l off f=>qju l off (λs=>f (.pure s)) (.bad 64 0)) (λ_ _ _ _ _ _=>.bad 69 0) (λ_ _ _=>.bad 69 0) (λ_ _ _ _ _=>.bad 69 0) b) b off f
def ldR(b:Option XB)(k i j:Nat)(f:XR→R):R:=Option.rec (motive:=λ_=>Nat→Nat→Nat→(XR→R)→R) (λ_ _ _ _=>.bad 70 0) (λb=>XB.rec (motive:=λ_=>Nat→Nat→Nat→(XR→R)→R) (λ_ _ _ _ _ _=>.bad 70 0) (λ_ k' n l k i j f=>Qh k k' n i j 1 λo=>qju l o (λs=>f (.pure s)) (.bad 64 0)) (λ_ _ _ _ _=>.bad 70 0) (λ_ _ _ _ _ _ _=>.bad 70 0) b) b k i j f
def qnW(a:SV):Tr 6 XB→(XR→R)→R:=SV.rec (motive_1:=λ_=>Tr 6 XB→(XR→R)→R) (motive_2:=λ_=>PUnit) (λ hp f=>.bad 72 0) (λ_ hp f=>.bad 72 0) (λ_ _ hp f=>.bad 72 0) (λ_ _ hp f=>.bad 72 0) (λ_ _ _ _ _ hp f=>.bad 72 0) (λid off hp f=>ldC (hp.find id) off f) (λid k i j hp f=>ldR (hp.find id) k i j f) (λo n row ih hp f=>ZV hp (.ref o n row) f) (λ_ _ _ _ _ _ hp f=>.bad 72 0) (λ_ _ _ hp f=>.bad 72 0) (λ_ hp f=>.bad 72 0) (λ_ _ _ _ hp f=>.bad 72 0) (λ_ _ _ _ hp f=>.bad 72 0) (λ_ _ _ hp f=>.bad 72 0) (λ_ _ _ _ _ hp f=>.bad 72 0) (λ_ hp f=>.bad 72 0) PUnit.unit (λ_ _ _ _=>PUnit.unit) a
theorem Jf(l:List SV)(o:Nat)(f:XR→R):qju l o (λs=>f (.pure s)) (.bad 64 0)=ye l o f:=by rw[qek];rfl
theorem qjw(a:SV)(hp:Tr 6 XB)(f:XR→R):qnW a hp f=ZV hp a f:=by
 cases a<;>first|rfl|skip
 case ptr id off=>
  show ldC (hp.find id) off f=_;unfold ZV ldC;dsimp only;cases hp.find id with
  |none=>rfl
  |some b=>cases b<;>first|rfl|exact Jf _ _ _
 case elt id k i j=>
  show ldR (hp.find id) k i j f=_;unfold ZV ldR;dsimp only;cases hp.find id with
  |none=>rfl
  |some b=>
   cases b<;>first|rfl|skip
   rename_i t k' n l;show Qh k k' n i j 1 (λo=>qju l o (λs=>f (.pure s)) (.bad 64 0))=_
   congr 1
   funext o;exact Jf _ _ _
theorem qar(l:List SV)(o n:Nat)(f:XR→R):qem l o n (λl=>f (.pure (.agg l)))=yf l o n f:=by
 rw[qaq];unfold yf;rw[qX]
def qoQ(b:Option XB)(off sz:Nat)(f:XR→R):R:=Option.rec (motive:=λ_=>Nat→Nat→(XR→R)→R) (λ_ _ _=>.bad 73 0) (λb=>XB.rec (motive:=λ_=>Nat→Nat→(XR→R)→R) (λ_ l off sz f=>qem l off sz (λl=>f (.pure (.agg l)))) (λ_ _ _ _ _ _ _=>.bad 73 0) (λ_ _ _ _=>.bad 73 0) (λ_ _ _ _ _ _=>.bad 73 0) b) b off sz f
def qnX(a:SV):Nat→Tr 6 XB→(XR→R)→R:=SV.rec (motive_1:=λ_=>Nat→Tr 6 XB→(XR→R)→R) (motive_2:=λ_=>PUnit) (λ sz hp f=>.bad 76 0) (λ_ sz hp f=>.bad 76 0) (λ_ _ sz hp f=>.bad 76 0) (λ_ _ sz hp f=>.bad 76 0) (λ_ _ _ _ _ sz hp f=>.bad 76 0) (λid off sz hp f=>qoQ (hp.find id) off sz f) (λid k i j sz hp f=>ZW hp sz (.elt id k i j) f) (λo n row ih sz hp f=>ZW hp sz (.ref o n row) f) (λ_ _ _ _ _ _ sz hp f=>.bad 76 0) (λ_ _ _ sz hp f=>.bad 76 0) (λ_ sz hp f=>.bad 76 0) (λ_ _ _ _ sz hp f=>.bad 76 0) (λ_ _ _ _ sz hp f=>.bad 76 0) (λ_ _ _ sz hp f=>.bad 76 0) (λ_ _ _ _ _ sz hp f=>.bad 76 0) (λ_ sz hp f=>.bad 76 0) PUnit.unit (λ_ _ _ _=>PUnit.unit) a
theorem qjx(a:SV)(sz:Nat)(hp:Tr 6 XB)(f:XR→R):qnX a sz hp f=ZW hp sz a f:=by
 cases a<;>first|rfl|skip
 case ptr id off=>
  show qoQ (hp.find id) off sz f=_;unfold ZW qoQ;dsimp only;cases hp.find id with
  |none=>rfl
  |some b=>cases b<;>first|rfl|exact qar _ _ _ _
abbrev OpR:=Tr 3 SV→Tr 6 XB→Nat→(XR→R)→R
def JO(x:Operand):Bx (Tr 3 SV→SV):=Operand.rec (λt=>qm t λt=>Bx.rec (λq=>.mk λfr=>Option.rec .top (λs=>s) (q fr)) (Qa SV 3 t)) (λv=>.mk λ_=>.val v) (λ_=>.mk λ_=>.top) (λf=>.mk λ_=>.fn (.func f) [] []) x
theorem KP(x:Operand)(fr:Tr 3 SV):(JO x).get fr=zk fr x:=by
 cases x<;>first|rfl|skip
 rename_i t;have e:JO (.tmp t)=qm t λt=>Bx.rec (λq=>.mk λfr=>Option.rec .top (λs=>s) (q fr)) (Qa SV 3 t):=rfl;rw[e,qj];show(Option.rec .top (λs=>s) ((Qa SV 3 t).get fr):SV)=qy fr t;unfold qy;rw[KH]
def qen(l:List Operand):Bx (Tr 3 SV→List SV):=List.rec (.mk λ_=>[]) (λx _ ih=>Bx.rec (λa=>Bx.rec (λm=>.mk λfr=>a fr :: m fr) ih) (JO x)) l
theorem qas(fr:Tr 3 SV):∀l,(qen l).get fr=wH fr l
 |[]=>rfl
 |x :: l=>by
  show(JO x).get fr ::(qen l).get fr=_;rw[KP,qas];rfl
def eB(x:Operand)(k:(Tr 3 SV→SV)→Bx OpR):Bx OpR:=Bx.rec k (JO x)
theorem zM(x:Operand)(k:(Tr 3 SV→SV)→Bx OpR):eB x k=k (λfr=>zk fr x):=by
 show k (JO x).get=_;congr 1;funext fr;exact KP x fr
def qnY(E:XE)(t:TypeId)(x:Operand):Bx OpR:=
 match E.tys t with
 |some ⟨false,_,_,_⟩=>eB x λa=>.mk λfr hp _ f=>qnW (a fr) hp f
 |some ⟨true,sz,_,_⟩=>eB x λa=>.mk λfr hp _ f=>qnX (a fr) sz hp f
 |none=>.mk λ_ _ _ _=>.bad 77 0
def stC(b:Option XB)(id off:Nat)(v:SV)(f:XR→R):R:=Option.rec (motive:=λ_=>Nat→Nat→SV→(XR→R)→R) (λ_ _ _ _=>.bad 80 0) (λb=>XB.rec (motive:=λ_=>Nat→Nat→SV→(XR→R)→R) (λt l id off v f=>qjv l off v λl=>f (.upd id (.cells t l) undefSV)) (λ_ _ _ _ _ _ _ _=>.bad 80 0) (λ_ _ _ _ _=>.bad 80 0) (λ_ _ _ _ _ _ _=>.bad 80 0) b) b id off v f
def stR(b:Option XB)(id k i j:Nat)(v:SV)(f:XR→R):R:=Option.rec (motive:=λ_=>Nat→Nat→Nat→Nat→SV→(XR→R)→R) (λ_ _ _ _ _ _=>.bad 81 0) (λb=>XB.rec (motive:=λ_=>Nat→Nat→Nat→Nat→SV→(XR→R)→R) (λ_ _ _ _ _ _ _ _=>.bad 81 0) (λt k' n l id k i j v f=>Qh k k' n i j 1 λo=>qjv l o v λl=>f (.upd id (.rows t k' n l) undefSV)) (λ_ _ _ _ _ _ _=>.bad 81 0) (λ_ _ _ _ _ _ _ _ _=>.bad 81 0) b) b id k i j v f
def qcp(a:SV):Tr 6 XB→SV→(XR→R)→R:=SV.rec (motive_1:=λ_=>Tr 6 XB→SV→(XR→R)→R) (motive_2:=λ_=>PUnit) (λ hp v f=>.bad 82 0) (λ_ hp v f=>.bad 82 0) (λ_ _ hp v f=>.bad 82 0) (λ_ _ hp v f=>.bad 82 0) (λ_ _ _ _ _ hp v f=>.bad 82 0) (λid off hp v f=>stC (hp.find id) id off v f) (λid k i j hp v f=>stR (hp.find id) id k i j v f) (λ_ _ _ _ hp v f=>.bad 82 0) (λ_ _ _ _ _ _ hp v f=>.bad 82 0) (λ_ _ _ hp v f=>.bad 82 0) (λ_ hp v f=>.bad 82 0) (λ_ _ _ _ hp v f=>.bad 82 0) (λ_ _ _ _ hp v f=>.bad 82 0) (λ_ _ _ hp v f=>.bad 82 0) (λ_ _ _ _ _ hp v f=>.bad 82 0) (λ_ hp v f=>.bad 82 0) PUnit.unit (λ_ _ _ _=>PUnit.unit) a
theorem qgw(a:SV)(hp:Tr 6 XB)(v:SV)(f:XR→R):qcp a hp v f=Ze hp a v f:=by
 cases a<;>first|rfl|skip
 case ptr id off=>
  show stC (hp.find id) id off v f=_;unfold Ze stC;dsimp only;cases hp.find id with
  |none=>rfl
  |some b=>cases b<;>first|rfl|exact WJ _ _ _ _
 case elt id k i j=>
  show stR (hp.find id) id k i j v f=_;unfold Ze stR;dsimp only;cases hp.find id with
  |none=>rfl
  |some b=>
   cases b<;>first|rfl|skip
   rename_i t k' n l;show Qh k k' n i j 1 (λo=>qjv l o v λl=>f (.upd id (.rows t k' n l) undefSV))=_
   congr 1
   funext o;exact WJ _ _ _ _
def qjy(E:XE)(t:TypeId)(a x:Operand):Bx OpR:=
 match E.tys t with
 |some ⟨false,sz,_,_⟩=>eB a λa=>eB x λx=>.mk λfr hp _ f=>ql 86 (oneCell (x fr)) (ql 87 (Nat.beq sz 1) (qcp (a fr) hp (x fr) f))
 |_=>eB a λa=>eB x λx=>.mk λfr hp _ f=>GU E hp t (a fr) (x fr) f
def qmm(x y:SV)(h:IntKind→Int→Int→R)(sl:R):R:=qej x (λk a=>qej y (λk' b=>Bool.rec (.bad 40 0) (h k a b) (qoN k k')) sl) sl
theorem qat{s:SV}{f:IntKind→Int→R}{d:R}(h:∀k n,s≠.val (.int k n)):qej s f d=d:=by
 cases s<;>first|rfl|skip
 rename_i v;cases v<;>first|rfl|skip
 simp_all
theorem qjz(s:SV):(∃k n,s=.val (.int k n))∨∀k n,s≠.val (.int k n):=by
 by_cases h:∃k n,s=.val (.int k n)
 ·exact .inl h
 ·simp_all
theorem qmn(E:XE)(op:BinOp)(t:TypeId)(x y:SV)(f:XR→R):qmm x y (λk a b=>(qjs op).get k a b f) (qbT E op t x y f)=qbT E op t x y f:=by
 unfold qmm;rcases qjz x with⟨k,a,rfl⟩|hx
 ·rcases qjz y with⟨k',b,rfl⟩|hy
  ·show(Bool.rec (.bad 40 0) ((qjs op).get k a b f) (qoN k k'):R)=ql 40 (eqKind k k') (qgb op k a b f)
   rw[qmh,qml];rfl
  ·show qej y _ _=_
   exact qat hy
 ·exact qat hx
def qqy(E:XE)(op:BinOp)(t:TypeId)(x y:Operand):Bx OpR:=Bx.rec (λh=>eB x λa=>eB y λb=>.mk λfr _ _ f=>qmm (a fr) (b fr) (λk m n=>h k m n f) (qbT E op t (a fr) (b fr) f)) (qjs op)
def qqz(x:SV):Nat→(XR→R)→R:=SV.rec (motive_1:=λ_=>Nat→(XR→R)→R) (motive_2:=λ_=>PUnit) (λ o f=>.bad 102 0) (λ_ o f=>.bad 102 0) (λ_ _ o f=>.bad 102 0) (λ_ _ o f=>.bad 102 0) (λ_ _ _ _ _ o f=>.bad 102 0) (λid off o f=>qm (Nat.add off o) λn=>f (.pure (.ptr id n))) (λid k i j o f=>Zf (.elt id k i j) o f) (λb n row ih o f=>Zf (.ref b n row) o f) (λ_ _ _ _ _ _ o f=>.bad 102 0) (λ_ _ _ o f=>.bad 102 0) (λ_ o f=>.bad 102 0) (λ_ _ _ _ o f=>.bad 102 0) (λ_ _ _ _ o f=>.bad 102 0) (λ_ _ _ o f=>.bad 102 0) (λ_ _ _ _ _ o f=>.bad 102 0) (λ_ o f=>.bad 102 0) PUnit.unit (λ_ _ _ _=>PUnit.unit) x
theorem qmo(x:SV)(o:Nat)(f:XR→R):qqz x o f=Zf x o f:=by
 cases x<;>rfl
def qcq(E:XE)(t:TypeId)(x:Operand)(i:Nat):Bx OpR:=
 match E.tys t with
 |some ⟨_,_,_,.struct fs⟩=>(match fs[i]? with
  |some (o,s,_)=>(match Nat.ble 1 s with
   |true=>eB x λa=>qm o λo=>.mk λfr _ _ f=>qqz (a fr) o f
   |false=>.mk λ_ _ _ _=>.bad 103 0)
  |none=>.mk λ_ _ _ _=>.bad 104 0)
 |_=>.mk λ_ _ _ _=>.bad 105 0
def qqA(x:SV):(XR→R)→R:=SV.rec (motive_1:=λ_=>(XR→R)→R) (motive_2:=λ_=>PUnit) (λ f=>.bad 100 0) (λ_ f=>.bad 100 0) (λ_ _ f=>.bad 100 0) (λ_ _ f=>.bad 100 0) (λg a b iha ihb f=>qix (.fn g a b) f) (λid off f=>f (.pure (.ptr id off))) (λid k i j f=>f (.pure (.elt id k i j))) (λo n row ih f=>f (.pure (.ref o n row))) (λ_ _ _ _ _ _ f=>.bad 100 0) (λ_ _ _ f=>.bad 100 0) (λ_ f=>.bad 100 0) (λ_ _ _ _ f=>.bad 100 0) (λ_ _ _ _ f=>.bad 100 0) (λ_ _ _ f=>.bad 100 0) (λ_ _ _ _ _ f=>.bad 100 0) (λ_ f=>.bad 100 0) PUnit.unit (λ_ _ _ _=>PUnit.unit) x
theorem qmp(x:SV)(f:XR→R):qqA x f=qix x f:=by cases x<;>rfl
def qjA(E:XE)(c:Call):Bx OpR:=
 match c.callee with
 |.value (.func g)=>Bx.rec (λm=>.mk λfr _ _ f=>gI (m fr) λl=>f (.call g l)) (qen c.args.toList)
 |.builtin .len=>(match c.args.toList,c.argTypes.toList with
  |[x],[t]=>(match E.tys t with
   |some ⟨_,_,_,.slice _ _⟩=>eB x λa=>.mk λfr _ _ f=>qiy (a fr) f
   |some ⟨_,_,_,.array n _ _⟩=>.mk λ_ _ _ f=>f (.pure (Ψ (Φ Γ (.ofNat n))))
   |_=>.mk λfr hp id f=>vI E fr hp c id f)
  |_,_=>.mk λfr hp id f=>vI E fr hp c id f)
 |.builtin .append=>(match c.args.toList,c.argTypes.toList with
  |[s,x],[t,t']=>(match Nat.beq t t' with
   |true=>eB s λa=>eB x λb=>.mk λfr hp id f=>Zi E hp t (a fr) (b fr) id f
   |false=>.mk λ_ _ _ _=>.bad 231 0)
  |_,_=>.mk λfr hp id f=>vI E fr hp c id f)
 |_=>.mk λfr hp id f=>vI E fr hp c id f
def cOp(E:XE)(op:Op):Bx OpR:=
 match op with
 |.move x=>eB x λa=>.mk λfr _ _ f=>f (.pure (a fr))
 |.assign x=>eB x λa=>.mk λfr _ _ f=>f (.pure (a fr))
 |.pick c a b=>eB c λc=>eB a λa=>eB b λb=>.mk λfr _ _ f=>qdv (c fr) (a fr) (b fr) f
 |.alloc t=>.mk λ_ _ id f=>Wj E t id f
 |.box t x=>eB x λa=>.mk λfr _ id f=>qlJ E t (a fr) id f
 |.load t x=>qnY E t x
 |.store t a x=>qjy E t a x
 |.nilCheck x=>eB x λa=>.mk λfr _ _ f=>qqA (a fr) f
 |.binOp op t x y _=>qqy E op t x y
 |.unOp op _ x=>eB x λa=>.mk λfr _ _ f=>xUn op (a fr) f
 |.convert s t x=>eB x λa=>.mk λfr _ _ f=>qdu E s t (a fr) f
 |.fieldAddr t x i=>qcq E t x i
 |.field t x i=>eB x λa=>.mk λfr _ _ f=>Wl E t (a fr) i f
 |.indexAddr t x i=>eB x λa=>eB i λb=>.mk λfr _ _ f=>ws E t (a fr) (b fr) f
 |.extract x i=>eB x λa=>.mk λfr _ _ f=>Zg (a fr) i f
 |.call c=>qjA E c
 |.index t x i=>eB x λa=>eB i λb=>.mk λfr _ _ f=>Wm E t (a fr) (b fr) f
 |.makeMap t rs=>.mk λ_ _ id f=>Zk E t rs.isSome id f
 |.lookup t x k ok=>eB x λa=>eB k λb=>.mk λfr hp _ f=>KL E hp t (a fr) (b fr) ok f
 |op=>.mk λfr hp id f=>xOp E fr hp id op f
theorem qgx(E:XE)(t:TypeId)(x:Operand)(i:Nat)(fr:Tr 3 SV)(hp:Tr 6 XB)(id:Nat)(f:XR→R):(qcq E t x i).get fr hp id f=va E t (zk fr x) i f:=by
 unfold qcq va;cases E.tys t with
 |none=>rfl
 |some ti=>
  obtain⟨a,b,c,d⟩:=ti;cases d<;>first|rfl|skip
  rename_i fs;dsimp only;cases fs[i]? with
  |none=>rfl
  |some y=>
   obtain⟨o,s,ag⟩:=y;dsimp only;cases Nat.ble 1 s with
   |false=>rfl
   |true=>
    dsimp only;rw[zM,qj];exact qmo _ _ _
theorem qjB(E:XE)(c:Call)(fr:Tr 3 SV)(hp:Tr 6 XB)(id:Nat)(f:XR→R):(qjA E c).get fr hp id f=vI E fr hp c id f:=by
 unfold qjA;split
 ·rename_i g hc
  show gI ((qen c.args.toList).get fr) (λl=>f (.call g l))=_;rw[qX,qas];unfold vI;rw[hc];show _=Qb ([]++(wH fr c.args.toList++[])) λl=>f (.call g l);rw[ku,List.nil_append,xd3]
 ·rename_i hc
  split
  ·rename_i x t ha ht
   have e:vI E fr hp c id f=qgg E t (zk fr x) f:=by
    unfold vI;rw[hc];show Zl E hp .len c.argTypes.toList (wH fr c.args.toList) id f=_;rw[ha,ht];rfl
   split
   ·rename_i hT
    rw[zM,e];unfold qgg;rw[hT];rfl
   ·rename_i hT
    rw[e];unfold qgg;rw[hT];rfl
   ·rfl
  ·rfl
 ·rename_i hc
  split
  ·rename_i s x t t' ha ht
   have e:vI E fr hp c id f=ql 231 (Nat.beq t t') (Zi E hp t (zk fr s) (zk fr x) id f):=by
    unfold vI;rw[hc];show Zl E hp .append c.argTypes.toList (wH fr c.args.toList) id f=_;rw[ha,ht];rfl
   rw[e];cases Nat.beq t t' with
   |true=>dsimp only;rw[zM,zM];rfl
   |false=>rfl
  ·rfl
 ·rfl
theorem qcr(E:XE)(op:Op)(fr:Tr 3 SV)(hp:Tr 6 XB)(id:Nat)(f:XR→R):(cOp E op).get fr hp id f=xOp E fr hp id op f:=by
 cases op<;>first|rfl|(unfold cOp xOp;dsimp only)
 case move x=>rw[zM,kY];rfl
 case assign x=>rw[zM,kY];rfl
 case pick=>rw[zM,zM,zM];rfl
 case box=>rw[zM];rfl
 case load t x=>
  unfold qnY YY;cases E.tys t with
  |none=>rfl
  |some ti=>
   obtain⟨a,b,c,d⟩:=ti;cases a
   ·dsimp only;rw[zM];exact qjw _ _ _
   ·dsimp only;rw[zM];exact qjx _ _ _ _
 case store t a x=>
  unfold qjy;split
  ·rename_i hT
   rw[zM,zM];unfold GU;rw[hT];show ql 86 _ (ql 87 _ (qcp (zk fr a) hp (zk fr x) f))=_;rw[qgw]
  ·rw[zM,zM];rfl
 case nilCheck=>rw[zM];exact qmp _ _
 case binOp op t x y t'=>
  unfold qqy;show(eB x λa=>eB y λb=>.mk λfr _ _ f=>qmm (a fr) (b fr) (λk m n=>(qjs op).get k m n f) (qbT E op t (a fr) (b fr) f)).get fr hp id f=_;rw[zM,zM];exact qmn E op t _ _ f
 case unOp=>rw[zM];rfl
 case convert=>rw[zM];rfl
 case fieldAddr t x i=>exact qgx _ _ _ _ _ _ _ _
 case field=>rw[zM];rfl
 case indexAddr=>rw[zM,zM];rfl
 case extract=>rw[zM];rfl
 case call c=>exact qjB _ _ _ _ _ _
 case index=>rw[zM,zM];rfl
 case lookup=>rw[zM,zM];rfl
abbrev GK:=Tr 3 SV→Tr 6 XB→Nat→R
abbrev qrD:=XC→CX→Nat→XR→Tr 3 SV→Tr 6 XB→Nat→GK→R
def qgy(E:XE)(j:Bool)(d:Option Tmp):Bx qrD:=
 match d with
 |none=>.mk λrun cx id xr fr hp nid g=>XR.rec (motive:=λ_=>XC→CX→Nat→Tr 3 SV→Tr 6 XB→Nat→GK→R) (λ_ _ _ _ fr hp nid g=>g fr hp nid) (λb _ _ _ id fr hp nid g=>zf (some b) 22 hp id λhp=>g fr hp nid)
  (λi b s run cx id fr hp nid g=>Option.rec (.bad 304 0) (λ_=>zf (some b) 22 hp i λhp=>g fr hp nid) (hp.find i)) (λi b s run cx id fr hp nid g=>Zp E run cx j none id (.grow i b s) fr hp nid g) (λh l run cx id fr hp nid g=>Zp E run cx j none id (.call h l) fr hp nid g) (λh l run cx id fr hp nid g=>Zp E run cx j none id (.yield h l) fr hp nid g) xr run cx id fr hp nid g
 |some d=>qm d λd=>Bx.rec (λp=>.mk λrun cx id xr fr hp nid g=>XR.rec (motive:=λ_=>XC→CX→Nat→Tr 3 SV→Tr 6 XB→Nat→GK→R) (λs _ _ _ fr hp nid g=>p fr (some s) λfr=>g fr hp nid) (λb s _ _ id fr hp nid g=>zf (some b) 22 hp id λhp=>p fr (some s) λfr=>g fr hp nid)
  (λi b s run cx id fr hp nid g=>Option.rec (.bad 304 0) (λ_=>zf (some b) 22 hp i λhp=>p fr (some s) λfr=>g fr hp nid) (hp.find i)) (λi b s run cx id fr hp nid g=>Zp E run cx j (some d) id (.grow i b s) fr hp nid g) (λh l run cx id fr hp nid g=>Zp E run cx j (some d) id (.call h l) fr hp nid g) (λh l run cx id fr hp nid g=>Zp E run cx j (some d) id (.yield h l) fr hp nid g) xr run cx id fr hp nid g) (Qw SV 3 d)
theorem qmq(E:XE)(j:Bool)(d:Option Tmp)(run:XC)(cx:CX)(id:Nat)(xr:XR)(fr:Tr 3 SV)(hp:Tr 6 XB)(nid:Nat)(g:GK):(qgy E j d).get run cx id xr fr hp nid g=Zp E run cx j d id xr fr hp nid g:=by
 cases d with
 |none=>
  cases xr<;>first|rfl|skip
  rename_i i b s;show(Option.rec (.bad 304 0) (λ_=>zf (some b) 22 hp i λhp=>g fr hp nid) (hp.find i):R)=_;unfold Zp;dsimp only;cases hp.find i<;>rfl
 |some d=>
  unfold qgy;dsimp only;rw[qj];have e:∀(s:SV)(fr:Tr 3 SV)(k:Tr 3 SV→R),(Qw SV 3 d).get fr (some s) k=putD (some d) s fr k:=λs fr k=>by
   show _=zf (some s) 12 fr d k;rw[Wg]
  cases xr<;>first|rfl|exact e _ _ _|skip
  ·rename_i b s
   show zf (some b) 22 hp id (λhp=>(Qw SV 3 d).get fr (some s) λfr=>g fr hp nid)=_;unfold Zp;dsimp only
   congr 1
   funext hp;exact e _ _ _
  ·rename_i i b s
   show(Option.rec (.bad 304 0) (λ_=>zf (some b) 22 hp i λhp=>(Qw SV 3 d).get fr (some s) λfr=>g fr hp nid) (hp.find i):R)=_;unfold Zp;dsimp only;cases hp.find i with
   |none=>rfl
   |some y=>
    show zf (some b) 22 hp i (λhp=>(Qw SV 3 d).get fr (some s) λfr=>g fr hp nid)=zf (some b) 22 hp i (λhp=>putD (some d) s fr λfr=>g fr hp nid)
    congr 1
    funext hp;exact e _ _ _
abbrev qjC:=XC→CX→Tr 3 SV→Tr 6 XB→Nat→GK→R
def cGo(E:XE)(j:Bool)(o:Oper)(i:Nat)(k:(XC→CX→Tr 3 SV→Tr 6 XB→Nat→GK→R)→Bx qjC):Bx qjC:=
 Bx.rec (λq=>Bx.rec (λr=>(match gK o.op with
  |true=>k λrun cx fr hp nid g=>qm (Nat.add nid i) λid=>q fr hp id λxr=>r run cx id xr fr hp nid g
  |false=>k λrun cx fr hp nid g=>q fr hp (Nat.add nid i) λxr=>r run cx (Nat.add nid i) xr fr hp nid g)) (qgy E j o.dst)) (cOp E o.op)
def Z5(E:XE)(j:Bool)(ds:List (Option Tmp))(l:List Oper):Nat→Bx qjC:=
 List.rec (motive:=λ_=>Nat→Bx qjC) (λ_=>.mk λ_ _ fr hp nid g=>g fr hp nid) (λo _ ih i=>qm (Nat.succ i) λi1=>Bx.rec (λrest=>cGo E j o i λgo=>(match o.guard with
  |none=>.mk λrun cx fr hp nid g=>go run cx fr hp nid λfr hp nid=>rest run cx fr hp nid g
  |some p=>.mk λrun cx fr hp nid g=>yo ds (some p) o.dst fr hp nid (go run cx fr hp nid λfr hp nid=>rest run cx fr hp nid g) (λfr hp nid=>rest run cx fr hp nid g))) (ih i1)) l
theorem qoR(E:XE)(j:Bool)(o:Oper)(i:Nat)(k:(XC→CX→Tr 3 SV→Tr 6 XB→Nat→GK→R)→Bx qjC):cGo E j o i k=k λrun cx fr hp nid g=>xGo E run cx j o fr hp nid i g:=by
 show(match gK o.op with
  |true=>k λrun cx fr hp nid g=>qm (Nat.add nid i) λid=>(cOp E o.op).get fr hp id λxr=>(qgy E j o.dst).get run cx id xr fr hp nid g
  |false=>k λrun cx fr hp nid g=>(cOp E o.op).get fr hp (Nat.add nid i) λxr=>(qgy E j o.dst).get run cx (Nat.add nid i) xr fr hp nid g)=_
 have e:∀run cx fr hp nid g id,(cOp E o.op).get fr hp id (λxr=>(qgy E j o.dst).get run cx id xr fr hp nid g)=xOp E fr hp id o.op λxr=>Zp E run cx j o.dst id xr fr hp nid g:=λrun cx fr hp nid g id=>by
  rw[qcr]
  congr 1
  funext xr;exact qmq _ _ _ _ _ _ _ _ _ _ _
 cases gK o.op with
 |true=>
  dsimp only
  congr 1
  funext run cx fr hp nid g;rw[qj,e];unfold xGo;rw[qj];rfl
 |false=>
  dsimp only
  congr 1
  funext run cx fr hp nid g;rw[e];unfold xGo;rw[qj];rfl
theorem qeo(E:XE)(j:Bool)(ds:List (Option Tmp))(run:XC)(cx:CX):∀(l:List Oper)(i:Nat)(fr:Tr 3 SV)(hp:Tr 6 XB)(nid:Nat)(g:GK),(Z5 E j ds l i).get run cx fr hp nid g=Zq E run cx j ds l i fr hp nid g
 |[],i,fr,hp,nid,g=>rfl
 |o :: l,i,fr,hp,nid,g=>by
  have ih:=qeo E j ds run cx l (Nat.succ i);show Bx.get (qm (Nat.succ i) λi1=>Bx.rec (λrest=>cGo E j o i λgo=>(match o.guard with
   |none=>.mk λrun cx fr hp nid g=>go run cx fr hp nid λfr hp nid=>rest run cx fr hp nid g
   |some p=>.mk λrun cx fr hp nid g=>yo ds (some p) o.dst fr hp nid (go run cx fr hp nid λfr hp nid=>rest run cx fr hp nid g) (λfr hp nid=>rest run cx fr hp nid g))) (Z5 E j ds l i1)) run cx fr hp nid g=yo ds o.guard o.dst fr hp nid (xGo E run cx j o fr hp nid i λfr hp nid=>qm (Nat.succ i) λi=>Zq E run cx j ds l i fr hp nid g) (λfr hp nid=>qm (Nat.succ i) λi=>Zq E run cx j ds l i fr hp nid g)
  rw[qj];show(cGo E j o i λgo=>(match o.guard with
   |none=>.mk λrun cx fr hp nid g=>go run cx fr hp nid λfr hp nid=>(Z5 E j ds l (Nat.succ i)).get run cx fr hp nid g
   |some p=>.mk λrun cx fr hp nid g=>yo ds (some p) o.dst fr hp nid (go run cx fr hp nid λfr hp nid=>(Z5 E j ds l (Nat.succ i)).get run cx fr hp nid g) (λfr hp nid=>(Z5 E j ds l (Nat.succ i)).get run cx fr hp nid g))).get run cx fr hp nid g=_
  rw[qoR];have e:(λfr hp nid=>(Z5 E j ds l (Nat.succ i)).get run cx fr hp nid g)=λfr hp nid=>qm (Nat.succ i) λi=>Zq E run cx j ds l i fr hp nid g:=by
   funext fr hp nid;rw[qj,ih]
  cases o.guard with
  |none=>
   show xGo E run cx j o fr hp nid i (λfr hp nid=>(Z5 E j ds l (Nat.succ i)).get run cx fr hp nid g)=_;rw[e];rfl
  |some p=>
   show yo ds (some p) o.dst fr hp nid (xGo E run cx j o fr hp nid i (λfr hp nid=>(Z5 E j ds l (Nat.succ i)).get run cx fr hp nid g)) (λfr hp nid=>(Z5 E j ds l (Nat.succ i)).get run cx fr hp nid g)=_;rw[e]
abbrev ChR:=XC→Tr 3 SV→Tr 6 XB→Nat→List (Tr 6 XB)→CK→R
def okK(r:R)(g:SV→Tr 6 XB→Nat→R):R:=R.rec (λq=>Q.rec (λs hp nid=>g s hp nid) q) (λc i=>.bad c i) r
theorem qjD(E:XE)(run:XC)(id:Nat)(o:Oper)(fr:Tr 3 SV)(hp:Tr 6 XB)(g:SV→Tr 6 XB→Nat→R):okK ((cOp E o.op).get fr hp id λxr=>qan E run id xr hp okQ) g=Kr E run id o fr hp g:=by
 rw[qcr];unfold okK Kr;cases (xOp E fr hp id o.op λxr=>qan E run id xr hp okQ)with
 |ok q=>cases q;rfl
 |bad c i=>rfl
def qjE(xr:XR):R:=XR.rec (λs=>.ok (.mk s .nil 0)) (λ_ _=>.bad 382 0) (λ_ _ _=>.bad 382 0) (λ_ _ _=>.bad 382 0) (λ_ _=>.bad 382 0) (λ_ _=>.bad 382 0) xr
theorem qjF:qjE=qec:=by funext xr;cases xr<;>rfl
def cPu(E:XE)(op:Op):Bx (Tr 3 SV→Tr 6 XB→R):=
 match qao E op with
 |some x=>Bx.rec (λq=>.mk λfr hp=>Ja (q fr) hp) (JO x)
 |none=>Bx.rec (λq=>.mk λfr hp=>q fr hp 0 qjE) (cOp E op)
theorem qoS(E:XE)(op:Op)(fr:Tr 3 SV)(hp:Tr 6 XB):(cPu E op).get fr hp=Jb E fr hp op:=by
 unfold cPu Jb;cases qao E op with
 |some x=>
  show Ja ((JO x).get fr) hp=Ja (zk fr x) hp;rw[KP]
 |none=>
  show(cOp E op).get fr hp 0 qjE=xOp E fr hp 0 op qec;rw[qcr,qjF]
theorem Vu(E:XE)(o:Oper)(fr:Tr 3 SV)(hp:Tr 6 XB)(g:SV→R):okK ((cPu E o.op).get fr hp) (λs _ _=>g s)=gN E o fr hp g:=by
 rw[qoS];unfold okK gN;cases Jb E fr hp o.op with
 |ok q=>cases q;rfl
 |bad c i=>rfl
def JP(d:Option Tmp):Bx (Tr 3 SV→SV→(Tr 3 SV→R)→R):=
 match d with
 |none=>.mk λfr _ g=>g fr
 |some d=>qm d λd=>Bx.rec (λp=>.mk λfr s g=>p fr (some s) g) (Qw SV 3 d)
theorem qmr(d:Option Tmp)(fr:Tr 3 SV)(s:SV)(g:Tr 3 SV→R):(JP d).get fr s g=putD d s fr g:=by
 cases d with
 |none=>rfl
 |some d=>
  unfold JP;dsimp only;rw[qj];show(Qw SV 3 d).get fr (some s) g=zf (some s) 12 fr d g;rw[Wg]
def qcs(E:XE)(n:Nat)(o:Oper)(rest:ChR):Bx ChR:=
 Bx.rec (λu=>Bx.rec (λq=>Bx.rec (λp=>(match gK o.op with
  |true=>.mk λrun fr hp nid hs g=>qm (Nat.add nid n) λid=>okK (q fr hp id λxr=>qan E run id xr hp okQ) λs hp' nid'=>qm (Nat.succ nid') λnid'=>p fr s λfr=>rest run fr hp' nid' (hs++[hp']) g
  |false=>(match GZ o.op with
   |true=>.mk λrun fr hp nid hs g=>okK (u fr (JN (zL fr o.op) hp)) λs _ _=>p fr s λfr=>rest run fr hp nid hs g
   |false=>.mk λrun fr hp nid hs g=>okK (u fr .nil) λs _ _=>p fr s λfr=>rest run fr hp nid hs g))) (JP o.dst)) (cOp E o.op)) (cPu E o.op)
def cCh(E:XE)(n:Nat)(ds:List (Option Tmp))(l:List Oper):Bx ChR:=
 List.rec (.mk λ_ fr hp nid hs g=>g fr hp nid hs) (λo _ ih=>Bx.rec (λrest=>Bx.rec (λgo=>(match o.guard with
  |none=>.mk go
  |some p=>.mk λrun fr hp nid hs g=>Option.rec (.bad 386 0) (λsk=>Bool.rec (go run fr hp nid hs g) (putD o.dst undefSV fr λfr=>Bool.rec (rest run fr hp nid hs g) (qm (Nat.add nid n) λnid=>rest run fr hp nid (hs++[hp]) g) (gK o.op)) sk) (gdX ds (some p) fr))) (qcs E n o rest)) ih) l
theorem qms(E:XE)(n:Nat)(o:Oper)(rest:ChR)(run:XC)(fr:Tr 3 SV)(hp:Tr 6 XB)(nid:Nat)(hs:List (Tr 6 XB))(g:CK):(qcs E n o rest).get run fr hp nid hs g=(Bool.rec (gN E o fr (JN (zL fr o.op) hp) λs=>putD o.dst s fr λfr=>rest run fr hp nid hs g)
        (qm (nid+n) λid=>Kr E run id o fr hp λs hp' nid'=>qm (Nat.succ nid') λnid'=>putD o.dst s fr λfr=>rest run fr hp' nid' (hs++[hp']) g) (gK o.op):R):=by
 have e1:∀(s:SV)(k:Tr 3 SV→R),(JP o.dst).get fr s k=putD o.dst s fr k:=λs k=>qmr _ _ _ _;show Bx.get (match gK o.op with
  |true=>.mk λrun fr hp nid hs g=>qm (Nat.add nid n) λid=>okK ((cOp E o.op).get fr hp id λxr=>qan E run id xr hp okQ) λs hp' nid'=>qm (Nat.succ nid') λnid'=>(JP o.dst).get fr s λfr=>rest run fr hp' nid' (hs++[hp']) g
  |false=>(match GZ o.op with
   |true=>.mk λrun fr hp nid hs g=>okK ((cPu E o.op).get fr (JN (zL fr o.op) hp)) λs _ _=>(JP o.dst).get fr s λfr=>rest run fr hp nid hs g
   |false=>.mk λrun fr hp nid hs g=>okK ((cPu E o.op).get fr .nil) λs _ _=>(JP o.dst).get fr s λfr=>rest run fr hp nid hs g)) run fr hp nid hs g=_
 cases gK o.op with
 |true=>
  show qm (Nat.add nid n) (λid=>okK ((cOp E o.op).get fr hp id λxr=>qan E run id xr hp okQ) λs hp' nid'=>qm (Nat.succ nid') λnid'=>(JP o.dst).get fr s λfr=>rest run fr hp' nid' (hs++[hp']) g)=qm (nid+n) _;rw[qj,qj,qjD]
  congr 1
  simp_all
 |false=>
  cases hr:GZ o.op with
  |true=>
   show okK ((cPu E o.op).get fr (JN (zL fr o.op) hp)) (λs _ _=>(JP o.dst).get fr s λfr=>rest run fr hp nid hs g)=_;rw[Vu];show gN _ _ _ _ _=gN _ _ _ _ _
   congr 1
   simp_all
  |false=>
   show okK ((cPu E o.op).get fr .nil) (λs _ _=>(JP o.dst).get fr s λfr=>rest run fr hp nid hs g)=_;rw[Vu];have:JN (zL fr o.op) hp=.nil:=by unfold zL;rw[hr];rfl
   show gN _ _ _ _ _=gN _ _ _ _ _
   simp_all
theorem qjG(E:XE)(n:Nat)(ds:List (Option Tmp))(run:XC):∀(l:List Oper)(fr:Tr 3 SV)(hp:Tr 6 XB)(nid:Nat)(hs:List (Tr 6 XB))(g:CK),(cCh E n ds l).get run fr hp nid hs g=gU E run n ds l fr hp nid hs g
 |[],fr,hp,nid,hs,g=>rfl
 |o :: l,fr,hp,nid,hs,g=>by
  have ih:=qjG E n ds run l;have ihf:(cCh E n ds l).get run=gU E run n ds l:=by funext fr hp nid hs g;exact ih fr hp nid hs g
  have go:=qms E n o (cCh E n ds l).get run;show Bx.get (match o.guard with
   |none=>.mk (qcs E n o (cCh E n ds l).get).get
   |some p=>.mk λrun fr hp nid hs g=>Option.rec (.bad 386 0) (λsk=>Bool.rec ((qcs E n o (cCh E n ds l).get).get run fr hp nid hs g) (putD o.dst undefSV fr λfr=>Bool.rec ((cCh E n ds l).get run fr hp nid hs g) (qm (Nat.add nid n) λnid=>(cCh E n ds l).get run fr hp nid (hs++[hp]) g) (gK o.op)) sk) (gdX ds (some p) fr)) run fr hp nid hs g=(match gdX ds o.guard fr with
   |some false=>Bool.rec (gN E o fr (JN (zL fr o.op) hp) λs=>putD o.dst s fr λfr=>gU E run n ds l fr hp nid hs g)
    (qm (nid+n) λid=>Kr E run id o fr hp λs hp' nid'=>qm (Nat.succ nid') λnid'=>putD o.dst s fr λfr=>gU E run n ds l fr hp' nid' (hs++[hp']) g) (gK o.op)
   |some true=>putD o.dst undefSV fr λfr=>Bool.rec (gU E run n ds l fr hp nid hs g) (qm (nid+n) λnid=>gU E run n ds l fr hp nid (hs++[hp]) g) (gK o.op)
   |none=>.bad 386 0)
  cases hg:o.guard with
  |none=>
   show(qcs E n o (cCh E n ds l).get).get run fr hp nid hs g=_;rw[go,ihf];rfl
  |some p=>
   show(Option.rec (.bad 386 0) (λsk=>Bool.rec ((qcs E n o (cCh E n ds l).get).get run fr hp nid hs g) (putD o.dst undefSV fr λfr=>Bool.rec ((cCh E n ds l).get run fr hp nid hs g) (qm (Nat.add nid n) λnid=>(cCh E n ds l).get run fr hp nid (hs++[hp]) g) (gK o.op)) sk) (gdX ds (some p) fr):R)=_;cases gdX ds (some p) fr with
   |none=>rfl
   |some sk=>
    cases sk with
    |false=>
     show(qcs E n o (cCh E n ds l).get).get run fr hp nid hs g=_;rw[go,ihf]
    |true=>
     rw[ihf];rfl
def cCk(l:List Oper)(E:XE)(ops:List Oper):Nat→Bx (Tr 3 SV→List (Tr 6 XB)→R→R):=
 List.rec (motive:=λ_=>Nat→Bx (Tr 3 SV→List (Tr 6 XB)→R→R)) (λ_=>.mk λ_ _ r=>r) (λo _ ih i=>qm (Nat.succ i) λi1=>Bx.rec (λrest=>(match GZ o.op with
  |true=>qm (loC l i) λlo=>qm (hiC l i) λhi=>qm (kc (efL l) i) λtx=>(match Nat.beq lo tx&&Nat.beq hi tx with
   |true=>.mk rest
   |false=>.mk λfr hs r=>Bool.rec (rest fr hs r) (QF E fr o lo hi tx (rest fr hs r) hs 0) (zL fr o.op&&KB (dsts l) o fr))
  |false=>.mk rest)) (ih i1)) ops
theorem Vv(E:XE)(fr:Tr 3 SV)(o:Oper)(t:Nat)(r:R):∀(hs:List (Tr 6 XB))(k:Nat),QF E fr o t t t r hs k=r
 |[],k=>rfl
 |hp :: hs,k=>by
  show(Bool.rec (qm (Nat.succ k) λk=>QF E fr o t t t r hs k) (WE E fr o hp (qm (Nat.succ k) λk=>QF E fr o t t t r hs k)) (Nat.ble t k&&(Nat.ble k t&&!(Nat.beq k t))):R)=r;have:(Nat.ble t k&&(Nat.ble k t&&!(Nat.beq k t)))=false:=by
   cases h1:Nat.ble t k with
   |false=>rfl
   |true=>
    cases h2:Nat.ble k t with
    |false=>rfl
    |true=>
     (simp_all;omega)
  rw[this];show(qm (Nat.succ k) λk=>QF E fr o t t t r hs k)=r;rw[qj];exact Vv E fr o t r hs _
theorem qjH(E:XE)(l:List Oper)(fr:Tr 3 SV)(hs:List (Tr 6 XB))(r:R):∀(ops:List Oper)(i:Nat),(cCk l E ops i).get fr hs r=Jc E l fr hs r ops i
 |[],i=>rfl
 |o :: ops,i=>by
  have ih:=qjH E l fr hs r ops (Nat.succ i);show Bx.get (qm (Nat.succ i) λi1=>Bx.rec (λrest=>(match GZ o.op with
   |true=>qm (loC l i) λlo=>qm (hiC l i) λhi=>qm (kc (efL l) i) λtx=>(match Nat.beq lo tx&&Nat.beq hi tx with
    |true=>.mk rest
    |false=>.mk λfr hs r=>Bool.rec (rest fr hs r) (QF E fr o lo hi tx (rest fr hs r) hs 0) (zL fr o.op&&KB (dsts l) o fr))
   |false=>.mk rest)) (cCk l E ops i1)) fr hs r=(Bool.rec (qm (Nat.succ i) λi=>Jc E l fr hs r ops i) (qm (loC l i) λlo=>qm (hiC l i) λhi=>qm (kc (efL l) i) λtx=>QF E fr o lo hi tx (qm (Nat.succ i) λi=>Jc E l fr hs r ops i) hs 0) (zL fr o.op&&KB (dsts l) o fr):R)
  rw[qj];have e:(qm (Nat.succ i) λi=>Jc E l fr hs r ops i)=(cCk l E ops (Nat.succ i)).get fr hs r:=by rw[qj,ih]
  rw[e];cases hr:GZ o.op with
  |false=>
   have:(zL fr o.op&&KB (dsts l) o fr)=false:=by unfold zL;rw[hr];rfl
   rw[this]
  |true=>
   show Bx.get (qm (loC l i) λlo=>qm (hiC l i) λhi=>qm (kc (efL l) i) λtx=>(match Nat.beq lo tx&&Nat.beq hi tx with
    |true=>.mk (cCk l E ops (Nat.succ i)).get
    |false=>.mk λfr hs r=>Bool.rec ((cCk l E ops (Nat.succ i)).get fr hs r) (QF E fr o lo hi tx ((cCk l E ops (Nat.succ i)).get fr hs r) hs 0) (zL fr o.op&&KB (dsts l) o fr))) fr hs r=_
   rw[qj,qj,qj,qj,qj,qj];cases h:(Nat.beq (loC l i) (kc (efL l) i)&&Nat.beq (hiC l i) (kc (efL l) i))with
   |false=>rfl
   |true=>
    rw[xe6]at h;rw[xa6 h.1,xa6 h.2,Vv];cases (zL fr o.op&&KB (dsts l) o fr)<;>rfl
abbrev qjI:=XC→CX→Tr 3 SV→Tr 6 XB→Nat→XK→R
def qoT(E:XE)(L:FL)(id:Nat)(d:Bool)(ops:List Oper):Bx qjI:=
 match qV L id with
 |[]=>Kq (kr d ops) λj=>Bx.rec (λq=>qm ops.length λn=>.mk λrun cx fr hp nid f=>q run cx fr hp nid λfr hp nid=>qm (Nat.add nid n) λnid=>f .normal fr hp nid) (Z5 E j (dsts ops) ops 0)
 |(2,2) :: _=>(match d,G3 ops with
  |true,true=>qm ops.length λn=>Bx.rec (λq=>Bx.rec (λck=>.mk λrun cx fr hp nid f=>q run fr hp nid [hp] λfr hp nid hs=>ck fr hs (qm (Nat.add nid n) λnid=>f .normal fr hp nid)) (cCk ops E ops 0)) (cCh E n (dsts ops) ops)
  |_,_=>.mk λrun cx fr hp nid f=>qco E run L cx id d ops fr hp nid f)
 |_=>.mk λrun cx fr hp nid f=>qco E run L cx id d ops fr hp nid f
theorem qmt(E:XE)(L:FL)(id:Nat)(d:Bool)(ops:List Oper)(run:XC)(cx:CX)(fr:Tr 3 SV)(hp:Tr 6 XB)(nid:Nat)(f:XK):(qoT E L id d ops).get run cx fr hp nid f=qco E run L cx id d ops fr hp nid f:=by
 unfold qoT;split
 ·rename_i h
  unfold qco;rw[h,Q7];have e:(Bx.rec (λq=>qm ops.length λn=>.mk λrun cx fr hp nid f=>q run cx fr hp nid λfr hp nid=>qm (Nat.add nid n) λnid=>f .normal fr hp nid) (Z5 E (kr d ops) (dsts ops) ops 0):Bx qjI)=.mk λrun cx fr hp nid f=>(Z5 E (kr d ops) (dsts ops) ops 0).get run cx fr hp nid λfr hp nid=>qm (Nat.add nid ops.length) λnid=>f .normal fr hp nid:=by
   show(qm ops.length λn=>_)=_;rw[qj];rfl
  rw[e];show(Z5 E (kr d ops) (dsts ops) ops 0).get run cx fr hp nid (λfr hp nid=>qm (Nat.add nid ops.length) λnid=>f .normal fr hp nid)=Zq E run cx (kr d ops) (dsts ops) ops 0 fr hp nid (Je ops f);rw[qeo];rfl
 ·rename_i l h
  split
  ·rename_i hd hch
   unfold qco;rw[h];show _=ql 361 true (qmb E run ops fr hp nid f);unfold qmb;rw[hch];show _=qm ops.length λn=>gU E run n (dsts ops) ops fr hp nid [hp] λfr hp nid hs=>Jc E ops fr hs (qm (nid+n) λnid=>f .normal fr hp nid) ops 0;rw[qj,qj];show(cCh E ops.length (dsts ops) ops).get run fr hp nid [hp] (λfr hp nid hs=>(cCk ops E ops 0).get fr hs (qm (Nat.add nid ops.length) λnid=>f .normal fr hp nid))=_;rw[qjG]
   congr 1
   funext fr hp nid hs;exact qjH _ _ _ _ _ _ _
  ·rfl
 ·rfl
def qjJ(run:XC)(L:FL)(cx:CX)(b:Code)(f:XK)(e:Ex)(fr:Tr 3 SV)(hp:Tr 6 XB)(nid:Nat):R:=Ex.rec (run L cx b fr hp nid f) (λi=>f (.exit i) fr hp nid) (f .ret fr hp nid) e
theorem qep(run:XC)(L:FL)(cx:CX)(b:Code)(f:XK):qjJ run L cx b f=qgu run L cx b f:=by
 funext e fr hp nid;cases e<;>rfl
def qct(id:Nat)(f:XK)(e:Ex)(fr:Tr 3 SV)(hp:Tr 6 XB)(nid:Nat):R:=Ex.rec (f .normal fr hp nid) (λi=>Bool.rec (f (.exit i) fr hp nid) (f .normal fr hp nid) (Nat.beq i id)) (f .ret fr hp nid) e
theorem qgz(id:Nat)(f:XK):qct id f=qjm id f:=by
 funext e fr hp nid;cases e<;>rfl
def qjK(v:SV)(a b:R):R:=qoM v (λc=>Bool.rec b a c) (.bad 320 0)
theorem qjL(v:SV)(a b:R):qjK v a b=qjn v a b:=by
 cases v<;>first|rfl|skip
 rename_i v;cases v<;>rfl
def qjM(E:XE)(L:FL)(c:Code):Bx qjI:=
 match c with
 |.skip=>.mk λ_ _ fr hp nid f=>f .normal fr hp nid
 |.seq a b=>.mk λrun cx fr hp nid f=>run L cx a fr hp nid (qjJ run L cx b f)
 |.cond x a b=>Bx.rec (λq=>.mk λrun cx fr hp nid f=>qjK (q fr) (run L cx a fr hp nid f) (run L cx b fr hp nid f)) (JO x)
 |.block id c=>.mk λrun cx fr hp nid f=>run L cx c fr hp nid (qct id f)
 |.exit id=>.mk λ_ _ fr hp nid f=>f (.exit id) fr hp nid
 |.ret=>.mk λ_ _ fr hp nid f=>f .ret fr hp nid
 |.scope c=>.mk λrun cx fr hp nid f=>run L cx c fr hp nid f
 |.loop c=>.mk λrun cx fr hp nid f=>run L cx c fr hp nid (qjJ run L cx (.loop c) f)
 |.region id ops d=>qoT E L id d ops.toList
 |c=>.mk λrun cx fr hp nid f=>Vt E run L cx c fr hp nid f
theorem qjN(E:XE)(run:XC)(L:FL)(cx:CX)(c:Code)(fr:Tr 3 SV)(hp:Tr 6 XB)(nid:Nat)(f:XK):(qjM E L c).get run cx fr hp nid f=Vt E run L cx c fr hp nid f:=by
 cases c<;>first|rfl|(unfold qjM Vt;dsimp only)
 case seq a b=>show run L cx a fr hp nid (qjJ run L cx b f)=_;rw[qep]
 case cond x a b=>
  show qjK ((JO x).get fr) _ _=_;rw[qjL,KP]
 case block id c=>show run L cx c fr hp nid (qct id f)=_;rw[qgz]
 case loop c=>show run L cx c fr hp nid (qjJ run L cx (.loop c) f)=_;rw[qep]
 case region id ops d=>exact qmt _ _ _ _ _ _ _ _ _ _ _
end
end Go.Sx
end
section
namespace Go.Sx
open Go.RowKit
noncomputable section
variable{ρ:Q}
def KC(E:XE)(n:Nat):XC:=Nat.rec (motive:=λ_=>XC) (λ_ _ _ _ _ _ _=>.bad 322 0) (λ_ ih L cx c fr hp nid f=>Bx.rec (λq=>q ih cx fr hp nid f) (qjM E L c)) n
theorem Vw(E:XE)(n:Nat):KC E (n+1)=Vt E (KC E n):=by
 funext L cx c fr hp nid f;exact qjN E (KC E n) L cx c fr hp nid f
section
variable{P:Program}{E:XE}
theorem qjO{n:Nat}(ih:∀m,m≤n→vo P (KC E m)){LM:Nat→Option Loop}{fs:List Fr}{lo:Nat}{rnd:Bool}{L:FL}{cx:CX}(hcx:qgq LM fs rnd cx){c:Code}{st:St}{fr:Tr 3 SV}{hp:Tr 6 XB}{nid:Nat}{f:XK}{K:Ex→St→Prop}(hs:StR LM fr hp nid st)(h:KC E n L cx c fr hp nid (qgu (KC E n) L cx (.loop c) f)=.ok ρ)
  (hk:∀e fr' hp' nid' st',StR LM fr' hp' nid' st'→f e fr' hp' nid'=.ok ρ→K e st'):vc P ⟨fs,lo,rnd,qV L⟩ (.loop c) st K:=by
 refine .inl ⟨{p:Nat×St // p.1≤n∧∃fr hp nid,StR LM fr hp nid p.2∧KC E p.1 L cx c fr hp nid (qgu (KC E p.1) L cx (.loop c) f)=.ok ρ},λx=>x.1.2,λx=>x.1.1,⟨(n,st),xa5 n,fr,hp,nid,hs,h⟩,λ_ _ _ _ _ _ hi=>hi,?_⟩;rintro⟨⟨m,s⟩,hmn,fr,hp,nid,hs,h⟩;refine ih m hmn ρ LM _ _ _ _ _ c _ _ _ _ _ _ hcx hs h λe fr' hp' nid' st' hs' h'=>?_;cases e with
 |exit i=>exact hk _ _ _ _ _ hs' h'
 |ret=>exact hk _ _ _ _ _ hs' h'
 |normal=>
  cases m with
  |zero=>cases h'
  |succ m=>
   have h':KC E (m+1) L cx (.loop c) fr' hp' nid' f=.ok ρ:=h';rw[Vw]at h';exact⟨⟨(m,st'),Nat.le_of_succ_le hmn,fr',hp',nid',hs',h'⟩,xb5 m,λ_ _ _ _ _ _ hi=>hi⟩
theorem qeq(hm:P.follows .mixedOrders=true)(hE:XOk P E)(hf:wJ P E)(n:Nat):vo P (KC E n):=by
 induction n using Nat.strongRecOn with
 |_ n ih=>
  cases n with
  |zero=>exact λ_ _ _ _ _ _ _ _ _ _ _ _ _ _ _ _ h _=>by cases h
  |succ n=>
   rw[Vw];exact qjr hm hE hf (ih n (xb5 n)) λρ LM fs lo rnd L cx c st fr hp nid f K hcx hs h hk=>qjO (λm hmn=>ih m (Nat.lt_succ_of_le hmn)) hcx hs h hk
def qrE(E:XE)(rs:List ResultVar)(ok:Tr 6 XB→SV→R):XK
 |.exit _,_,_,_=>.bad 330 0
 |.normal,fr,hp,_=>yn E fr hp rs λm=>ok hp (oneSV m)
 |.ret,fr,hp,_=>yn E fr hp rs λm=>ok hp (oneSV m)
def wy(_:Tr 6 XB)(s:SV):R:=
 match s with
 |.val (.bool b)=>Bool.rec (.bad 331 0) (.ok (.mk .top .nil 0)) b
 |_=>.bad 332 0
def gn(res:SV)(hp:Tr 6 XB)(s:SV):R:=Bool.rec (.bad 334 0) (.ok (.mk .top .nil 0)) (mtX hp 6 res s)
theorem qgA{s:SV}{hp:Tr 6 XB}(h:wy hp s=.ok ρ):s=.val (.bool true):=by
 unfold wy at h;split at h
 ·rename_i b
  cases b with
  |true=>rfl
  |false=>cases h
 ·cases h
def jv(E:XE)(n:Nat)(fn:Func)(L:FL)(args:List SV)(ok:Tr 6 XB→SV→R):R:=
 match fn.body with
 |some c=>WD args 0 .nil λfr=>KC E n L .top c fr .nil 0 (qrE E fn.results.toList ok)
 |none=>.bad 333 0
def z8:R→Bool
 |.ok _=>true
 |_=>false
theorem wK(hm:P.follows .mixedOrders=true)(hE:XOk P E)(hf:wJ P E){g:Nat}{fn:Func}{L:FL}{c:Code}(hc:qjb P g fn L c){args:List SV}(hl:args.length≤fn.ntmps)(ho:OldL args){res:SV}{ok:Tr 6 XB→SV→R}(hok:∀hp s H,HRel (λ_=>none) hp H→ok hp s=.ok ρ→Sub H res s)(n:Nat)(h:jv E n fn L args ok=.ok ρ):qf P g args res:=by
 refine kP (qV L) hc.at_ hc.body hc.name hm hc.ok args res hl ho ?_;unfold jv at h;rw[hc.body]at h;obtain⟨fr,h1,h2⟩:=yR h;have key:∀(fr3:Tr 3 SV)(hp3:Tr 6 XB)(nid3:Nat)(st3:St),StR (λ_=>none) fr3 hp3 nid3 st3→yn E fr3 hp3 fn.results.toList (λm=>ok hp3 (oneSV m))=.ok ρ→retVC P fn.results.toList st3 res:=λfr3 hp3 nid3 st3 h3 h=>by
  rw[GG];exact yS hE h3 h λm h=>hok _ _ _ h3.2.1 h
 refine qeq hm hE hf n ρ (λ_=>none) _ _ _ L .top c _ fr .nil 0 _ _ rfl ⟨h1,λid b hb=>(by rw[Q9]at hb;cases hb),rfl⟩ h2 λe fr3 hp3 nid3 st3 h3 h=>?_;cases e with
 |exit i=>cases h
 |normal=>exact key _ _ _ _ h3 h
 |ret=>exact key _ _ _ _ h3 h
theorem qcu(hp:Tr 6 XB)(s:SV)(H:List (Nat×Blk))(_:HRel (λ_=>none) hp H)(h:wy hp s=.ok ρ):Sub H (.val (.bool true)) s:=by
 rw[qgA h];rfl
theorem qgB{res:SV}(hp:Tr 6 XB)(s:SV)(H:List (Nat×Blk))(hH:HRel (λ_=>none) hp H)(h:gn res hp s=.ok ρ):Sub H res s:=by
 unfold gn at h;cases q:mtX hp 6 res s with
 |false=>rw[q]at h;cases h
 |true=>exact qck hH 6 _ _ q
theorem qau{r:R}(h:z8 r=true):∃q,r=.ok q:=by
 unfold z8 at h;split at h
 ·exact⟨_,rfl⟩
 ·cases h
end
end
end Go.Sx
end
section
namespace Go.Sx
open Go.RowKit
noncomputable section
variable{P:Program}{g:Nat}{fn:Func}{L:FL}
variable{ρ:Q}
def okB (L : FL) (fn : Func) : Bool := !(fn.name == "runtime.NumGoroutine") && (match fn.body with | some c => qJ (qV L) fn.ntmps c | none => false)
theorem fnX(h:P.funcs[g]? = some fn)(ho:okB L fn=true):∃c,qjb P g fn L c:=by
 unfold okB at ho;simp only[xe6,Bool.not_eq_true']at ho;obtain⟨h1,h2⟩:=ho;cases hb:fn.body with
 |none=>rw[hb]at h2;cases h2
 |some c=>rw[hb]at h2;exact⟨c,⟨h,hb,h1,h2⟩⟩
abbrev FT:=List (Option FL)
def zs{α:Type}(l:List (Option α)):Nat→Option α:=List.rec (λ_=>none) (λa _ ih i=>Nat.rec a (λj _=>ih j) i) l
def qqB(fn:Option Func)(L:FL):Option (Func×FL):=Option.rec none (λfn=>some (fn,L)) fn
def okT(P:Program)(l:FT):Nat→Bool:=List.rec (λ_=>true) (λa _ ih i=>Bool.rec false (qm (Nat.succ i) λi=>ih i) (Option.rec true (λL=>Option.rec false (λfn=>okB L fn) (P.funcs[i]?)) a)) l
theorem Z6{P:Program}:∀{l:FT}{i j:Nat}{L:FL}{fn:Func},okT P l i=true→zs l j=some L→P.funcs[i+j]? = some fn→okB L fn=true
 |[],i,j,L,fn,h,hj,hf=>by cases hj
 |a :: l,i,j,L,fn,h,hj,hf=>by
  have h:(Bool.rec false (qm (Nat.succ i) λi=>okT P l i) (Option.rec true (λL=>Option.rec false (λfn=>okB L fn) (P.funcs[i]?)) a):Bool)=true:=h;rw[qj]at h;cases q:(Option.rec true (λL=>Option.rec false (λfn=>okB L fn) (P.funcs[i]?)) a:Bool)with
  |false=>rw[q]at h;cases h
  |true=>
   rw[q]at h;cases j with
   |zero=>
    have hj:a=some L:=hj
    simp_all
   |succ j=>exact Z6 (l:=l) (i:=i+1) (j:=j) h hj (by rw[show i+1+j=i+(j+1) by omega];exact hf)
def qoU(P:Program)(t:TypeId):Option (TypeId×Nat×List Value):=
 match qn P t with
 |some ⟨_,_,_,.slice e k⟩=>(match qn P e with
  |some ⟨_,_,some z,_⟩=>Bool.rec none (some (e,k,z)) (Nat.ble 1 k&&(Nat.beq z.length k&&Nat.ble (qF P e) 100000000))
  |_=>none)
 |_=>none
def qer:List (Nat×Nat×Sh)→Nat→Option (Nat×Sh)
 |[],_=>none
 |(h,x) :: l,g=>Bool.rec (qer l g) (some x) (Nat.beq g h)
def qjP(P:Program):List (Nat×Nat×Sh)→Prop
 |[]=>True
 |(h,n,i) :: l=>Ke P h n i∧qjP P l
theorem qav{P:Program}:∀{pl:List (Nat×Nat×Sh)},qjP P pl→∀g n i,qer pl g=some (n,i)→Ke P g n i
 |[],_,g,n,i,h=>by cases h
 |(h0,n0,i0) :: l,hp,g,n,i,h=>by
  have h:(Bool.rec (qer l g) (some (n0,i0)) (Nat.beq g h0):Option (Nat×Sh))=some (n,i):=h;cases e:Nat.beq g h0 with
  |true=>rw[e]at h;have h:=Option.some.inj h;cases h;rw[xa6 e];exact hp.1
  |false=>rw[e]at h;exact qav hp.2 g n i h
theorem KQ(h:∀v:Value,qf P g [.val v] (.val v)):Ke P g 1 (.one 0):=by
 refine⟨(h undef).1,λw vs hv _=>?_⟩;refine((h (vs.getD 0 undef)).2 (λ_=>True) w vs hv λi sv hi=>?_).mono λe w'=>?_
 ·cases i with
  |zero=>simp only[xd6,Option.some.injEq]at hi;subst hi;exact .val _
  |succ i=>simp at hi
 ·rintro⟨v,rfl,hb,hr⟩
  cases hr;exact⟨rfl,hb⟩
theorem qmu {P : Program} {g n : Nat} {l : List Nat} (hf : ∃ fn, P.funcs[g]? = some fn ∧ (fn.name == "runtime.NumGoroutine") = false ∧ fn.body.isSome = true) (h : ∀ vs : Array Value, n = vs.size → (∀ i, i ∈ l → (vs.getD i undef).oneCell' = true) → qf P g (vs.toList.map .val) (.agg (l.map λi => .val (vs.getD i undef)))) : Ke P g n (.ag l) := by
 refine⟨hf,λw vs hv ho=>?_⟩;refine((h vs hv ho).2 (λ_=>True) w vs Ωg λi sv hi=>?_).mono λe w'=>?_
 ·rw[List.getElem?_map,xf6]at hi
  cases e:vs[i]? with
  |none=>rw[e]at hi;cases hi
  |some v=>
   rw[e]at hi;cases hi;rw[xf5,e];exact .val _
 ·rintro⟨v,rfl,hb,hr⟩
  cases hr with
  |agg _ cs hl hr=>
  refine⟨?_,hb⟩
  congr 1
  unfold Sh.val
  congr 1
  refine Array.ext (by simpa using hl.symm) λi h1 h2=>?_;have h3:i<l.length:=by simpa using h2
  have hi:=hr i (.val (vs.getD l[i] undef)) (by rw[List.getElem?_map,xc7 h3];rfl);have e:cs.getD i undef=cs[i]:=by rw[xf5,Array.getElem?_eq_getElem h1];rfl
  rw[e]at hi;have e2:(l.map λi=>vs.getD i undef).toArray[i]=vs.getD l[i] undef:=by simp
  rw[e2];generalize cs[i]=z at hi;cases hi;rfl
structure XP:Type where
 fl:FT
 pl:List (Nat×Nat×Sh)
 ol:List (Nat×(List SV→Tr 6 XB→Nat→(SV→Tr 6 XB→Nat→R)→R))
 cl:List (Nat×List SV×SV)
 nl:List (Nat×List SV×(TypeId×Nat×Nat×List SV×SV))
def qes:List (Nat×(List SV→Tr 6 XB→Nat→(SV→Tr 6 XB→Nat→R)→R))→Nat→Option (List SV→Tr 6 XB→Nat→(SV→Tr 6 XB→Nat→R)→R)
 |[],_=>none
 |(h,f) :: l,g=>Bool.rec (qes l g) (some f) (Nat.beq g h)
def Vx:List (Nat×List SV×SV)→Nat→List (List SV×SV)
 |[],_=>[]
 |(h,x) :: l,g=>Bool.rec (Vx l g) (x :: Vx l g) (Nat.beq g h)
def Vy:List (Nat×List SV×(TypeId×Nat×Nat×List SV×SV))→Nat→List (List SV×(TypeId×Nat×Nat×List SV×SV))
 |[],_=>[]
 |(h,x) :: l,g=>Bool.rec (Vy l g) (x :: Vy l g) (Nat.beq g h)
def qcv(P:Program):List (Nat×List SV×(TypeId×Nat×Nat×List SV×SV))→Prop
 |[]=>True
 |(h,qq_,t,k,n,m,s) :: l=>qiu P h qq_ t k n m s∧qcv P l
def qcw(P:Program):List (Nat×(List SV→Tr 6 XB→Nat→(SV→Tr 6 XB→Nat→R)→R))→Prop
 |[]=>True
 |(h,f) :: l=>yb P h f∧qcw P l
def qcx(P:Program):List (Nat×List SV×SV)→Prop
 |[]=>True
 |(h,qq_,s) :: l=>qf P h qq_ s∧qcx P l
theorem qaw{P:Program}:∀{l:List (Nat×(List SV→Tr 6 XB→Nat→(SV→Tr 6 XB→Nat→R)→R))},qcw P l→∀g f,qes l g=some f→yb P g f
 |[],_,g,f,h=>by cases h
 |(h0,f0) :: l,hp,g,f,h=>by
  have h:(Bool.rec (qes l g) (some f0) (Nat.beq g h0):Option _)=some f:=h;cases e:Nat.beq g h0 with
  |true=>rw[e]at h;have h:=Option.some.inj h;cases h;rw[xa6 e];exact hp.1
  |false=>rw[e]at h;exact qaw hp.2 g f h
theorem Jg{P:Program}:∀{l:List (Nat×List SV×SV)},qcx P l→∀g qq_ s,(qq_,s)∈Vx l g→qf P g qq_ s
 |[],_,g,qq_,s,h=>by cases h
 |(h0,as0,s0) :: l,hp,g,qq_,s,h=>by
  have h:(qq_,s)∈(Bool.rec (Vx l g) ((as0,s0) :: Vx l g) (Nat.beq g h0):List (List SV×SV)):=h;cases e:Nat.beq g h0 with
  |true=>
   rw[e]at h;rcases List.mem_cons.1 h with h|h
   ·cases h;rw[xa6 e];exact hp.1
   ·exact Jg hp.2 g qq_ s h
  |false=>rw[e]at h;exact Jg hp.2 g qq_ s h
theorem Jh{P:Program}:∀{l:List (Nat×List SV×(TypeId×Nat×Nat×List SV×SV))},qcv P l→∀g qq_ t k n m s,(qq_,(t,k,n,m,s))∈Vy l g→qiu P g qq_ t k n m s
 |[],_,g,qq_,t,k,n,m,s,h=>by cases h
 |(h0,as0,t0,k0,n0,m0,s0) :: l,hp,g,qq_,t,k,n,m,s,h=>by
  have h:(qq_,(t,k,n,m,s))∈(Bool.rec (Vy l g) ((as0,(t0,k0,n0,m0,s0)) :: Vy l g) (Nat.beq g h0):List (List SV×(TypeId×Nat×Nat×List SV×SV))):=h;cases e:Nat.beq g h0 with
  |true=>
   rw[e]at h;rcases List.mem_cons.1 h with h|h
   ·cases h;rw[xa6 e];exact hp.1
   ·exact Jh hp.2 g qq_ t k n m s h
  |false=>rw[e]at h;exact Jh hp.2 g qq_ t k n m s h
def qjQ(P:Program)(t:TypeId):Bool:=
 match P.underlying t with
 |some .string=>true
 |_=>false
theorem qjR(P:Program)(t:TypeId)(h:qjQ P t=true):P.underlying t=some .string:=by
 unfold qjQ at h;split at h
 ·omega
 ·cases h
def gR(P:Program)(X:XP):XE:=⟨λg=>Option.rec none (λL=>qqB P.funcs[g]? L) (zs X.fl g),qn P,qt P,qW P,qoU P,qD P,qer X.pl,qjQ P,qes X.ol,Vx X.cl,Vy X.nl⟩
structure qax(P:Program)(X:XP):Prop where
 fl:okT P X.fl 0=true
 pl:qjP P X.pl
 ol:qcw P X.ol
 cl:qcx P X.cl
 nl:qcv P X.nl
theorem Zu(P:Program)(X:XP)(hk:okT P X.fl 0=true):wJ P (gR P X):=λg fn L h=>by
 have h:(Option.rec none (λL=>qqB P.funcs[g]? L) (zs X.fl g):Option (Func×FL))=some (fn,L):=h;cases e:zs X.fl g with
 |none=>rw[e]at h;cases h
 |some L0=>
  rw[e]at h;cases hf:P.funcs[g]? with
  |none=>rw[hf]at h;cases h
  |some f=>
   rw[hf]at h;have h:some (f,L0)=some (fn,L):=h;cases h;exact fnX hf (Z6 hk e (by rw[xb0];exact hf))
theorem KR(P:Program)(X:XP)(hX:qax P X):XOk P (gR P X):=⟨λ_ _ h=>h,λ_ _ h=>h,λ_ _ h=>h,qav hX.pl,qjR P,qaw hX.ol,Jg hX.cl,Jh hX.nl,λ_ _ h=>h,λt e k z h=>by
 have h:qoU P t=some (e,k,z):=h;unfold qoU at h;split at h
 ·rename_i h1
  split at h
  ·rename_i h2
   generalize hb:(Nat.ble 1 _&&(Nat.beq _ _&&Nat.ble _ 100000000))=b at h;cases b with
   |false=>cases h
   |true=>
    (simp_all;omega)
  ·cases h
 ·cases h⟩
theorem jw(hm:P.follows .mixedOrders=true){X:XP}(hX:qax P X)(hg:P.funcs[g]? = some fn)(hL:zs X.fl g=some L)(n:Nat)(h:z8 (jv (gR P X) n fn L [] wy)=true):qf P g [] (.val (.bool true)):=by
 obtain⟨c,hc⟩:=fnX hg (Z6 hX.fl hL (by rw[xb0];exact hg));obtain⟨q,h⟩:=qau h;exact wK hm (KR P X hX) (Zu P X hX.fl) hc (xb6 _) (args:=[]) trivial qcu n h
theorem qI(hm:P.follows .mixedOrders=true){X:XP}(hX:qax P X)(hg:P.funcs[g]? = some fn)(hL:zs X.fl g=some L)(n:Nat){args:List SV}(hl:args.length≤fn.ntmps)(ho:OldL args){res:SV}(h:z8 (jv (gR P X) n fn L args (gn res))=true):qf P g args res:=by
 obtain⟨c,hc⟩:=fnX hg (Z6 hX.fl hL (by rw[xb0];exact hg));obtain⟨q,h⟩:=qau h;exact wK hm (KR P X hX) (Zu P X hX.fl) hc hl ho qgB n h
end
end Go.Sx
end
section
namespace Go.Sx
open Go.RowKit
noncomputable section
def Zv(t:Tr 4 Nat)(l:List Nat):Nat:=List.rec (motive:=λ_=>Nat→Nat) (λm=>m) (λa _ ih m=>Option.rec 0 (λx=>Nat.rec 0 (λy _=>qm (Nat.max m (Nat.succ x)) λm=>ih m) x) (t.find a)) l 1
def WK(l:List (List Nat)):Nat→Tr 4 Nat→(Tr 4 Nat→Nat→R)→Nat→R:=List.rec (motive:=λ_=>Nat→Tr 4 Nat→(Tr 4 Nat→Nat→R)→Nat→R) (λ_ t f c=>f t c) (λa _ ih i t f c=>qm (Nat.succ i) λi1=>Option.rec (.bad 452 0) (λx=>Nat.rec (qm (Zv t a) λm=>Nat.rec (ih i1 t f c) (λ_ _=>qm (Nat.succ c) λc=>zf (some m) 22 t i λt=>ih i1 t f c) m) (λ_ _=>ih i1 t f c) x) (t.find i)) l
def qoV(l:List (List Nat))(n:Nat):Tr 4 Nat→(Tr 4 Nat→R)→R:=Nat.rec (motive:=λ_=>Tr 4 Nat→(Tr 4 Nat→R)→R) (λ_ _=>.bad 453 0) (λ_ ih t f=>WK l 0 t (λt c=>Nat.rec (f t) (λ_ _=>ih t f) c) 0) n
def qcy(l:List (List Nat)):Nat→Tr 4 Nat→(Tr 4 Nat→R)→R:=List.rec (motive:=λ_=>Nat→Tr 4 Nat→(Tr 4 Nat→R)→R) (λ_ t f=>f t) (λ_ _ ih i t f=>zf (some 0) 22 t i λt=>qm (Nat.succ i) λi=>ih i t f) l
def qgC(x:Nat):SV:=Nat.rec (Ψ (Φ Γ (.negSucc 0))) (λy _=>Ψ (Φ Γ (.ofNat y))) x
def qet(t:Tr 4 Nat)(l:List (List Nat)):Nat→(List SV→R)→R:=List.rec (motive:=λ_=>Nat→(List SV→R)→R) (λ_ f=>f []) (λ_ _ ih i f=>qm (Nat.succ i) λi1=>Option.rec (.bad 454 0) (λx=>qm x λx=>ih i1 λm=>f (qgC x :: m)) (t.find i)) l
def qgD(k:Value):Nat:=match k with
 |.agg c=>(match c.toList with
  |[_,_,_,_,_,.int _ (.ofNat n)]=>n
  |_=>0)
 |_=>0
def qeu(t:Tr 4 Nat)(es:List (Value×Option SV))(f:List (Value×Option SV)→R):R:=(List.rec (motive:=λ_=>(List (Value×Option SV)→R)→R) (λf=>f []) (λp _ ih f=>qm (qgD p.1) λi=>Option.rec (.bad 455 0) (λx=>Nat.rec (ih λl=>f (p :: l)) (λ_ _=>ih f) x) (t.find i)) es) f
end
end Go.Sx
end
section
namespace Go.Sx
theorem Z7{hp:List (Nat×Blk)}{m:Nat→Option Nat}{nn:Nat}{sl:Nat→Bool}:∀{l:List SV},(∀(i:Nat) sv,l[i]? = some sv→Wk hp m nn sl sv sv)→WkL hp m nn sl l l
 |[],_=>by simp[WkL]
 |a :: l,h=>by
  unfold WkL;exact⟨h 0 a rfl,Z7 λi sv e=>h (i+1) sv e⟩
theorem vO{hp:List (Nat×Blk)}{m:Nat→Option Nat}{nn n0:Nat}{sl:Nat→Bool}(hm:∀i,i<n0→m i=some i)(hn:n0≤nn){r:Nat→Option Nat}{G:Bool→Nat→Prop}{w:World}{sv:SV}{v:Value}(h:Rep r (· < n0) G w sv v):Wk hp m nn sl sv sv:=by
 have key:∀id,id<n0→id<nn∧m id=some id:=λid h=>⟨xa9 h hn,hm id h⟩
 induction h with
 |top v=>simp[Wk]
 |val v=>simp[Wk]
 |agg l cs hl h ih=>unfold Wk;exact Z7 ih
 |tup l cs hl h ih=>unfold Wk;exact Z7 ih
 |fn f l k cs ds hl hm' h h' ih ih'=>unfold Wk;exact⟨rfl,Z7 ih,Z7 ih'⟩
 |ptr id off b hN hr=>unfold Wk;exact⟨(key id hN).1,(key id hN).2,rfl⟩
 |elt id k i j b hN hr=>unfold Wk;exact⟨(key id hN).1,(key id hN).2,rfl,rfl,rfl⟩
 |ref o n row b off f hG hc h ih=>unfold Wk;exact⟨λh=>h,xa5 _,ih⟩
 |arrNil o full k row a cap hf=>unfold Wk;exact⟨λh=>h,λh=>h,rfl,rfl,λi j hi=>by omega⟩
 |arr o full n k row b off cap f hG hf hcap hc h ih=>unfold Wk;exact⟨λh=>h,λh=>h,rfl,rfl,ih⟩
 |vecNil id k hN hr=>unfold Wk;exact⟨(key id hN).1,(key id hN).2,rfl,rfl⟩
 |vec id n k b cap cs t hN hr=>unfold Wk;exact⟨(key id hN).1,(key id hN).2,rfl,rfl⟩
 |mp id b hN hr=>unfold Wk;exact key id hN
 |asl id off n k b cap hN hr hcap=>unfold Wk;exact⟨(key id hN).1,(key id hN).2,rfl,rfl,rfl⟩
 |queNil id off k a hN=>unfold Wk;exact⟨(key id hN).1,(key id hN).2,rfl,rfl,rfl⟩
 |que id off n k b cap cs t hN hr=>unfold Wk;exact⟨(key id hN).1,(key id hN).2,rfl,rfl,rfl⟩
 |cutNil id k hN hr=>unfold Wk;exact⟨(key id hN).1,(key id hN).2,rfl,rfl⟩
 |cut id n k b hN hr=>unfold Wk;exact⟨(key id hN).1,(key id hN).2,rfl,rfl⟩
 |cmp o fit dom get b es clock hG hb hmo h ih=>
  unfold Wk;refine⟨λh=>h,rfl,rfl,λk hk=>?_⟩;obtain⟨e,he,rfl⟩:=hmo.has k hk;exact ih e he
 |yld id b hN hr=>unfold Wk;exact key id hN
theorem qcz{hp:List (Nat×Blk)}{m:Nat→Option Nat}{nn n0:Nat}{sl:Nat→Bool}(hm:∀i,i<n0→m i=some i)(hn:n0≤nn){r:Nat→Option Nat}{G:Bool→Nat→Prop}{w:World}{ob:Option Nat}{x:Blk}(h:BlkRep r (· < n0) G w ob x):WkB hp m nn sl x x:=by
 cases h with
 |cells t l b cs hb hl h=>exact⟨rfl,Z7 λi sv e=>vO hm hn (h i sv e)⟩
 |none t k row=>exact⟨rfl,rfl,xa5 _,λi j hi=>by omega⟩
 |rows t k n row b cs hb hl h=>exact⟨rfl,rfl,xa5 _,λi j hi hj=>vO hm hn (h i j hi hj)⟩
 |map fit dom get b es clock hb hmo ht h=>
  refine⟨rfl,rfl,λk hk=>?_⟩;obtain⟨e,he,rfl⟩:=hmo.has k hk;exact vO hm hn (h e he)
 |mapS fit dom get stamp b es clock hb hmo ht hst h=>
  refine⟨rfl,rfl,rfl,rfl,λk hk=>?_⟩;obtain⟨e,he,rfl⟩:=hmo.has k hk;exact vO hm hn (h e he)
 |iter mid since seen last b m' hN hr hb=>exact⟨xa9 hN hn,hm _ hN,rfl,rfl,rfl⟩
 |loop L s b hb=>exact⟨rfl,rfl⟩
theorem Ji{P:Program}{O:Ctx}{f:FuncId}{args:List SV}{st:St}{K0 K:St→SV→Prop}(h:ky P O f args st K0)
  (hk:∀st' sv,(∀hp bid n,st.nid≤n→∀id y,blk st.hp id=some y→WkB hp (ren [(st.nid,some bid)]) n (λ_=>false) y y)→K0 st' sv→
   ∃bid hp2 sv2 n,st'.fr=st.fr∧st.nid≤bid∧(∀id x,blk hp2 id=some x→((id<st.nid∧blk st'.hp id=some x)∨(id=st.nid∧blk st'.hp bid=some x∧st.nid+1≤n))∧WkB st'.hp (ren [(st.nid,some bid)]) n (λ_=>false) x x)∧
    Wk st'.hp (ren [(st.nid,some bid)]) n (λ_=>false) sv2 sv∧st.nid≤n∧K ⟨st.fr,hp2,n⟩ sv2):ky P O f args st K:=λbase okc ns r outs a w vs h1 h2 h3=>by
 obtain⟨e1,e2⟩:=h base okc ns r outs a w vs h1 h2 h3;have rn:∀(bid i:Nat),i<st.nid→ren [(st.nid,some bid)] i=some i:=λbid i hi=>by simp only[ren];rw[if_neg Ω]
 refine⟨e1,e2.mono λe w' ⟨v,st',r',res,g1,g2,g3,g4,g5⟩=>?_⟩;obtain⟨bid,hp2,sv2,n,k1,k2,k3,k6,k7,k8⟩:=hk _ _ (λhp bid n hn id y hy=>qcz (rn bid) hn (h1.sat.rep id y hy (h1.keys id y hy))) g2;have rn:=rn bid;have rn0:ren [(st.nid,some bid)] st.nid=some bid:=by simp[ren]
 have W:=YN (st':=⟨st.fr,hp2,n⟩) (ren [(st.nid,some bid)]) (λ_=>false) (λi=>by rw[k1];exact vO rn k7 (h1.fr i)) (λid x hx=>by
  obtain⟨⟨hlt,hx⟩|⟨rfl,hx,hn⟩,hw⟩:=k3 id x hx
  ·grind
  ·rw[rn0]
   refine⟨(by show st.nid<n;omega),rfl,?_⟩;rw[hx];exact hw) (λid x id' x' y hx hx' hy hy'=>by
  obtain⟨⟨hlt,hx⟩|⟨rfl,hx,hn⟩,hw⟩:=k3 id x hx<;>obtain⟨⟨hlt',hx'⟩|⟨rfl,hx',hn'⟩,hw'⟩:=k3 id' x' hx'
  ·simp_all
  ·grind
  ·grind
  ·rfl) (xc1 h1.lo k7) (λid hid=>rn id (xa9 hid h1.lo)) g4
 exact⟨v,_,_,sv2,g1,k8,k7,W.1,W.2 _ _ _ k6 g5⟩
end Go.Sx
end
section
namespace Go.Sx
open Go.Proofs
open Go.RowKit Go.Tn
noncomputable section
variable{ρ:Q}
theorem Vz:∀(l:List (List Nat))(i:Nat)(t:Tr 4 Nat)(f:Tr 4 Nat→R),qcy l i t f=.ok ρ→∃t',f t'=.ok ρ
 |[],i,t,f,h=>⟨t,h⟩
 |a :: l,i,t,f,h=>by
  have h:zf (some 0) 22 t i (λt=>qm (Nat.succ i) λi=>qcy l i t f)=.ok ρ:=h;obtain⟨t1,_,h⟩:=qC _ _ _ _ h;rw[qj]at h;exact Vz l _ _ f h
theorem KS:∀(l:List (List Nat))(i:Nat)(t:Tr 4 Nat)(f:Tr 4 Nat→Nat→R)(c:Nat),WK l i t f c=.ok ρ→∃t' c',f t' c'=.ok ρ
 |[],i,t,f,c,h=>⟨t,c,h⟩
 |a :: l,i,t,f,c,h=>by
  have h:qm (Nat.succ i) (λi1=>Option.rec (.bad 452 0) (λx=>Nat.rec (qm (Zv t a) λm=>Nat.rec (WK l i1 t f c) (λ_ _=>qm (Nat.succ c) λc=>zf (some m) 22 t i λt=>WK l i1 t f c) m) (λ_ _=>WK l i1 t f c) x) (t.find i))=(.ok ρ:R):=h;rw[qj]at h;generalize t.find i=o at h;cases o with
  |none=>cases h
  |some x=>
   cases x with
   |succ y=>exact KS l _ _ f _ h
   |zero=>
    have h:qm (Zv t a) (λm=>Nat.rec (WK l (Nat.succ i) t f c) (λ_ _=>qm (Nat.succ c) λc=>zf (some m) 22 t i λt=>WK l (Nat.succ i) t f c) m)=(.ok ρ:R):=h;rw[qj]at h;generalize Zv t a=m at h;cases m with
    |zero=>exact KS l _ _ f _ h
    |succ m=>
     have h:qm (Nat.succ c) (λc=>zf (some (m+1)) 22 t i λt=>WK l (Nat.succ i) t f c)=(.ok ρ:R):=h;rw[qj]at h;obtain⟨t1,_,h⟩:=qC _ _ _ _ h;exact KS l _ _ f _ h
theorem qev(l:List (List Nat)):∀(n:Nat)(t:Tr 4 Nat)(f:Tr 4 Nat→R),qoV l n t f=.ok ρ→∃t',f t'=.ok ρ
 |0,t,f,h=>by cases h
 |n+1,t,f,h=>by
  have h:WK l 0 t (λt c=>Nat.rec (f t) (λ_ _=>qoV l n t f) c) 0=(.ok ρ:R):=h;obtain⟨t',c',h⟩:=KS _ _ _ _ _ h;cases c' with
  |zero=>exact⟨t',h⟩
  |succ c=>exact qev l n _ f h
def JQ(x:Nat):Int:=(x:Int) - 1
theorem qmv(x:Nat):qgC x=Ψ (Φ Γ (JQ x)):=by
 cases x with
 |zero=>rfl
 |succ y=>
  show Ψ (Φ Γ (Int.ofNat y))=_;have e:JQ (y+1)=Int.ofNat y:=by unfold JQ;show((y+1:Nat):Int) - 1=(y:Int);omega
  rw[e]
def FF(t:Tr 4 Nat)(i:Nat):Int:=JQ ((t.find i).getD 0)
def WL(t:Tr 4 Nat)(l:List Nat)(m:Nat):Nat:=List.rec (motive:=λ_=>Nat→Nat) (λm=>m) (λa _ ih m=>Option.rec 0 (λx=>Nat.rec 0 (λy _=>qm (Nat.max m (Nat.succ x)) λm=>ih m) x) (t.find a)) l m
theorem qoW(t:Tr 4 Nat)(l:List Nat):Zv t l=WL t l 1:=rfl
theorem VA(t:Tr 4 Nat)(a:Nat)(l:List Nat)(m:Nat):WL t (a :: l) m=if 0≤FF t a then WL t l (max m ((FF t a).toNat+2))else 0:=by
 show(Option.rec 0 (λx=>Nat.rec 0 (λy _=>qm (Nat.max m (Nat.succ x)) λm=>WL t l m) x) (t.find a):Nat)=_;unfold FF JQ;generalize t.find a=o;cases o with
 |none=>rw[if_neg Ωq]
 |some x=>
  cases x with
  |zero=>rw[if_neg Ωq];rfl
  |succ y=>
   rw[if_pos (by show(0:Int)≤((y+1:Nat):Int) - 1;omega)];show qm (Nat.max m (y+1+1)) (λm=>WL t l m)=_;rw[qj]
   simp_all
theorem VB(t:Tr 4 Nat):∀(l:List Nat)(m:Nat),(∃a,a∈l∧FF t a<0)→WL t l m=0
 |[],m,⟨a,h,_⟩=>by cases h
 |b :: l,m,⟨a,h,hn⟩=>by
  rw[VA];split
  ·rename_i h0
   rcases List.mem_cons.1 h with rfl|h
   ·omega
   ·exact VB t l _ ⟨a,h,hn⟩
  ·rfl
theorem VC(t:Tr 4 Nat):∀(l:List Nat)(m:Nat),(∀a,a∈l→0≤FF t a)→m≤WL t l m∧(∀a,a∈l→FF t a+2≤WL t l m)∧∀X:Nat,m≤X→(∀a,a∈l→FF t a+2≤X)→WL t l m≤X
 |[],m,_=>⟨xa5 _,λa h=>(by cases h),λX h _=>h⟩
 |b :: l,m,h=>by
  have h0:=h b xd5;rw[VA,if_pos h0];have⟨h1,h2,h3⟩:=VC t l (max m ((FF t b).toNat+2)) λa ha=>h a (List.mem_cons_of_mem _ ha);refine⟨Ω,λa ha=>?_,λX hX hA=>h3 X ?_ λa ha=>hA a (List.mem_cons_of_mem _ ha)⟩
  ·grind
  ·grind
theorem WM{F:Nat→Int}{to:Nat→Nat}{X:Int}(hX:0≤X):∀{m:Nat},(∀j,j<m→F (to j)+1≤X)→mxF F to m≤X
 |0,_=>hX
 |m+1,h=>by
  have h1:=WM hX (m:=m) λj hj=>h j Ω;have h2:=h m Ω;rw[Zo];omega
theorem qew{F:Nat→Int}{to:Nat→Nat}:∀{m:Nat},0≤mxF F to m
 |0=>Int.le_refl _
 |m+1=>by have:=qew (F:=F) (to:=to) (m:=m);rw[Zo];omega
theorem qay{t:Tr 4 Nat}{l:List Nat}{i:Nat}(h:(t.find i).getD 0=Zv t l):(0≤FF t i↔∀j,j<l.length→0≤FF t (l.getD j 0))∧(0≤FF t i→FF t i=mxF (FF t) (λj=>l.getD j 0) l.length):=by
 have hF:FF t i=(Zv t l:Int) - 1:=by unfold FF JQ;rw[h]
 rw[qoW]at hF;have mem:∀j,j<l.length→l.getD j 0∈l:=λj hj=>by
  simp_all
 have idx:∀a,a∈l→∃j,j<l.length∧l.getD j 0=a:=λa ha=>by
  obtain⟨j,hj,e⟩:=List.getElem_of_mem ha
  grind
 by_cases hA:∀a,a∈l→0≤FF t a
 ·have⟨h1,h2,h3⟩:=VC t l 1 hA
  refine⟨⟨λ_ j hj=>hA _ (mem j hj),λ_=>by omega⟩,λ_=>?_⟩;have le1:mxF (FF t) (λj=>l.getD j 0) l.length≤FF t i:=WM Ω λj hj=>by
   grind
  have hm0:=qew (F:=FF t) (to:=λj=>l.getD j 0) (m:=l.length);have le2:=h3 (mxF (FF t) (λj=>l.getD j 0) l.length+1).toNat Ω λa ha=>by
   obtain⟨j,hj,e⟩:=idx a ha;have:=qiS (F:=FF t) (to:=λj=>l.getD j 0) hj
   grind
  omega
 ·have hn:∃a,a∈l∧FF t a<0:=by
   simp_all
  have e:=VB t l 1 hn
  grind
def ltK(N:Nat)(l:List Nat)(r:R):R:=List.rec r (λa _ ih=>ql 480 (Nat.ble (Nat.succ a) N) ih) l
theorem WN{N:Nat}{r:R}:∀{l:List Nat},ltK N l r=.ok ρ→r=.ok ρ∧∀a,a∈l→a<N
 |[],h=>⟨h,λa ha=>by cases ha⟩
 |a :: l,h=>by
  have h:ql 480 (Nat.ble (Nat.succ a) N) (ltK N l r)=.ok ρ:=h;obtain⟨h1,h⟩:=qe h;obtain⟨h2,h3⟩:=WN h;(simp_all;omega)
def qmw(t:Tr 4 Nat)(N:Nat)(L:List (List Nat))(i:Nat)(r:R):R:=List.rec (motive:=λ_=>Nat→R) (λ_=>r) (λa _ ih i=>qm (Zv t a) λm=>ql 481 (Nat.ble m 1000000) (Option.rec (.bad 482 0) (λx=>ql 483 (Nat.beq x m) (ltK N a (qm (Nat.succ i) λi=>ih i))) (t.find i))) L i
theorem qex{t:Tr 4 Nat}{N:Nat}{r:R}:∀{L:List (List Nat)}{i:Nat},qmw t N L i r=.ok ρ→r=.ok ρ∧∀j,j<L.length→(t.find (i+j)).getD 0=Zv t (L.getD j [])∧Zv t (L.getD j [])≤1000000∧∀a,a∈L.getD j []→a<N
 |[],i,h=>⟨h,λj hj=>by cases hj⟩
 |a :: L,i,h=>by
  have h:qm (Zv t a) (λm=>ql 481 (Nat.ble m 1000000) (Option.rec (.bad 482 0) (λx=>ql 483 (Nat.beq x m) (ltK N a (qm (Nat.succ i) λi=>qmw t N L i r))) (t.find i)))=(.ok ρ:R):=h;rw[qj]at h;obtain⟨h1,h⟩:=qe h;cases hf:t.find i with
  |none=>rw[hf]at h;cases h
  |some x=>
   rw[hf]at h;have h:ql 483 (Nat.beq x (Zv t a)) (ltK N a (qm (Nat.succ i) λi=>qmw t N L i r))=.ok ρ:=h;obtain⟨h2,h⟩:=qe h;obtain⟨h,h3⟩:=WN h;rw[qj]at h;obtain⟨h,h4⟩:=qex h;refine⟨h,λj hj=>?_⟩;cases j with
   |zero=>exact⟨by rw[xb1,hf];exact xa6 h2,xa7 h1,h3⟩
   |succ j=>
    grind
theorem qaz{t:Tr 4 Nat}:∀{L:List (List Nat)}{i:Nat}{f:List SV→R},qet t L i f=.ok ρ→∃m,f m=.ok ρ∧m.length=L.length∧∀j,j<L.length→m.getD j .top=Ψ (Φ Γ (FF t (i+j)))
 |[],i,f,h=>⟨[],h,rfl,λj hj=>by cases hj⟩
 |a :: L,i,f,h=>by
  have h:qm (Nat.succ i) (λi1=>Option.rec (.bad 454 0) (λx=>qm x λx=>qet t L i1 λm=>f (qgC x :: m)) (t.find i))=(.ok ρ:R):=h;rw[qj]at h;cases hf:t.find i with
  |none=>rw[hf]at h;cases h
  |some x=>
   rw[hf]at h;have h:qm x (λx=>qet t L (Nat.succ i) λm=>f (qgC x :: m))=(.ok ρ:R):=h;rw[qj]at h;obtain⟨m,h1,h2,h3⟩:=qaz h;refine⟨qgC x :: m,h1,by simp[h2],λj hj=>?_⟩;cases j with
   |zero=>
    show qgC x=_;rw[qmv,xb1];unfold FF;rw[hf];rfl
   |succ j=>
    show m.getD j .top=_
    grind
theorem Jj{t:Tr 4 Nat}:∀{es:List (Value×Option SV)}{f:List (Value×Option SV)→R},qeu t es f=.ok ρ→f (es.filter λp=>decide ((t.find (qgD p.1)).getD 0=0))=.ok ρ
 |[],f,h=>h
 |p :: es,f,h=>by
  have h:qm (qgD p.1) (λi=>Option.rec (.bad 455 0) (λx=>Nat.rec (qeu t es λl=>f (p :: l)) (λ_ _=>qeu t es f) x) (t.find i))=(.ok ρ:R):=h;rw[qj]at h;cases hf:t.find (qgD p.1)with
  |none=>rw[hf]at h;cases h
  |some x=>
   rw[hf]at h;cases x with
   |zero=>
    have h:=Jj (f:=λl=>f (p :: l)) h
    simp_all
   |succ y=>
    have h:=Jj (f:=f) h
    simp_all
def qaA(l:List SV)(f:List Nat→R):R:=(List.rec (motive:=λ_=>(List Nat→R)→R) (λf=>f []) (λa _ ih f=>match a with
 |Ψ (Φ Γ (.ofNat n))=>ih λl=>f (n :: l)
 |_=>.bad 484 0) l) f
theorem Zw:∀{l:List SV}{f:List Nat→R},qaA l f=.ok ρ→∃m,f m=.ok ρ∧m.length=l.length∧∀j,j<l.length→l.getD j .top=Ψ (Φ Γ (m.getD j 0:Nat))
 |[],f,h=>⟨[],h,rfl,λj hj=>by cases hj⟩
 |a :: l,f,h=>by
  have h:(match (generalizing:=false) a with
   |Ψ (Φ Γ (.ofNat n))=>qaA l λl=>f (n :: l)
   |_=>.bad 484 0)=(.ok ρ:R):=h
  split at h
  ·rename_i n _
   obtain⟨m,h1,h2,h3⟩:=Zw h;refine⟨n :: m,h1,by simp[h2],λj hj=>?_⟩;cases j with
   |zero=>rfl
   |succ j=>exact h3 j (Nat.lt_of_succ_lt_succ hj)
  ·cases h
def qey(hp:Tr 6 XB)(rid:Nat)(a:SV)(g:List Nat→R):R:=match a with
 |.val (.slice none 0 0)=>g []
 |.vec xi n 1=>(match hp.find xi with
  |some (.rows 3 1 n' l)=>ql 485 (Nat.beq n n') (ql 486 (Nat.ble n 5) (ql 487 (Bool.not (Nat.beq xi rid)) (qaA l g)))
  |_=>.bad 488 0)
 |_=>.bad 489 0
theorem qjS{hp:Tr 6 XB}{rid:Nat}{a:SV}{g:List Nat→R}(h:qey hp rid a g=.ok ρ):∃m,g m=.ok ρ∧((a=.val (.slice none 0 0)∧m=[])∨∃xi n l,a=.vec xi n 1∧n≤5∧xi≠rid∧hp.find xi=some (.rows 3 1 n l)∧m.length=l.length∧∀j,j<l.length→l.getD j .top=Ψ (Φ Γ (m.getD j 0:Nat))):=by
 unfold qey at h;split at h
 ·simp_all
 ·rename_i xi n
  split at h
  ·rename_i n' l hf
   obtain⟨h1,h⟩:=qe h;obtain⟨h2,h⟩:=qe h;obtain⟨h3,h⟩:=qe h;obtain⟨m,h4,h5,h6⟩:=Zw h;have e:=xa6 h1;subst e;refine⟨m,h4,.inr ⟨xi,n,l,rfl,xa7 h2,λe=>?_,hf,h5,h6⟩⟩
   simp_all
  ·cases h
 ·cases h
def Jk(hp:Tr 6 XB)(rid:Nat)(xs:List SV)(f:List (List Nat)→R):R:=(List.rec (motive:=λ_=>(List (List Nat)→R)→R) (λf=>f []) (λa _ ih f=>qey hp rid a λx=>ih λl=>f (x :: l)) xs) f
theorem yT{hp:Tr 6 XB}{rid:Nat}:∀{xs:List SV}{f:List (List Nat)→R},Jk hp rid xs f=.ok ρ→∃L,f L=.ok ρ∧L.length=xs.length∧∀i,i<xs.length→((xs.getD i .top=.val (.slice none 0 0)∧L.getD i []=[])∨∃xi n l,xs.getD i .top=.vec xi n 1∧n≤5∧xi≠rid∧hp.find xi=some (.rows 3 1 n l)∧(L.getD i []).length=l.length∧∀j,j<l.length→l.getD j .top=Ψ (Φ Γ ((L.getD i []).getD j 0:Nat)))
 |[],f,h=>⟨[],h,rfl,λj hj=>by cases hj⟩
 |a :: xs,f,h=>by
  have h:qey hp rid a (λx=>Jk hp rid xs λl=>f (x :: l))=.ok ρ:=h;obtain⟨m,h,h1⟩:=qjS h;obtain⟨L,h,h2,h3⟩:=yT h;refine⟨m :: L,h,by simp[h2],λi hi=>?_⟩;cases i with
  |zero=>exact h1
  |succ i=>exact h3 i (Nat.lt_of_succ_lt_succ hi)
def qjT(l:List SV)(r:R):R:=List.rec r (λa _ ih=>match a with
 |Ψ (Φ Γ (.negSucc 0))=>ih
 |_=>.bad 490 0) l
theorem qaB{r:R}:∀{l:List SV},qjT l r=.ok ρ→r=.ok ρ∧∀j,j<l.length→l.getD j .top=Ψ (Φ Γ (-1))
 |[],h=>⟨h,λj hj=>by cases hj⟩
 |a :: l,h=>by
  have h:(match (generalizing:=false) a with
   |Ψ (Φ Γ (.negSucc 0))=>qjT l r
   |_=>.bad 490 0)=(.ok ρ:R):=h
  split at h
  ·obtain⟨h1,h2⟩:=qaB h
   refine⟨h1,λj hj=>?_⟩;cases j with
   |zero=>rfl
   |succ j=>exact h2 j (Nat.lt_of_succ_lt_succ hj)
  ·cases h
def qmx(p:Value×Option SV)(i:Nat)(r:R):R:=match p with
 |(.agg c,some _)=>(match c.toList with
  |[Φ Γ _,Φ Γ _,Φ Γ _,Φ Γ _,Φ Γ _,Φ Γ (.ofNat n)]=>ql 491 (Nat.beq (Nat.succ n) i) r
  |_=>.bad 492 0)
 |_=>.bad 493 0
theorem qmy{p:Value×Option SV}{i:Nat}{r:R}(h:qmx p i r=.ok ρ):r=.ok ρ∧0<i∧∃f s,p=(kp f (i - 1),some s):=by
 unfold qmx at h;split at h
 ·rename_i c s
  split at h
  ·rename_i a b c' d e n hc
   obtain⟨h1,h9⟩:=qe h;have e1:=xa6 h1;subst e1;refine⟨h9,Nat.succ_pos _,λj=>if j=0 then a else if j=1 then b else if j=2 then c' else if j=3 then d else e,s,?_⟩;have:c = #[Φ Γ a,Φ Γ b,Φ Γ c',Φ Γ d,Φ Γ e,Φ Γ (.ofNat n)]:=by
    grind
   rw[this];rfl
  ·cases h
 ·cases h
def qjU(es:List (Value×Option SV))(i:Nat)(r:R):R:=List.rec (motive:=λ_=>Nat→R) (λ_=>r) (λp _ ih i=>qmx p i (qm (Nat.pred i) λi=>ih i)) es i
theorem qaC{r:R}:∀{es:List (Value×Option SV)}{i:Nat},qjU es i r=.ok ρ→r=.ok ρ∧∀j,j<es.length→j<i∧∃f s,es[j]? = some (kp f (i - 1 - j),some s)
 |[],i,h=>⟨h,λj hj=>by cases hj⟩
 |p :: es,i,h=>by
  have h:qmx p i (qm (Nat.pred i) λi=>qjU es i r)=.ok ρ:=h;obtain⟨h,h0,f,s,h1⟩:=qmy h;rw[qj]at h;obtain⟨h,h2⟩:=qaC h;refine⟨h,λj hj=>?_⟩;cases j with
  |zero=>exact⟨h0,f,s,by rw[h1];rfl⟩
  |succ j=>
   obtain⟨h4,f,s,h3⟩:=h2 j (Nat.lt_of_succ_lt_succ hj);have h4:j<i - 1:=h4;exact⟨Ω,f,s,by rw[xd7,h3,show i - 1 -(j+1)=Nat.pred i - 1 - j by show i - 1 -(j+1)=i - 1 - 1 - j;omega]⟩
structure Uq(es:List (Value×Option SV)):Prop where
 key:∀p,p∈es→∃f n s,p=(kp f n,some s)
 pw:es.Pairwise λp q=>zW p.1≠zW q.1
theorem yp:∀{es:List (Value×Option SV)}(h:Uq es){v:Value}{s:SV},kG es v=some s↔(v,some s)∈es
 |[],_,v,s=>⟨λh=>(by cases h),λh=>(by cases h)⟩
 |p :: es,h,v,s=>by
  obtain⟨f,n,s',rfl⟩:=h.key p xd5;have h2:=List.pairwise_cons.1 h.pw;have ih:=yp (es:=es) ⟨λq hq=>h.key q (List.mem_cons_of_mem _ hq),h2.2⟩ (v:=v) (s:=s);rw[zR];split
  ·rename_i he
   have e:=eqK_kp.1 he;subst e;constructor
   ·simp_all
   ·grind
  ·rename_i he
   rw[ih,List.mem_cons];constructor
   ·exact .inr
   ·rintro(e|e)
    ·exact absurd (eqK_kp.2 (congrArg Prod.fst e)) he
    ·exact e
theorem Uq.isSome{es:List (Value×Option SV)}(h:Uq es){v:Value}:(kG es v).isSome=true↔∃s,(v,some s)∈es:=by
 constructor
 ·intro hs
  obtain⟨s,e⟩:=Option.isSome_iff_exists.1 hs;exact⟨s,(yp h).1 e⟩
 ·rintro⟨s,e⟩
  rw[(yp h).2 e];rfl
theorem Uq.of{es:List (Value×Option SV)}(h:∀j,j<es.length→∃f s,es[j]? = some (kp f (es.length - 1 - j),some s)):Uq es:=by
 refine⟨λp hp=>?_,?_⟩
 ·obtain⟨j,hj,e⟩:=List.getElem_of_mem hp
  grind
 ·rw[List.pairwise_iff_getElem]
  intro i j hi hj hij;obtain⟨f,s,e⟩:=h i hi;obtain⟨g,u,e2⟩:=h j hj;rw[xc7 hi]at e;rw[xc7 hj]at e2;rw[Option.some.inj e,Option.some.inj e2,wx,wx];omega
def qjV(args:List SV)(hp:Tr 6 XB)(nid:Nat)(k:SV→Tr 6 XB→Nat→R):R:=
 match args with
 |[.ptr tb 0]=>(match hp.find tb with
  |some (.cells 253 [_,_,.vec xid n 1,.vec rid n' 1,.mp mid])=>(match hp.find xid,hp.find rid,hp.find mid with
   |some (.rows 22 1 n1 xs),some (.rows 3 1 n2 rs),some (.map true [.i .i64,.i .i64,.i .i64,.i .i64,.i .i64,.i .i64] es)=>
    ql 494 (Nat.beq n' n) (ql 495 (Nat.beq n1 n) (ql 496 (Nat.beq n2 n) (ql 497 (Nat.ble n 100000) (ql 498 (Nat.beq es.length n) (qjT rs (Jk hp rid xs λL=>qcy L 0 .nil λt=>qoV L (L.length+2) t λt=>qmw t n L 0 (qjU es n (qet t L 0 λrs=>qeu t es λes=>
     zf (some (.rows 3 1 n rs)) 22 hp rid λhp=>zf (some (.map true [.i .i64,.i .i64,.i .i64,.i .i64,.i .i64,.i .i64] es)) 22 hp mid λhp=>k (.tup []) hp nid))))))))
   |_,_,_=>.bad 456 0)
  |_=>.bad 457 0)
 |_=>.bad 458 0
theorem qjW:yb Tryz.prog 163 qjV:=by
 intro ρ LM O args hp k st K hH h hk;unfold qjV at h;split at h
 ·rename_i tb
  split at h
  ·rename_i A Z xid N rid n' mid hft
   split at h
   ·rename_i n1 xs n2 rs es hfx hfr hfm
    obtain⟨a1,h⟩:=qe h;obtain⟨a2,h⟩:=qe h;obtain⟨a3,h⟩:=qe h;obtain⟨a4,h⟩:=qe h;obtain⟨a5,h⟩:=qe h;have e1:=xa6 a1;have e2:=xa6 a2;have e3:=xa6 a3;have hN:=xa7 a4;have hL:=xa6 a5;subst e1 e2 e3;obtain⟨h,b1⟩:=qaB h;obtain⟨L,h,b2,b3⟩:=yT h;obtain⟨t0,h⟩:=Vz _ _ _ _ h;obtain⟨t,h⟩:=qev _ _ _ _ h;obtain⟨h,b4⟩:=qex h;obtain⟨h,b5⟩:=qaC h;obtain⟨rs',h,b6,b7⟩:=qaz h;have h:=Jj h;obtain⟨hp1,p1,h⟩:=qC _ _ _ _ h;obtain⟨hp2,p2,h⟩:=qC _ _ _ _ h;obtain⟨rowx,hbx,lx,gx⟩:=hH.rows hfx;obtain⟨rowr,hbr,lr,gr⟩:=hH.rows hfr;obtain⟨dom,get,hbm,hd⟩:=hH.map hfm;have hbt:=hH.cells hft;have uq:Uq es:=Uq.of λj hj=>by rw[hL];exact(b5 j hj).2
    have hdm:∀v,dom v=true↔∃s,(v,some s)∈es:=λv=>by rw[(hd v).1];exact uq.isSome
    have hidx:∀v,dom v=true→zW v<n2∧∃f,v=kp f (zW v)∧∃s,es[n2 - 1 - zW v]? = some (v,some s):=λv hv=>by
     obtain⟨s,hm⟩:=(hdm v).1 hv;obtain⟨j,hj,e⟩:=List.getElem_of_mem hm;obtain⟨_,f,s2,e2⟩:=b5 j hj;rw[xc7 hj,e]at e2;have e3:=congrArg Prod.fst (Option.some.inj e2);have e3:v=kp f (n2 - 1 - j):=e3;subst e3;rw[wx]
     grind
    intro base okc ns r outs a w vs hI hlen hv;have keys:=hI.keys;have b3':∀i,i<n2→((L.getD i []).length=0∧rowx i 0=.val (.slice none 0 0))∨∃xi r,rowx i 0=.vec xi (L.getD i []).length 1∧(L.getD i []).length≤5∧blk st.hp xi=some (.rows 3 1 (L.getD i []).length r)∧(xi≠tb∧xi≠xid∧xi≠rid∧xi≠mid∧xi<st.nid)∧∀j,j<(L.getD i []).length→r j 0=Ψ (Φ Γ ((L.getD i []).getD j 0:Nat)):=λi hi=>by
     have gxi:=gx i 0 hi Ω;rw[Nat.mul_one,xb1]at gxi;rcases b3 i Ω with⟨c1,c2⟩|⟨xi,n,l,c1,c2,c3,c4,c5,c6⟩
     ·simp_all
     ·obtain⟨r,d1,d2,d3⟩:=hH.rows c4
      have el:(L.getD i []).length=n:=by omega
      refine .inr ⟨xi,r,by rw[gxi,c1,el],Ω,by rw[d1,el],⟨λe=>?_,λe=>?_,c3,λe=>?_,keys _ _ d1⟩,λj hj=>?_⟩
      ·rw[e,hbt]at d1;cases d1
      ·rw[e,hbx]at d1;cases d1
      ·rw[e,hbm]at d1;cases d1
      ·grind
    have b4':∀i,i<n2→(t.find i).getD 0=Zv t (L.getD i [])∧Zv t (L.getD i [])≤1000000∧∀a,a∈L.getD i []→a<n2:=λi hi=>by
     grind
    have hl:Hl n2 (λi=>(L.getD i []).length) (λi j=>(L.getD i []).getD j 0) (FF t) dom rowx st.hp st.nid tb xid rid mid:=by
     refine⟨⟨λi hi=>?_,λi hi=>?_,λi j hi hj=>?_,λi hi=>(qay (b4' i hi).1).1,λi hi=>(qay (b4' i hi).1).2⟩,hN,λi hi=>?_,λv hv=>?_,λv v' h1 h2 h3=>?_,λi hi=>?_,λi hi=>?_,keys _ _ hbt,keys _ _ hbx,keys _ _ hbr,keys _ _ hbm,?_,?_,?_,?_,?_,?_,λk x hx=>keys k x hx⟩
     ·unfold FF JQ;omega
     ·have⟨c1,c2,_⟩:=b4' i hi
      unfold FF JQ;rw[c1];omega
     ·refine(b4' i hi).2.2 _ ?_
      simp_all
     ·grind
     ·grind
     ·grind
     ·obtain⟨_,f,s,c1⟩:=b5 (n2 - 1 - i) Ω
      rw[show n2 - 1 -(n2 - 1 - i)=i by omega]at c1;exact⟨kp f i,(hdm _).2 ⟨s,List.mem_of_getElem? c1⟩,wx f i⟩
     ·grind
     ·grind
     ·grind
     ·rintro rfl;rw[hbt]at hbm;cases hbm
     ·rintro rfl;rw[hbx]at hbr;cases hbr
     ·rintro rfl;rw[hbx]at hbm;cases hbm
     ·rintro rfl;rw[hbr]at hbm;cases hbm
    have E:=qry n2 _ _ (FF t) dom get A Z rowx rowr st.hp st.nid tb xid rid mid hl (λi hi=>by
     rw[gr i 0 hi Ω,Nat.mul_one,xb1];exact b1 i Ω)
    have E2:=EffVC.sub (hp:=st.hp) (λid x hx=>by
     simp only[blk]at hx;split at hx
     ·rename_i e;subst e;cases hx;exact hbr
     ·split at hx
      ·rename_i e;subst e;cases hx;exact hbm
      ·split at hx
       ·rename_i e;subst e;cases hx;exact hbt
       ·split at hx
        ·rename_i e;subst e;cases hx;exact hbx
        ·exact hx) E
    refine Ji (E2 O st.fr) (λst' sv hself hq=>?_) base okc ns r outs a w vs hI hlen hv;obtain⟨fr',hp',nid'⟩:=st';obtain⟨q0,q1,q2,row,q3,q4⟩:=hq;simp only[]at q0 q1 q2 q4;subst q0 q2 q4;have hrow:∀i j,i<n2→j<1→Wk ((rid,.rows 3 1 n2 row) ::(mid,.map kfP (λv=>dom v&&decide (FF t (zW v)<0)) get) ::(tb,.cells 253 [A,Z,.vec xid n2 1,.vec rid n2 1,.mp mid]) ::(xid,.rows 22 1 n2 rowx) :: st.hp) (ren [(st.nid,some st.nid)]) st.nid (λ_=>false) (row i j) (row i j):=λi j hi hj=>by
     obtain rfl:j=0:=by omega
     rw[q3 i hi];simp[Wk]
    refine⟨st.nid,_,.tup [],st.nid,rfl,xa5 _,λid x hx=>⟨.inl ⟨?_,hx⟩,?_⟩,by simp[Wk,WkL],xa5 _,hk _ hp2 _ _ (λid b hb=>?_) h⟩
    ·simp only[blk]at hx
     split at hx
     ·rename_i e;rw[e];exact keys _ _ hbr
     ·split at hx
      ·rename_i e;rw[e];exact keys _ _ hbm
      ·split at hx
       ·rename_i e;rw[e];exact keys _ _ hbt
       ·split at hx
        ·rename_i e;rw[e];exact keys _ _ hbx
        ·exact keys _ _ hx
    ·simp only[blk]at hx
     split at hx
     ·cases hx
      exact⟨rfl,rfl,xa5 _,hrow⟩
     ·split at hx
      ·cases hx
       have hm0:=hself ((rid,.rows 3 1 n2 row) ::(mid,.map kfP (λv=>dom v&&decide (FF t (zW v)<0)) get) ::(tb,.cells 253 [A,Z,.vec xid n2 1,.vec rid n2 1,.mp mid]) ::(xid,.rows 22 1 n2 rowx) :: st.hp) st.nid st.nid (xa5 _) _ _ hbm;exact⟨rfl,rfl,λk hk=>hm0.2.2 k (xe6 _ _▸hk).1⟩
      ·split at hx
       ·rename_i e;cases hx;exact hself _ _ _ (xa5 _) _ _ hbt
       ·split at hx
        ·rename_i e;cases hx;exact hself _ _ _ (xa5 _) _ _ hbx
        ·exact hself _ _ _ (xa5 _) _ _ hx
    rw[p2 id]at hb;simp only[blk];by_cases e1:id=rid
    ·subst e1
     rw[if_neg hl.d6,p1,if_pos rfl]at hb;rw[if_pos rfl];cases hb;refine⟨_,rfl,rfl,rfl,rfl,Ω,λi j hi hj=>?_⟩;obtain rfl:j=0:=by omega
     have:=b7 i Ω;rw[xb0]at this;rw[q3 i hi,Nat.mul_one,xb1,this]
    ·rw[if_neg e1]
     by_cases e2:id=mid
     ·subst e2
      rw[if_pos rfl]at hb;rw[if_pos rfl];cases hb;have uq2:Uq (es.filter λp=>decide ((t.find (qgD p.1)).getD 0=0)):=⟨λp hp=>uq.key p (List.mem_filter.1 hp).1,uq.pw.filter _⟩;have hmm:∀v s,(v,some s)∈(es.filter λp=>decide ((t.find (qgD p.1)).getD 0=0))↔(v,some s)∈es∧FF t (zW v)<0:=λv s=>by
       rw[List.mem_filter];constructor
       ·rintro⟨c1,c2⟩
        obtain⟨f,n,s2,c3⟩:=uq.key _ c1;have c3:v=kp f n:=congrArg Prod.fst c3;subst c3;have c2:=of_decide_eq_true c2;refine⟨c1,?_⟩;rw[wx];have c2:(t.find n).getD 0=0:=c2;unfold FF JQ;rw[c2];decide
       ·rintro⟨c1,c2⟩
        obtain⟨f,n,s2,c3⟩:=uq.key _ c1;have c3:v=kp f n:=congrArg Prod.fst c3;subst c3;refine⟨c1,decide_eq_true ?_⟩;rw[wx]at c2;unfold FF JQ at c2;show(t.find n).getD 0=0;omega
      refine⟨_,rfl,rfl,λv=>⟨?_,λs hs=>(hd v).2 s ((yp uq).2 ((hmm v s).1 ((yp uq2).1 hs)).1)⟩⟩;rw[Bool.eq_iff_iff,uq2.isSome,xe6,decide_eq_true_eq,hdm];constructor
      ·rintro⟨⟨s,c1⟩,c2⟩;exact⟨s,(hmm v s).2 ⟨c1,c2⟩⟩
      ·rintro⟨s,c1⟩;exact⟨⟨s,((hmm v s).1 c1).1⟩,((hmm v s).1 c1).2⟩
     ·rw[if_neg e2,p1,if_neg e1]at hb
      rw[if_neg e2];obtain⟨b',c1,c2⟩:=hH id b hb;refine⟨b',?_,c2⟩;by_cases e3:id=tb
      ·subst e3;rw[if_pos rfl,←c1,hbt]
      ·rw[if_neg e3]
       by_cases e4:id=xid
       ·subst e4;rw[if_pos rfl,←c1,hbx]
       ·rw[if_neg e4];exact c1
   ·cases h
  ·cases h
 ·cases h
end
end Go.Sx
end
section
namespace Go.Sx
open Go.Proofs
open Go.RowKit Go.Tn
noncomputable section
variable{ρ:Q}
def qmz(l:List Nat)(f:List Nat→R):R:=(List.rec (motive:=λ_=>(List Nat→R)→R) (λf=>f []) (λa _ ih f=>qm a λa=>ih λl=>f (a :: l)) l) f
theorem WO:∀(l:List Nat)(f:List Nat→R),qmz l f=f l
 |[],f=>rfl
 |a :: l,f=>by
  show qm a (λa=>qmz l λl=>f (a :: l))=_;rw[qj,WO]
def qmA(N:Nat)(L:List (List Nat))(r:R):R:=List.rec r (λa _ ih=>ql 500 (Nat.ble a.length 5) (ltK N a ih)) L
theorem WP{N:Nat}{r:R}:∀{L:List (List Nat)},qmA N L r=.ok ρ→r=.ok ρ∧∀l,l∈L→l.length≤5∧∀a,a∈l→a<N
 |[],h=>⟨h,λl hl=>by cases hl⟩
 |a :: L,h=>by
  have h:ql 500 (Nat.ble a.length 5) (ltK N a (qmA N L r))=.ok ρ:=h;obtain⟨h1,h⟩:=qe h;obtain⟨h,h2⟩:=WN h;obtain⟨h,h3⟩:=WP h;refine⟨h,λl hl=>?_⟩;rcases List.mem_cons.1 hl with rfl|hl
  ·simp_all
  ·exact h3 l hl
def svN(l:List Nat):List SV:=l.map λ(n:Nat)=>Ψ (Φ Γ (.ofNat n))
def qjX(args:List SV)(hp:Tr 6 XB)(nid:Nat)(k:SV→Tr 6 XB→Nat→R):R:=
 match args with
 |[.ptr tb 0]=>(match hp.find tb with
  |some (.cells 253 [_,.vec sid n' 5,.vec xid n 1,_,_])=>(match hp.find xid with
   |some (.rows 22 1 n1 xs)=>ql 501 (Nat.beq n' n) (ql 502 (Nat.beq n1 n) (ql 503 (Nat.ble n 1000) (Jk hp tb xs λL=>qmA n L
    (match G6 (λi=>L.getD i []) n (n+1) (n+1) n 0 []with
     |none=>.bad 504 0
     |some l=>qmz l λl=>qm (Nat.succ nid) λn2=>qm nid λnid=>qm l.length λm=>
      (match m with
       |0=>k (.val (.slice none 0 0)) hp nid
       |_=>zf (some (.rows 3 1 m (svN l))) 22 hp nid λhp=>k (.vec nid m 1) hp n2)))))
   |_=>.bad 505 0)
  |_=>.bad 506 0)
 |_=>.bad 507 0
theorem qmB{l:List Nat}{i:Nat}(h:i<l.length):(svN l).getD i .top=Ψ (Φ Γ (l.getD i 0:Nat)):=by
 unfold svN
 simp_all
theorem qjY:yb Tryz.prog 73 qjX:=by
 intro ρ LM O args hp k st K hH h hk;unfold qjX at h;split at h
 ·rename_i tb
  split at h
  ·rename_i A sid n' xid n Rr M hft
   split at h
   ·rename_i n1 xs hfx
    obtain⟨a1,h⟩:=qe h;obtain⟨a2,h⟩:=qe h;obtain⟨a3,h⟩:=qe h;obtain⟨L,h,b2,b3⟩:=yT h;obtain⟨h,b4⟩:=WP h;have e1:=xa6 a1;have e2:=xa6 a2;have hN:=xa7 a3;subst e1 e2;split at h
    ·cases h
    ·rename_i l hF
     rw[WO,qj,qj,qj]at h;obtain⟨rowx,hbx,lx,gx⟩:=hH.rows hfx;have hbt:=hH.cells hft;intro base okc ns r outs a w vs hI hlen hv;have keys:=hI.keys;have hmem:∀i,i<n1→L.getD i []∈L:=λi hi=>by
      simp_all
     have hC:Go.Tn.Cl n1 (λi=>L.getD i []) rowx st.hp st.nid tb xid A Rr M sid:=by
      refine⟨Ω,λi hi=>(b4 _ (hmem i hi)).1,λi hi=>(b4 _ (hmem i hi)).2,hbt,hbx,λi hi=>?_,λk x hx=>keys k x hx⟩;have gxi:=gx i 0 hi Ω;rw[Nat.mul_one,xb1]at gxi;rcases b3 i Ω with⟨c1,c2⟩|⟨xi,n,l,c1,c2,c3,c4,c5,c6⟩
      ·simp_all
      ·obtain⟨r,d1,d2,d3⟩:=hH.rows c4
       have el:(L.getD i []).length=n:=by omega
       refine .inr ⟨xi,r,by rw[gxi,c1,el],by rw[d1,el],λj hj=>?_⟩
       grind
     have E:=e73 n1 _ rowx st.hp st.nid tb xid A Rr M sid (n1+1) (n1+1) l hC Ω Ω hF (600*(n1+1)+2000) Ω;cases l with
     |nil=>
      refine Ji (E O st.fr) (λst' sv hself hq=>?_) base okc ns r outs a w vs hI hlen hv;obtain⟨fr',hp',nid'⟩:=st';obtain⟨q0,q1,bid,rr,q2,q3,q4,q5⟩:=hq;simp only[]at q0 q1 q2 q4;subst q0 q4 q5;exact⟨st.nid,_,_,st.nid,rfl,xa5 _,λid x hx=>⟨.inl ⟨keys id x hx,hx⟩,hself _ _ _ (xa5 _) _ _ hx⟩,by simp[Go.Tn.bSV,Wk],xa5 _,hk _ hp _ _ hH h⟩
     |cons x l=>
      have h:zf (some (.rows 3 1 (l.length+1) (svN (x :: l)))) 22 hp st.nid (λhp=>k (.vec st.nid (l.length+1) 1) hp (st.nid+1))=.ok ρ:=h;obtain⟨hp1,p1,h⟩:=qC _ _ _ _ h;refine Ji (E O st.fr) (λst' sv hself hq=>?_) base okc ns r outs a w vs hI hlen hv;obtain⟨fr',hp',nid'⟩:=st';obtain⟨q0,q1,bid,rr,q2,q3,q4,q5⟩:=hq;simp only[]at q0 q1 q2 q4;subst q0 q4 q5;have⟨z1,z2⟩:=q2 Ωg;refine⟨bid,(st.nid,.rows 3 1 (l.length+1) rr) :: st.hp,.vec st.nid (l.length+1) 1,st.nid+1,rfl,z1,λid y hy=>?_,?_,xc4 _,hk _ hp1 _ _ (λid b hb=>?_) h⟩
      ·simp only[blk]at hy
       split at hy
       ·rename_i e
        cases hy;refine⟨.inr ⟨e,by simp[Go.Tn.bH,blk],xa5 _⟩,rfl,rfl,xa5 _,λi j hi hj=>?_⟩;obtain rfl:j=0:=by omega
        rw[q3 i hi];simp[Wk]
       ·have hlt:=keys id y hy
        refine⟨.inl ⟨hlt,?_⟩,hself _ _ _ (xc4 _) _ _ hy⟩;simp only[Go.Tn.bH,blk];rw[if_neg Ω];exact hy
      ·unfold Go.Tn.bSV Wk
       refine⟨Ω,?_,rfl,rfl⟩;simp[ren]
      ·rw[p1 id]at hb
       simp only[blk];by_cases e:id=st.nid
       ·rw[if_pos e]at hb ⊢
        cases hb;refine⟨_,rfl,rfl,rfl,rfl,by simp[svN],λi j hi hj=>?_⟩;obtain rfl:j=0:=by omega
        rw[Nat.mul_one,xb1,qmB hi];exact q3 i hi
       ·rw[if_neg e]at hb ⊢
        exact hH id b hb
   ·cases h
  ·cases h
 ·cases h
end
end Go.Sx
end
section
namespace Go.Tn
open Go.Proofs
open Go.Sx
def WQ:List Nat→(Nat→Nat)→List Nat→(Nat→Nat)×List Nat
 |[],seen,wait=>(seen,wait)
 |to :: l,seen,wait=>if seen to=0 then WQ l (setN seen to 1) (wait++[to])else WQ l seen wait
def VD(L:Nat→List Nat):Nat→(Nat→Nat)→List Nat→List Nat→Option (List Nat)
 |0,_,_,_=>none
 |_+1,_,[],out=>some out
 |f+1,seen,i :: wait,out=>VD L f (WQ (L i) seen wait).1 (WQ (L i) seen wait).2 (out++[i])
theorem yU{O:Ctx}{fr:List (Nat×SV)}{hp:List (Nat×Blk)}{nid d k:Nat}{t:TypeId}(row:Nat→Nat→SV)(h:Go.Sx.look fr d=.val (.slice none 0 0)):Weak O ⟨fr,hp,nid⟩ ⟨putFr fr d (.vec nid 0 k),(nid,.rows t k 0 row) :: hp,nid+1⟩:=λbase okc ns outs a w ⟨r,h'⟩=>by
 obtain⟨r',hst,hrep⟩:=wR h'.sat nid (xb4 _) none (hp':=(nid,.rows t k 0 row) :: hp) (e:=t) (k:=k) (row:=row) ΩS (λj hj _=>by simp only[blk];rw[if_neg (Nat.ne_of_lt hj)]) (λo ho=>by cases ho);rw[gD]at hst hrep;have h2:=(h'.step hst (λi x hx=>by
  simp only[blk]at hx;split at hx
  ·simp_all
  ·exact Nat.lt_succ_of_lt (h'.keys i x hx)) (xc4 _) (d:=none) (λt ht=>by cases ht) (.val undef)).nid (nid+1)
 refine⟨r',h2.sat,h2.keys,λi=>?_,h2.size,h2.lo,h2.out,h2.rfix,h2.defers⟩;show Rep _ _ _ _ (Go.Sx.look (putFr fr d _) i) _;rw[zn];split
 ·rename_i e
  have hv:=h'.fr d;rw[show(⟨fr,hp,nid⟩:St).fr=fr from rfl,h]at hv;rw[e];generalize a.tmps.getD d undef=v at hv ⊢;cases hv;exact hrep
 ·exact h2.fr i
def qoX(l:List Nat)(srow r:Nat→Nat→SV):Prop:=∀k,k<l.length→∀j,j<5→r k j=srow (l.getD k 0) j
theorem one5(a b c d e:Int):oneRows 1 5 (λi j=>[Ψ (Φ Γ a),Ψ (Φ Γ b),Ψ (Φ Γ c),Ψ (Φ Γ d),Ψ (Φ Γ e)].getD (i*5+j) SV.top):=λi j hi hj=>by
 obtain rfl:i=0:=by omega
 have:j=0∨j=1∨j=2∨j=3∨j=4:=by omega
 rcases this with rfl|rfl|rfl|rfl|rfl<;>rfl
structure QJ(N:Nat)(L:Nat→List Nat)(fu n1 lo:Nat)(srow:Nat→Nat→SV)(res0:List Nat)(f c:Nat)(seen:Nat→Nat)(byr:Nat→Nat→SV)(wait:List Nat)(wid off:Nat)(J:Nat→Nat→SV)(outL:List Nat)(oid:Nat)(r:Nat→Nat→SV):Prop where
 fu:f+c=fu
 run:VD L f seen wait outL=some res0
 row:∀x,x<N→byr x 0=Ψ (Φ Γ (seen x:Nat))
 le:∀x,x<N→seen x≤1
 lt:∀x,x∈wait→x<N
 J:∀i,i<wait.length→J (off+i) 0=Ψ (Φ Γ (wait.getD i 0:Nat))
 off:off≤c
 len:wait.length≤1+5*c
 w1:lo≤wid
 w2:wid<n1+450*c
 out:qoX outL srow r
 ol:outL.length≤c
 o1:lo≤oid
 o2:oid<n1+450*c
 o3:wid≠oid
structure RJ(N:Nat)(L:Nat→List Nat)(i c n1 n2 lo nr:Nat)(R3:(Nat→Nat)×List Nat)(oid k:Nat)(seen:Nat→Nat)(byr:Nat→Nat→SV)(wait:List Nat)(wid off:Nat)(J:Nat→Nat→SV):Prop where
 kl:k≤(L i).length
 run:WQ ((L i).drop k) seen wait=R3
 row:∀x,x<N→byr x 0=Ψ (Φ Γ (seen x:Nat))
 le:∀x,x<N→seen x≤1
 lt:∀x,x∈wait→x<N
 J:∀i,i<wait.length→J (off+i) 0=Ψ (Φ Γ (wait.getD i 0:Nat))
 off:off≤c+1
 len:wait.length≤nr+k
 w1:lo≤wid
 w2:wid<n2+60*k
 o3:wid≠oid
theorem qrF(N:Nat)(L:Nat→List Nat)(nx:Nat→Nat→SV)(H:List (Nat×Blk))(id tb xid sid:Nat)(A R M:SV)(s:Nat→Int)(srow:Nat→Nat→SV)(i0 fu:Nat)(res0:List Nat)(h:Cl N L nx H id tb xid A R M sid)(hfu:fu≤100000)
  (hsr:blk H sid=some (.rows 140 5 N srow)) (hsi:∀i,i<N→∀j,j<5→∃x:Int,srow i j=Ψ (Φ Γ x)) (hix:∀sd:Nat→Nat→SV,EffVC Tryz.prog 162 [.ptr tb 0,.agg (stL s)] ((id+7,.rows 3 1 N sd) ::(id,.cells 140 (stL s)) :: H) (id+11) (λhp' nid' res=>hp'=((id+7,.rows 3 1 N sd) ::(id,.cells 140 (stL s)) :: H)∧nid'=id+11+200∧res=I (i0:Nat)))
  (hi0N:i0<N) (hF:VD L fu (setN (λ_=>0) i0 1) [i0] []=some res0) :
  EffVC Tryz.prog 262 [.ptr tb 0,.agg (stL s)] H id (λhp' nid' res=>nid'≤id+400+450*fu∧∃oid r,id≤oid∧oid<nid'∧qoX res0 srow r∧hp'=(oid,.rows 140 5 res0.length r) :: H∧res=.vec oid res0.length 5):=by
 refine wo (qV [(14,[(0,0)])]) follows Tryz.func262 rfl Ωb Ωb (by rw[Tryz.ntmps262];simp) λout=>?_;have hN5:=h.N5;have htb:=h.und _ _ h.tb;have hxid:=h.und _ _ h.xid;have hsid:=h.und _ _ hsr;have NB:=(⟨nmA htb,nmA hxid,nmA hsid⟩:_∧_∧_);(repeat' first|refine sD ?_ ?_<;>intro _|refine aAd ?_|simp -dsimp only[↓RP,RQ,seval,h.tb,qdV,qah,↓RY,NB,QÀ,qR]);refine gG Ωr (hix _) λhp' nid' res hQ=>?_;obtain⟨rfl,rfl,rfl⟩:=hQ;(repeat' first|refine sD ?_ ?_<;>intro _|refine aAd ?_|simp -dsimp only[↓RP,RQ,seval,h.tb,qdV,qah,↓RY,NB,QÀ,qR]);obtain⟨n1,hn1⟩:∃n1,n1=id+300:=⟨_,rfl⟩;have hB:∀x,x<N→(if x=i0∧0=0 then Ψ (Φ Γ 1)else SV.val ([Value.int .i64 0].getD 0 undef))=Ψ (Φ Γ (setN (λ_=>0) i0 1 x:Nat)):=λx hx=>by
  unfold setN;by_cases e:x=i0
  iterate 2 focus simp_all
 refine qp (λ(z:Nat×Nat×(Nat→Nat)×(Nat→Nat→SV)×List Nat×Nat×Nat×(Nat→Nat→SV)×List Nat×Nat×(Nat→Nat→SV))=>QJ N L fu n1 (id+8) srow res0 z.1 z.2.1 z.2.2.1 z.2.2.2.1 z.2.2.2.2.1 z.2.2.2.2.2.1 z.2.2.2.2.2.2.1 z.2.2.2.2.2.2.2.1 z.2.2.2.2.2.2.2.2.1 z.2.2.2.2.2.2.2.2.2.1 z.2.2.2.2.2.2.2.2.2.2) (λz=>⟨[(0,.ptr tb 0),(5,.vec (id+7) N 1),(6,.que z.2.2.2.2.2.1 (z.2.2.2.2.2.2.1) (z.2.2.2.2.1.length) 1),(7,.vec z.2.2.2.2.2.2.2.2.2.1 (z.2.2.2.2.2.2.2.2.1.length) 5)],(z.2.2.2.2.2.1,.rows 3 1 (z.2.2.2.2.2.2.1+z.2.2.2.2.1.length) z.2.2.2.2.2.2.2.1) ::(id+7,.rows 3 1 N z.2.2.2.1) ::(z.2.2.2.2.2.2.2.2.2.1,.rows 140 5 z.2.2.2.2.2.2.2.2.1.length z.2.2.2.2.2.2.2.2.2.2) :: H,n1+450*z.2.1⟩) (λz=>z.1) (fu,0,setN (λ_=>0) i0 1,λa b=>if a=i0∧b=0 then Ψ (Φ Γ 1)else SV.val ([Value.int .i64 0].getD b undef),[i0],id+214,0,λi j=>[Ψ (Φ Γ (i0:Nat))].getD (i+j) SV.top,[],id+223,λ_ _=>.top) ⟨rfl,hF,hB,λx hx=>(by show(if x=i0 then 1 else 0)≤1;split<;>omega),λx hx=>(by rw[List.mem_singleton.1 hx];exact hi0N),λi hi=>(by have hi:i<1:=hi;obtain rfl:i=0:=Ω;rfl),xa5 _,Ωg,Ωc,Ωc,λk hk=>(by cases hk),xa5 _,Ωc,Ωc,Ωc⟩ (Weak.trans (qiV (d:=6) rfl) (Weak.trans (yU (t:=140) (k:=5) (d:=7) (λ_ _=>.top) rfl) (weakSU Ωc Ω2 ?hA5))) λz hz=>?_
 case hA5=>(intro q v hv;simp only[blk]at hv ⊢;((repeat' split at hv)<;>(repeat' split)<;>first|exact hv|(exfalso;omega)|(exfalso;have:=h.und _ _ hv;omega)))
 obtain⟨f,c,seen,byr,wait,wid,off,J,outL,oid,orw⟩:=z;have hz':QJ N L fu n1 (id+8) srow res0 f c seen byr wait wid off J outL oid orw:=hz;obtain⟨y1,y2,y3,y4,y5,y6,y7,y8,y9,y10,y11,y12,y13,y14,y15⟩:=hz';dsimp only;cases f with
 |zero=>cases y2
 |succ f=>
 obtain⟨n2,hn2⟩:∃n2,n2=n1+450*c:=⟨_,rfl⟩;rw[←hn2]at y10 y14 ⊢;clear NB;have NB:=(⟨nmA (Ω:tb<n2),nmA (Ω:xid<n2),nmA (Ω:sid<n2),nmA y10,nmA y14,nmE (Ω:wid≠tb),nmE (Ω:wid≠xid),nmE (Ω:wid≠sid),nmE (Ω:wid≠id+7),nmE y15,nmE (Ω:oid≠tb),nmE (Ω:oid≠xid),nmE (Ω:oid≠sid),nmE (Ω:oid≠id+7),nmA htb,nmA hxid,nmA hsid,nmA (Ω:id+7<n2)⟩:_∧_∧_∧_∧_∧_∧_∧_∧_∧_∧_∧_∧_∧_∧_∧_∧_∧_);have hdr0:dropBlk H oid=H:=zg (h.und.none Ω);cases wait with
 |nil=>
  simp only[VD]at y2;have y2:=Option.some.inj y2;subst y2;repeat' first|refine sD ?_ ?_<;>intro _|refine aAd ?_|simp -dsimp only[↓RP,RQ,seval,h.tb,↓RY,NB,QÀ,qR]
  all_goals try exact ΩB
  refine⟨_,_,_,weakSU (xa5 _) (fr':=[(0,_)]) ⟨.inr rfl,trivial⟩ ?hSb,Ω,oid,orw,Ω,Ω,y11,rfl,rfl⟩
  case hSb=>(intro q v hv;simp only[blk]at hv ⊢;((repeat' split at hv)<;>(repeat' split)<;>first|exact hv|(exfalso;omega)|(exfalso;have:=h.und _ _ hv;omega)))
 |cons i rest=>
  have hi:i<N:=y5 i xd5;have hgt:=decide_eq_true (Ω:(0:Int)<((rest.length+1:Nat):Int));have hJ0:=y6 0 Ωg;rw[xb1]at hJ0;have hJ1:J off 0=Ψ (Φ Γ (i:Nat)):=hJ0;rw[xe4]at y8;have hql:((rest.length+1:Nat):Int) - 1=((rest.length:Nat):Int):=by omega
  obtain⟨x0,e0⟩:=hsi i hi 0 Ω;obtain⟨x1,e1⟩:=hsi i hi 1 Ω;obtain⟨x2,e2⟩:=hsi i hi 2 Ω;obtain⟨x3,e3⟩:=hsi i hi 3 Ω;obtain⟨x4,e4⟩:=hsi i hi 4 Ω;simp only[VD]at y2;have hor:qoX (outL++[i]) srow (λa b=>if a<outL.length then orw a b else [Ψ (Φ Γ x0),Ψ (Φ Γ x1),Ψ (Φ Γ x2),Ψ (Φ Γ x3),Ψ (Φ Γ x4)].getD ((a - outL.length)*5+b) SV.top):=λa ha b hb=>by
   rw[xc8,xd1]at ha;by_cases hc:a<outL.length
   ·show(if a<outL.length then orw a b else _)=_
    rw[if_pos hc,y11 a hc b hb,xc6,xc6,xc9 hc]
   ·grind
  obtain⟨or2,hor2⟩:∃or2,or2=(λa b=>if a<outL.length then orw a b else [Ψ (Φ Γ x0),Ψ (Φ Γ x1),Ψ (Φ Γ x2),Ψ (Φ Γ x3),Ψ (Φ Γ x4)].getD ((a - outL.length)*5+b) SV.top):=⟨_,rfl⟩;rw[←hor2]at hor;have hl5:=h.l5 i hi;rcases h.nx i hi with⟨c1,c2⟩|⟨xi,r,c1,c2,c3⟩
  ·rw[c1]at y2
   simp only[WQ]at y2;(repeat' first|refine sD ?_ ?_<;>intro _|refine aAd ?_|simp -dsimp only[↓RP,RQ,seval,c2,hgt,hql,h.tb,h.xid,hsr,hJ1,e0,e1,e2,e3,e4,hdr0,qnI,↓RY,NB,QÀ,qR]);refine qp (λ(z:Unit)=>True) (λ_=>⟨[(0,.ptr tb 0),(5,.vec (id+7) N 1),(6,.que wid (off+1) (rest.length) 1),(7,.vec (n2+19) (outL.length+1) 5)]++[(51,Ψ (Φ Γ 0)),(52,Ψ (Φ Γ 0))],(wid,.rows 3 1 (off+1+rest.length) J) ::(id+7,.rows 3 1 N byr) ::(n2+19,.rows 140 5 (outL.length+1) or2) :: H,n2+100⟩) (λ_=>0) () trivial (weakSU Ω Ωd ?hSa) λz hz=>?_
   case hSa=>rw[hor2,show off+1+rest.length=off+(rest.length+1) by omega];(intro q v hv;simp only[blk]at hv ⊢;((repeat' split at hv)<;>(repeat' split)<;>first|exact hv|(exfalso;omega)|(exfalso;have:=h.und _ _ hv;omega)))
   repeat' first|refine sD ?_ ?_<;>intro _|refine aAd ?_|simp -dsimp only[↓RP,RQ,seval,↓RY,NB,QÀ,qR]
   all_goals try exact ΩB
   have hq:QJ N L fu n1 (id+8) srow res0 f (c+1) seen byr rest wid (off+1) J (outL++[i]) (n2+19) or2:=⟨Ω,y2,y3,y4,λx hx=>y5 x (List.mem_cons_of_mem _ hx),λi hi=>by
    have:=y6 (i+1) Ωj;rw[show off+1+i=off+(i+1) by omega,this];rfl,Ω,Ω,y9,Ω,hor,by rw[xc8,xd1];omega,Ω,Ω,Ω⟩
   exact⟨(f,c+1,seen,byr,rest,wid,off+1,J,outL++[i],n2+19,or2),hq,Ωc,weakSU Ωc Ωd (by dsimp only;rw[xc8,xd1,show off+1+rest.length=off+(1+rest.length) by omega];exact SubHp.refl _)⟩
  ·have hxi:=h.und _ _ c2
   have NX:=(⟨nmA (Ω:xi<n2),nmE (Ω:xi≠wid),nmE (Ω:xi≠oid),nmA hxi⟩:_∧_∧_∧_);obtain⟨R3,hR3⟩:∃R3,R3=WQ (L i) seen rest:=⟨_,rfl⟩;rw[←hR3]at y2;(repeat' first|refine sD ?_ ?_<;>intro _|refine aAd ?_|simp -dsimp only[↓RP,RQ,seval,c1,hgt,hql,h.tb,h.xid,hsr,hJ1,e0,e1,e2,e3,e4,hdr0,qnI,↓RY,NB,QÀ,qR]);refine qp (λ(z:Nat×(Nat→Nat)×(Nat→Nat→SV)×List Nat×Nat×Nat×(Nat→Nat→SV))=>RJ N L i c n1 (n2+40) (id+8) rest.length R3 (n2+19) z.1 z.2.1 z.2.2.1 z.2.2.2.1 z.2.2.2.2.1 z.2.2.2.2.2.1 z.2.2.2.2.2.2) (λz=>⟨[(0,.ptr tb 0),(5,.vec (id+7) N 1),(6,.que z.2.2.2.2.1 (z.2.2.2.2.2.1) (z.2.2.2.1.length) 1),(7,.vec (n2+19) (outL.length+1) 5)]++[(50,.vec xi (L i).length 1),(51,Ψ (Φ Γ ((L i).length:Nat))),(52,Ψ (Φ Γ (z.1:Nat)))],(z.2.2.2.2.1,.rows 3 1 (z.2.2.2.2.2.1+z.2.2.2.1.length) z.2.2.2.2.2.2) ::(id+7,.rows 3 1 N z.2.2.1) ::(n2+19,.rows 140 5 (outL.length+1) or2) :: H,n2+40+60*z.1⟩) (λz=>(L i).length - z.1) (0,seen,byr,rest,wid,off+1,J) (by
     have:RJ N L i c n1 (n2+40) (id+8) rest.length R3 (n2+19) 0 seen byr rest wid (off+1) J:=⟨xb6 _,hR3.symm,y3,y4,λx hx=>y5 x (List.mem_cons_of_mem _ hx),λi hi=>by
      have:=y6 (i+1) Ωj;rw[show off+1+i=off+(i+1) by omega,this];rfl,Ω,Ω,y9,Ω,Ω⟩
     exact this) (weakSU Ωc Ωd ?hSc) λz hz=>?_
   case hSc=>dsimp only;rw[hor2,show off+1+rest.length=off+(rest.length+1) by omega];(intro q v hv;simp only[blk]at hv ⊢;((repeat' split at hv)<;>(repeat' split)<;>first|exact hv|(exfalso;omega)|(exfalso;have:=h.und _ _ hv;omega)))
   obtain⟨k,seen1,byr1,wait1,wid1,off1,J1⟩:=z;have hz':RJ N L i c n1 (n2+40) (id+8) rest.length R3 (n2+19) k seen1 byr1 wait1 wid1 off1 J1:=hz;obtain⟨v1,v2,v3,v4,v5,v6,v7,v8,v9,v10,v11⟩:=hz';dsimp only;obtain⟨n3,hn3⟩:∃n3,n3=n2+40+60*k:=⟨_,rfl⟩;rw[←hn3]at v10 ⊢;clear NB NX;have NB:=(⟨nmA (Ω:tb<n3),nmA (Ω:xid<n3),nmA v10,nmE (Ω:wid1≠tb),nmE (Ω:wid1≠xid),nmE (Ω:wid1≠id+7),nmE v11,nmA htb,nmA hxid,nmA (Ω:id+7<n3),nmA (Ω:xi<n3),nmE (Ω:xi≠wid1),nmA hxi,nmA (Ω:n2+19<n3),nmA (Ω:xi<n2),nmA (Ω:id+7<n2)⟩:_∧_∧_∧_∧_∧_∧_∧_∧_∧_∧_∧_∧_∧_∧_∧_);by_cases hkl:k<(L i).length
   ·have hk1:=decide_eq_true (Ω:((k:Nat):Int)<((L i).length:Nat))
    have hdr2:dropBlk H wid1=H:=zg (h.und.none Ω);obtain⟨to,hto⟩:∃to,to=(L i).getD k 0:=⟨_,rfl⟩;have hgi:(L i)[k]? = some to:=by rw[hto,xc6,xc7 hkl];rfl
    have htoN:to<N:=h.inn i hi to (List.mem_of_getElem? hgi);have hdr:(L i).drop k=to ::(L i).drop (k+1):=by
     simp_all
    rw[hdr]at v2;simp only[WQ]at v2;have hrk:=c3 k hkl;rw[←hto]at hrk;have hrt:=v3 to htoN;have hle:=v4 to htoN;by_cases hb1:seen1 to=0
    ·rw[if_pos hb1]at v2
     have hb2:=decide_eq_true (Ω:((seen1 to:Nat):Int)=0);(repeat' first|refine sD ?_ ?_<;>intro _|refine aAd ?_|simp -dsimp only[↓RP,RQ,seval,hk1,hrk,hrt,hb2,c2,↓RY,NB,QÀ,qR]);refine ZS (qK ?_);(repeat' first|refine sD ?_ ?_<;>intro _|refine aAd ?_|simp -dsimp only[↓RP,RQ,seval,hdr0,hdr2,hk1,hrk,hrt,hb2,c2,↓RY,NB,QÀ,qR]);refine qK ?_;(repeat' first|refine sD ?_ ?_<;>intro _|refine aAd ?_|simp -dsimp only[↓RP,RQ,seval,hdr0,hdr2,hk1,hrk,hrt,hb2,c2,↓RY,NB,QÀ,qR]);refine qK ?_;(repeat' first|refine sD ?_ ?_<;>intro _|refine aAd ?_|simp -dsimp only[↓RP,RQ,seval,hdr0,hdr2,hk1,hrk,hrt,hb2,c2,↓RY,NB,QÀ,qR]);refine g7 rfl (qik (id:=wid1) (off:=off1) (n:=wait1.length) (n':=off1+wait1.length) (m:=1) (k:=1) (e:=3) (row:=J1) (row2:=λi j=>[Ψ (Φ Γ (to:Nat))].getD (i+j) SV.top) (obl2:=1≤1∧1=1) qaj ty3 rfl Ω rfl rfl (by show rowsOf _ (SV.vec (n3+15) 1 1)=_;simp[rowsOf,blk]) (by exact⟨xa5 _,rfl⟩) (by exact one1 _) Ωp (xa5 _) Ω Ω (by rw[by3];omega) Ωc ?_ ?_)
     ·refine qK ?_
      (repeat' first|refine sD ?_ ?_<;>intro _|refine aAd ?_|simp -dsimp only[↓RP,RQ,seval,gH,hdr0,hdr2,hk1,hrk,hrt,hb2,c2,↓RY,NB,QÀ,qR]);have hRI:RJ N L i c n1 (n2+40) (id+8) rest.length R3 (n2+19) (k+1) (setN seen1 to 1) (λa b=>if a=to∧b=0 then Ψ (Φ Γ 1)else byr1 a b) (wait1++[to]) (n3+16) off1 (λi j=>if i<off1+wait1.length then J1 i j else [Ψ (Φ Γ (to:Nat))].getD (i -(off1+wait1.length)+j) SV.top):=by
       refine⟨hkl,v2,λx hx=>?_,λx hx=>?_,λx hx=>?_,λy hy=>?_,Ω,by rw[xc8,xd1];omega,Ω,Ω,Ω⟩
       ·by_cases e:x=to
        ·rw[if_pos ⟨e,rfl⟩];unfold setN;rw[if_pos e];rfl
        ·rw[if_neg (λe2=>e e2.1)];unfold setN;rw[if_neg e];exact v3 x hx
       ·unfold setN;split
        ·omega
        ·exact v4 x hx
       ·rcases List.mem_append.1 hx with h1|h1
        ·exact v5 x h1
        ·rw[List.mem_singleton.1 h1];exact htoN
       ·rw[xc8,xd1]at hy
        show(if off1+y<off1+wait1.length then J1 (off1+y) 0 else [Ψ (Φ Γ (to:Nat))].getD (off1+y -(off1+wait1.length)+0) SV.top)=_
        skip
        by_cases hc:y<wait1.length
        ·rw[if_pos Ω,v6 y hc,xc6,xc6,xc9 hc]
        ·obtain rfl:y=wait1.length:=by omega
         rw[if_neg Ω,xb8,xc6 (l:=wait1++[to]),xd0 (xa5 _),xb8];rfl
      refine⟨(k+1,setN seen1 to 1,_,wait1++[to],n3+16,off1,_),hRI,Ωc,weakSU Ωc Ωd ?_⟩;dsimp only;rw[xc8,xd1];exact SubHp.cons (SubHp.skip (show blk ((id+7,_) ::(n2+19,_) :: H) (n3+15)=none by simp only[blk];rw[if_neg Ω,if_neg Ω];exact h.und.none Ω) (SubHp.refl _))
     ·refine qK ?_
      (repeat' first|refine sD ?_ ?_<;>intro _|refine aAd ?_|simp -dsimp only[↓RP,RQ,seval,gH,hdr0,hdr2,hk1,hrk,hrt,hb2,c2,↓RY,NB,QÀ,qR]);have hRI:RJ N L i c n1 (n2+40) (id+8) rest.length R3 (n2+19) (k+1) (setN seen1 to 1) (λa b=>if a=to∧b=0 then Ψ (Φ Γ 1)else byr1 a b) (wait1++[to]) (n3+16) 0 (λi j=>if i<wait1.length then J1 (off1+i) j else [Ψ (Φ Γ (to:Nat))].getD (i - wait1.length+j) SV.top):=by
       refine⟨hkl,v2,λx hx=>?_,λx hx=>?_,λx hx=>?_,λy hy=>?_,Ω,by rw[xc8,xd1];omega,Ω,Ω,Ω⟩
       ·by_cases e:x=to
        ·rw[if_pos ⟨e,rfl⟩];unfold setN;rw[if_pos e];rfl
        ·rw[if_neg (λe2=>e e2.1)];unfold setN;rw[if_neg e];exact v3 x hx
       ·unfold setN;split
        ·omega
        ·exact v4 x hx
       ·rcases List.mem_append.1 hx with h1|h1
        ·exact v5 x h1
        ·rw[List.mem_singleton.1 h1];exact htoN
       ·rw[xc8,xd1]at hy
        show(if 0+y<wait1.length then J1 (off1+(0+y)) 0 else [Ψ (Φ Γ (to:Nat))].getD (0+y - wait1.length+0) SV.top)=_;rw[xb0];by_cases hc:y<wait1.length
        ·rw[if_pos Ω,v6 y hc,xc6,xc6,xc9 hc]
        ·obtain rfl:y=wait1.length:=by omega
         rw[if_neg Ω,xb8,xc6 (l:=wait1++[to]),xd0 (xa5 _),xb8];rfl
      refine⟨(k+1,setN seen1 to 1,_,wait1++[to],n3+16,0,_),hRI,Ωc,weakSU Ωc Ωd ?_⟩;dsimp only;rw[xc8,xd1,xb0];exact SubHp.cons (SubHp.skip (show blk ((id+7,_) ::(n2+19,_) :: H) (n3+15)=none by simp only[blk];rw[if_neg Ω,if_neg Ω];exact h.und.none Ω) (SubHp.refl _))
    ·rw[if_neg hb1]at v2
     have hb2:=decide_eq_false (Ω:¬((seen1 to:Nat):Int)=0);(repeat' first|refine sD ?_ ?_<;>intro _|refine aAd ?_|simp -dsimp only[↓RP,RQ,seval,hk1,hrk,hrt,hb2,c2,↓RY,NB,QÀ,qR]);have hRI:RJ N L i c n1 (n2+40) (id+8) rest.length R3 (n2+19) (k+1) seen1 byr1 wait1 wid1 off1 J1:=⟨hkl,v2,v3,v4,v5,v6,v7,Ω,v9,Ω,v11⟩;exact⟨(k+1,seen1,byr1,wait1,wid1,off1,J1),hRI,Ωc,weakSU Ωc Ωd (SubHp.refl _)⟩
   ·have hk1:=decide_eq_false (Ω:¬((k:Nat):Int)<((L i).length:Nat))
    rw[List.drop_eq_nil_of_le Ω]at v2;simp only[WQ]at v2;subst v2;(repeat' first|refine sD ?_ ?_<;>intro _|refine aAd ?_|simp -dsimp only[↓RP,RQ,seval,hk1,↓RY,NB,QÀ,qR]);have hq:QJ N L fu n1 (id+8) srow res0 f (c+1) seen1 byr1 wait1 wid1 off1 J1 (outL++[i]) (n2+19) or2:=⟨Ω,y2,v3,v4,v5,v6,v7,Ω,v9,Ω,hor,by rw[xc8,xd1];omega,Ω,Ω,v11⟩;exact⟨(f,c+1,seen1,byr1,wait1,wid1,off1,J1,outL++[i],n2+19,or2),hq,Ωc,weakSU Ωc Ωd (by dsimp only;rw[xc8,xd1];exact SubHp.refl _)⟩
theorem qrG{H:List (Nat×Blk)}{id tb tix m N i0:Nat}{u s:Nat→Int}{tr:Nat→Nat→SV}{Z1 Z2 R M:SV}(hU:Under H id)(hb:blk H tb=some (.cells 253 [.vec tix m 1,Z1,Z2,R,M]))(ht:blk H tix=some (.rows 3 1 m tr))(htu:∀i,i<m→tr i 0=Ψ (Φ Γ (u i)))(hm:m≤5)(hu:∀i,i<m→1≤u i∧u i≤12)(hs:∀i,i<m→0≤s i∧s i≤u i)
  (hi0:ixF u s m=(i0:Nat)) (sd:Nat→Nat→SV):EffVC Tryz.prog 162 [.ptr tb 0,.agg (stL s)] ((id+7,.rows 3 1 N sd) ::(id,.cells 140 (stL s)) :: H) (id+11) (λhp' nid' res=>hp'=((id+7,.rows 3 1 N sd) ::(id,.cells 140 (stL s)) :: H)∧nid'=id+11+200∧res=I (i0:Nat)):=by
 have htb:=hU _ _ hb;have hti:=hU _ _ ht;have hN:=hU.none (Ω:id≤id+11);rw[←hi0];refine qqp _ _ tb m u s tix tr Ω ?_ ?_ htu Z1 Z2 R M hm hu hs Ω ?_
 ·simp only[blk];rw[if_neg Ω,if_neg Ω];exact hN
 ·simp only[blk];rw[if_neg Ω,if_neg Ω];exact ht
 ·simp only[blk];rw[if_neg Ω,if_neg Ω];exact hb
theorem qrH{H:List (Nat×Blk)}{id tb m N i0:Nat}{o full:Bool}{row:Nat→Nat→SV}{u s:Nat→Int}{Z1 Z2 R M:SV}(hU:Under H id)(hb:blk H tb=some (.cells 253 [.arr o full m 1 row,Z1,Z2,R,M]))(htu:∀i,i<m→row i 0=Ψ (Φ Γ (u i)))(hm:m≤5)(hu:∀i,i<m→1≤u i∧u i≤12)(hs:∀i,i<m→0≤s i∧s i≤u i)
  (hi0:ixF u s m=(i0:Nat)) (sd:Nat→Nat→SV):EffVC Tryz.prog 162 [.ptr tb 0,.agg (stL s)] ((id+7,.rows 3 1 N sd) ::(id,.cells 140 (stL s)) :: H) (id+11) (λhp' nid' res=>hp'=((id+7,.rows 3 1 N sd) ::(id,.cells 140 (stL s)) :: H)∧nid'=id+11+200∧res=I (i0:Nat)):=by
 have htb:=hU _ _ hb;have hN:=hU.none (Ω:id≤id+11);rw[←hi0];refine qqq _ _ tb m u s o full row ?_ htu Z1 Z2 R M hm hu hs Ω ?_
 ·simp only[blk];rw[if_neg Ω,if_neg Ω];exact hN
 ·simp only[blk];rw[if_neg Ω,if_neg Ω];exact hb
end Go.Tn
end
section
namespace Go.Sx
open Go.Proofs
open Go.RowKit Go.Tn
noncomputable section
variable{ρ:Q}
def WR(s:SV):Bool:=match s with
 |Ψ (Φ Γ _)=>true
 |_=>false
theorem qgE{s:SV}(h:WR s=true):∃x:Int,s=Ψ (Φ Γ x):=by
 unfold WR at h;split at h
 ·exact⟨_,rfl⟩
 ·cases h
def qez(l:List SV)(r:R):R:=List.rec r (λa _ ih=>ql 520 (WR a) ih) l
theorem Jl{r:R}:∀{l:List SV},qez l r=.ok ρ→r=.ok ρ∧∀i,i<l.length→∃x:Int,l.getD i .top=Ψ (Φ Γ x)
 |[],h=>⟨h,λi hi=>by cases hi⟩
 |a :: l,h=>by
  have h:ql 520 (WR a) (qez l r)=.ok ρ:=h;obtain⟨h1,h⟩:=qe h;obtain⟨h,h2⟩:=Jl h;refine⟨h,λi hi=>?_⟩;cases i with
  |zero=>exact qgE h1
  |succ i=>exact h2 i (Nat.lt_of_succ_lt_succ hi)
def stK(us sl:List Nat)(m:Nat)(r:R):R:=Nat.rec (motive:=λ_=>Nat→R) (λ_=>r) (λ_ ih i=>ql 521 (Nat.ble 1 (us.getD i 0)) (ql 522 (Nat.ble (us.getD i 0) 12) (ql 523 (Nat.ble (sl.getD i 0) (us.getD i 0)) (qm (Nat.succ i) λi=>ih i)))) m 0
theorem qeA{us sl:List Nat}{r:R}:∀(m i:Nat),(Nat.rec (motive:=λ_=>Nat→R) (λ_=>r) (λ_ ih i=>ql 521 (Nat.ble 1 (us.getD i 0)) (ql 522 (Nat.ble (us.getD i 0) 12) (ql 523 (Nat.ble (sl.getD i 0) (us.getD i 0)) (qm (Nat.succ i) λi=>ih i)))) m i:R)=.ok ρ→r=.ok ρ∧∀j,i≤j→j<i+m→1≤us.getD j 0∧us.getD j 0≤12∧sl.getD j 0≤us.getD j 0
 |0,i,h=>⟨h,λj h1 h2=>by omega⟩
 |m+1,i,h=>by
  obtain⟨h1,h⟩:=qe h;obtain⟨h2,h⟩:=qe h;obtain⟨h3,h⟩:=qe h;rw[qj]at h;obtain⟨h,h4⟩:=qeA m (i+1) h;refine⟨h,λj hj1 hj2=>?_⟩;by_cases e:j=i
  ·simp_all
  ·grind
theorem qoY{us sl:List Nat}{m:Nat}{r:R}(h:stK us sl m r=.ok ρ):r=.ok ρ∧∀j,j<m→1≤us.getD j 0∧us.getD j 0≤12∧sl.getD j 0≤us.getD j 0:=by
 obtain⟨h1,h2⟩:=qeA m 0 h
 simp_all
def qaD(ss:List SV)(l:List Nat):List SV:=List.rec [] (λi _ ih=>(ss.drop (i*5)).take 5++ih) l
theorem qaE{ss:List SV}{N:Nat}(hs:ss.length=N*5):∀{l:List Nat},(∀i,i∈l→i<N)→(qaD ss l).length=l.length*5∧∀k j,k<l.length→j<5→(qaD ss l).getD (k*5+j) .top=ss.getD (l.getD k 0*5+j) .top
 |[],_=>⟨rfl,λk j hk=>by cases hk⟩
 |a :: l,h=>by
  have⟨h1,h2⟩:=qaE hs (l:=l) λi hi=>h i (List.mem_cons_of_mem _ hi);have ha:=h a xd5;have e:qaD ss (a :: l)=(ss.drop (a*5)).take 5++qaD ss l:=rfl;have l5:((ss.drop (a*5)).take 5).length=5:=by rw[xd9,List.length_drop,hs];omega
  rw[e];refine⟨by rw[xc8,l5,h1,xe4];omega,λk j hk hj=>?_⟩;rw[xc6,xc6];cases k with
  |zero=>
   grind
  |succ k=>
   grind
def qoZ(hp:Tr 6 XB)(A:SV)(f:Nat→List SV→R):R:=
 match A with
 |.vec tix m 1=>(match hp.find tix with
  |some (.rows 3 1 m2 ts)=>ql 533 (Nat.beq m2 m) (f m ts)
  |_=>.bad 542 0)
 |.arr _ _ m 1 row=>f m (List.ofFn λ(i:Fin m)=>row i.1 0)
 |_=>.bad 543 0
theorem qmC{hp:Tr 6 XB}{LM:Nat→Option Loop}{H:List (Nat×Blk)}(hH:HRel LM hp H){A:SV}{f:Nat→List SV→R}(h:qoZ hp A f=.ok ρ):∃m ts,f m ts=.ok ρ∧ts.length=m∧((∃tix tr,A=.vec tix m 1∧blk H tix=some (.rows 3 1 m tr)∧∀i,i<m→tr i 0=ts.getD i .top)∨∃o full row,A=.arr o full m 1 row∧∀i,i<m→row i 0=ts.getD i .top):=by
 unfold qoZ at h;split at h
 ·split at h
  ·rename_i m2 ts hf
   obtain⟨a,h⟩:=qe h;have a:=xa6 a;subst a;obtain⟨row,hb,l,g⟩:=hH.rows hf
   grind
  ·cases h
 ·grind
 ·cases h
def qjZ(args:List SV)(hp:Tr 6 XB)(nid:Nat)(k:SV→Tr 6 XB→Nat→R):R:=
 match args with
 |[.ptr tb 0,.agg st]=>(match hp.find tb with
  |some (.cells 253 [A,.vec sid n' 5,.vec xid n 1,_,_])=>(match hp.find xid,hp.find sid with
   |some (.rows 22 1 n1 xs),some (.rows 140 5 n2 ss)=>qoZ hp A λm ts=>
    ql 530 (Nat.beq n' n) (ql 531 (Nat.beq n1 n) (ql 532 (Nat.beq n2 n) (ql 534 (Nat.ble n 1000) (ql 535 (Nat.ble m 5) (ql 536 (Nat.beq st.length 5)
     (qaA ts λus=>qaA st λsl=>stK us sl m (qez ss (Jk hp tb xs λL=>qmA n L (qm (ixF (λi=>((us.getD i 0:Nat):Int)) (λi=>((sl.getD i 0:Nat):Int)) m).toNat λi0=>ql 537 (Nat.ble (Nat.succ i0) n)
      (match VD (λi=>L.getD i []) (n+1) (Go.Tn.setN (λ_=>0) i0 1) [i0] []with
       |none=>.bad 538 0
       |some l=>qmz l λl=>ltK n l (qm nid λnid=>qm l.length λc=>gI (qaD ss l) λo=>zf (some (.rows 140 5 c o)) 22 hp nid λhp=>qm (Nat.succ nid) λn2=>k (.vec nid c 5) hp n2)))))))))))
   |_,_=>.bad 539 0)
  |_=>.bad 540 0)
 |_=>.bad 541 0
theorem qka:yb Tryz.prog 262 qjZ:=by
 intro ρ LM O args hp k st K hH h hk;unfold qjZ at h;split at h
 ·rename_i tb sv
  split at h
  ·rename_i A sid n' xid n Rr M hft
   split at h
   ·rename_i n1 xs n2 ss hfx hfs
    obtain⟨m2,ts,h,tl,hthr⟩:=qmC hH h;obtain⟨a1,h⟩:=qe h;obtain⟨a2,h⟩:=qe h;obtain⟨a3,h⟩:=qe h;obtain⟨a5,h⟩:=qe h;obtain⟨a6,h⟩:=qe h;obtain⟨a7,h⟩:=qe h;obtain⟨us,h,u1,u2⟩:=Zw h;obtain⟨sl,h,s1,s2⟩:=Zw h;obtain⟨h,b1⟩:=qoY h;obtain⟨h,b5⟩:=Jl h;obtain⟨L,h,b2,b3⟩:=yT h;obtain⟨h,b4⟩:=WP h;rw[qj]at h;obtain⟨a8,h⟩:=qe h;have e1:=xa6 a1;have e2:=xa6 a2;have e3:=xa6 a3;have hN:=xa7 a5;have hm:=xa7 a6;have h5:=xa6 a7;have hi0:=xa7 a8;subst e1 e2 e3;split at h
    ·cases h
    ·rename_i l hF
     rw[WO]at h;obtain⟨h,c1⟩:=WN h;rw[qj,qj,qX]at h;obtain⟨hp1,p1,h⟩:=qC _ _ _ _ h;rw[qj]at h;obtain⟨rowx,hbx,lx,gx⟩:=hH.rows hfx;obtain⟨rows,hbs,ls,gs⟩:=hH.rows hfs;have hbt:=hH.cells hft;intro base okc ns r outs a w vs hI hlen hv;have keys:=hI.keys;have hmem:∀i,i<n2→L.getD i []∈L:=λi hi=>by
      rw[xc6,xc7 Ω];exact List.getElem_mem _
     have hC:Go.Tn.Cl n2 (λi=>L.getD i []) rowx st.hp st.nid tb xid A Rr M sid:=by
      refine⟨Ω,λi hi=>(b4 _ (hmem i hi)).1,λi hi=>(b4 _ (hmem i hi)).2,hbt,hbx,λi hi=>?_,λk x hx=>keys k x hx⟩;have gxi:=gx i 0 hi Ω;rw[Nat.mul_one,xb1]at gxi;rcases b3 i Ω with⟨c1,c2⟩|⟨xi,n,l,c1,c2,c3,c4,c5,c6⟩
      ·exact .inl ⟨c2,by rw[gxi,c1]⟩
      ·obtain⟨r,d1,d2,d3⟩:=hH.rows c4
       have el:(L.getD i []).length=n:=by omega
       refine .inr ⟨xi,r,by rw[gxi,c1,el],by rw[d1,el],λj hj=>?_⟩;have hj:j<(L.getD i []).length:=hj;rw[d3 j 0 Ω Ω,Nat.mul_one,xb1];exact c6 j Ω
     have hst:sv=stL (λi=>((sl.getD i 0:Nat):Int)):=by
      refine List.ext_getElem (by rw[h5];rfl) λj h1 h2=>?_;have:=s2 j h1;rw[xc6,xc7 h1]at this;have h3:j<5:=by omega
      have h4:=WB (s:=λi=>((sl.getD i 0:Nat):Int)) h3;rw[xc7 h2]at h4;rw[Option.some.inj h4];exact this
     have hbb:=ZZ (u:=λi=>((us.getD i 0:Nat):Int)) (s:=λi=>((sl.getD i 0:Nat):Int)) (m:=m2) (λi hi=>by have:=b1 i hi;omega) (xa5 m2);have hU:Under st.hp st.nid:=λk x hx=>keys k x hx;have hu1:∀i,i<m2→(1:Int)≤((us.getD i 0:Nat):Int)∧((us.getD i 0:Nat):Int)≤12:=λi hi=>by have:=b1 i hi;omega
     have hs1:∀i,i<m2→(0:Int)≤((sl.getD i 0:Nat):Int)∧((sl.getD i 0:Nat):Int)≤((us.getD i 0:Nat):Int):=λi hi=>by have:=b1 i hi;omega
     have E:=qrF n2 _ rowx st.hp st.nid tb xid sid A Rr M (λi=>((sl.getD i 0:Nat):Int)) rows (ixF (λi=>((us.getD i 0:Nat):Int)) (λi=>((sl.getD i 0:Nat):Int)) m2).toNat (n2+1) l hC Ω hbs
      (λi hi j hj=>by
       rw[gs i j hi hj];exact b5 _ (by rw[ls];have:i*5+5≤n2*5:=Ω;omega)) (by
      rcases hthr with⟨tix,tr,rfl,t1,t2⟩|⟨o,full,row,rfl,t2⟩
      ·exact qrG hU hbt t1 (λi hi=>(t2 i hi).trans (u2 i Ω)) hm hu1 hs1 (by rw[Int.toNat_of_nonneg hbb.1])
      ·exact qrH hU hbt (λi hi=>(t2 i hi).trans (u2 i Ω)) hm hu1 hs1 (by rw[Int.toNat_of_nonneg hbb.1])) Ω hF
     rw[←hst]at E;refine Ji (E O st.fr) (λst' sv hself hq=>?_) base okc ns r outs a w vs hI hlen hv;obtain⟨fr',hp',nid'⟩:=st';obtain⟨q0,q1,oid,rr,z1,z2,q3,q4,q5⟩:=hq;simp only[]at q0 q1 q4;subst q0 q4 q5;have hl5:=qaE (N:=n2) (by rw[ls]) (l:=l) c1;refine⟨oid,(st.nid,.rows 140 5 l.length rr) :: st.hp,.vec st.nid l.length 5,st.nid+1,rfl,z1,λid y hy=>?_,?_,xc4 _,hk _ hp1 _ _ (λid b hb=>?_) h⟩
     ·simp only[blk]at hy
      split at hy
      ·rename_i e
       cases hy;refine⟨.inr ⟨e,by simp[blk],xa5 _⟩,rfl,rfl,xa5 _,λi j hi hj=>?_⟩;have hli:l.getD i 0<n2:=c1 _ (by rw[xc6,xc7 hi];exact List.getElem_mem _);rw[q3 i hi j hj,gs _ j hli hj];obtain⟨x,hx⟩:=b5 (l.getD i 0*5+j) (by rw[ls];omega);rw[hx];simp[Wk]
      ·have hlt:=keys id y hy
       refine⟨.inl ⟨hlt,?_⟩,hself _ _ _ (xc4 _) _ _ hy⟩;simp only[blk];rw[if_neg Ω];exact hy
     ·unfold Wk
      refine⟨Ω,?_,rfl,rfl⟩;simp[ren]
     ·rw[p1 id]at hb
      simp only[blk];by_cases e:id=st.nid
      ·rw[if_pos e]at hb ⊢
       cases hb;refine⟨_,rfl,rfl,rfl,rfl,hl5.1,λi j hi hj=>?_⟩;have hli:l.getD i 0<n2:=c1 _ (by rw[xc6,xc7 hi];exact List.getElem_mem _);rw[hl5.2 i j hi hj,q3 i hi j hj,gs _ j hli hj]
      ·rw[if_neg e]at hb ⊢
       exact hH id b hb
   ·cases h
  ·cases h
 ·cases h
end
end Go.Sx
end
section
namespace Go.Sx
open Go.RowKit
variable{e t:TypeId}{k n':Nat}{row:Nat→Nat→SV}
section
variable{P:Program}
def gO(row:Nat→Nat→SV)(i0 j0 m:Nat):Nat→Nat→SV:=λx j=>if i0≤x∧x<i0+m then row (j0+(x - i0)) j else row x j
theorem qgF{base:World}{okc:Nat→Prop}{r:Nat→Option Nat}{N:Nat→Prop}{hp:List (Nat×Blk)}{w:World}(h:Sat base okc r N hp w){ty:TypeId}{i:TypeInfo}(ht:P.underlying t=some (.slice e))(hi:P.info? e=some i)(hk:i.size=k)(hpos:0<k)
  {id i0 j0 m:Nat}  {u v:Value} (hu:Rep r N (Gd base okc r N hp w) w (.vec id i0 k) u) (hv:Rep r N (Gd base okc r N hp w) w (.que id j0 m k) v) (hblk:blk hp id=some (.rows e k n' row)) (hi0:i0+m≤n') (hj0:j0+m≤n') (h9:oneRows m k λx j=>row (j0+x) j) :
  ∃z w',(Builtin.append_ #[t,t] ty #[u,v]).run P w=.ok z w'∧Step base okc r N hp w r N (setBlk hp id (.rows e k n' (gO row i0 j0 m))) w'∧Rep r N (Gd base okc r N (setBlk hp id (.rows e k n' (gO row i0 j0 m))) w') w' (.vec id (i0+m) k) z:=by
 have hN:N id:=by cases hu<;>assumption
 have hrep:=h.rep _ _ hblk hN;obtain⟨a2,c2,hv2⟩:∃a2 c2,v=.slice a2 m c2:=by cases hv<;>exact⟨_,_,rfl⟩
 by_cases hm0:m=0
 ·subst hm0
  have hst:Step base okc r N hp w r N (setBlk hp id (.rows e k n' (gO row i0 j0 0))) w:=h.same hblk λG' hG' _=>by
   cases hr:r id with
   |none=>
    rw[hr]at hrep;cases hrep with
    |none _ _ _=>exact .none _ _ _
   |some b=>
    rw[hr]at hrep;cases hrep with
    |rows _ _ _ _ _ cs hb' hl hes=>
     refine .rows _ _ _ _ b cs hb' hl λx j hx hj=>?_;have e:gO row i0 j0 0 x j=row x j:=by unfold gO;rw[if_neg Ω]
     rw[e];exact(hes x j hx hj).mono (λ_ _=>rfl) (λ_ h=>h) (λo c hc=>⟨hG' o c hc,rfl⟩) (Shapes.refl w)
  obtain⟨a1,c1,hu1,hle⟩:∃a1 c1,u=.slice a1 i0 c1∧i0≤c1:=by cases hu<;>exact⟨_,_,rfl,Ω⟩
  have hrun:=kZ (P:=P) (w:=w) t ty e i ht hi a1 a2 i0 c1 c2 hle;rw[←hu1,←hv2]at hrun;exact⟨_,_,hrun,hst,hst.rep hu⟩
 ·cases hu with
  |vecNil _ _ _ hrn=>
   rw[hrn]at hrep;cases hrep with
   |none _ _ _=>omega
  |vec _ _ _ b cap cs tt _ hrn hb hcs hcap hmx=>
   rw[hrn]at hrep;cases hrep with
   |rows _ _ _ _ _ cs' hb' hl hes=>
    rw[hb]at hb';simp only[Option.some.injEq,Obj.cells.injEq,and_true]at hb';obtain⟨rfl,rfl⟩:=hb';have hnc:n'≤cap:=by
     rw[hcs]at hl;exact Nat.le_of_mul_le_mul_right hl hpos
    cases hv with
    |queNil _ _ _ a hN'=>exact absurd rfl hm0
    |que _ _ _ _ b2 jp cs2 t2 _ hr2 hb2 _ hcap2 _=>
    rw[hrn]at hr2;cases hr2;obtain⟨f2,hf2⟩:∃f2:Nat→Nat→Value,f2=λx j=>cs.getD ((j0+x)*k+j) undef:=⟨_,rfl⟩;have hc2:∀x j,x<m→j<k→w.cell? ⟨b,j0*k+(x*k+j),none⟩=some (f2 x j):=λx j hx hj=>by
     have:=zN (Ω:j0+x<n') hj;rw[←xb2,←Nat.add_mul,hf2];exact zH hb _ Ω
    have hrp2:∀x j,x<m→j<k→Rep r N (Gd base okc r N hp w) w (row (j0+x) j) (f2 x j):=λx j hx hj=>by
     grind
    have hfit:i0*i.size+(qG f2 m k).length≤cs.size:=by rw[qu,hk,hcs,←Nat.add_mul];exact xa8 _ Ω
    have hrun:=run_append_room (P:=P) w t ty tt i ht hi b i0 cap cs hb ⟨b,j0*k,none⟩ m jp (qG f2 m k) (by rw[qu,hk]) (gW hc2 hpos) (wQ hrp2 h9 hpos) Ω hfit;have hsz:(cs.toList.take (i0*i.size)++qG f2 m k++cs.toList.drop (i0*i.size+(qG f2 m k).length)).toArray.size=cs.size:=by
     grind
    have hsh:=kT (w:=w) hb hsz;have hb3:=setRow_heap w b cs (cs.toList.take (i0*i.size)++qG f2 m k++cs.toList.drop (i0*i.size+(qG f2 m k).length)).toArray tt _ hb;have hst:Step base okc r N hp w r N (setBlk hp id (.rows tt k n' (gO row i0 j0 m))) (w.setRow b (cs.toList.take (i0*i.size)++qG f2 m k++cs.toList.drop (i0*i.size+(qG f2 m k).length)).toArray):=
     h.upd hblk hN hrn (.rows tt k n' (gO row i0 j0 m)) (gq h.below (h.own _ _ _ hblk hN hrn) _) hsh ΩW (λc hc=>zj w b _ hc) λG' hG'=>by
      refine .rows _ _ _ _ b _ hb3 (by rw[hsz];exact hl) λx j hx hj=>?_;have hcell:((cs.toList.take (i0*i.size)++qG f2 m k++cs.toList.drop (i0*i.size+(qG f2 m k).length)).toArray).getD (x*k+j) undef=if i0≤x∧x<i0+m then f2 (x - i0) j else cs.getD (x*k+j) undef:=by
       have hnl:i0*k≤cs.size:=by rw[hcs];exact xa8 _ Ω
       have hxs:x*k+j<cs.size:=by have:=zN hx hj;omega
       simp only[xf5,xe2,hk];have hmin:min (i0*k) cs.toList.length=i0*k:=by simp;omega
       by_cases hxn:x<i0
       ·have:=zN hxn hj
        rw[if_neg Ω,List.append_assoc,xc9 Ωj,List.getElem?_take_of_lt this];simp
       ·have hle:i0*k≤x*k:=xa8 _ Ω
        by_cases hxm:x<i0+m
        ·have hlt:=zN (Ω:x - i0<m) hj
         rw[Nat.sub_mul]at hlt;rw[if_pos Ω,xc9 Ωz,xd0 Ω7,xd9,hmin];have e:x*k+j - i0*k=(x - i0)*k+j:=by rw[Nat.sub_mul];omega
         rw[e,kU _ _ _ _ _ Ω hj];rfl
        ·have hle2:(i0+m)*k≤x*k:=xa8 _ Ω
         rw[Nat.add_mul]at hle2;rw[if_neg Ω,xd0 Ωz,xc8,xd9,qu,hmin,List.getElem?_drop];rw[show i0*k+m*k+(x*k+j -(i0*k+m*k))=x*k+j by omega];simp
      rw[hcell];unfold gO;by_cases hxn:i0≤x∧x<i0+m
      ·rw[if_pos hxn,if_pos hxn];exact(hrp2 _ j Ω hj).mono (λ_ _=>rfl) (λ_ h=>h) (λo c hc=>⟨hG' o c hc,zj w b _ λe=>hc.2.1 id _ hblk hN (by rw[e];exact hrn)⟩) hsh
      ·rw[if_neg hxn,if_neg hxn];exact(hes x j Ω hj).mono (λ_ _=>rfl) (λ_ h=>h) (λo c hc=>⟨hG' o c hc,zj w b _ λe=>hc.2.1 id _ hblk hN (by rw[e];exact hrn)⟩) hsh
    exact⟨_,_,hrun,hst,.vec _ _ _ b cap _ tt hN hrn hb3 (hsz.trans hcs) Ω hmx⟩
theorem qmD{O:Ctx}{x y:Operand}{id i0 j0 m:Nat}{st:St}{K:St→SV→Prop}{ag:Bool}{sz:Nat}{z0:Option (List Value)}
  (ht:qn P t=some ⟨ag,sz,z0,.slice e k⟩) (hpos:0<k)
  (hx:env (look st.fr) x=.vec id i0 k) (hy:env (look st.fr) y=.que id j0 m k) (hb:blk st.hp id=some (.rows e k n' row)) (hi0:i0+m≤n') (hj0:j0+m≤n') (h9:oneRows m k λx j=>row (j0+x) j)
  (hA:K ⟨st.fr,setBlk st.hp id (.rows e k n' (gO row i0 j0 m)),st.nid⟩ (.vec id (i0+m) k)):OpVC P O (.call ⟨.builtin .append,#[x,y],#[t,t]⟩) st K:=by
 intro base okc ns r outs a w o ho hi;obtain⟨hts,i,hi',hk⟩:=zF ht;have hu:=hi.env x;rw[hx]at hu;have hv:=hi.env y;rw[hy]at hv;generalize hex:a.eval x=u at hu;generalize hey:a.eval y=v at hv;obtain⟨v',w',hrun,hst,hrep⟩:=qgF (ty:=o.type) hi.sat hts hi' hk hpos hu hv hb hi0 hj0 h9;have e0:execOp a.eval o=(do pure (.value (←Builtin.append_ #[t,t] o.type #[u,v]))):=by
  obtain⟨dst,op,type,pos,aft,guard⟩:=o;simp only[]at ho;subst ho;simp[execOp,Go.resolve,Go.invoke,Go.builtin,hex,hey]
 have erun:(execOp a.eval o).run P w=.ok (.value v') w':=by
  simp_all
 refine⟨v',w',erun,_,r,_,hA,xa5 _,?_,hrep⟩;have hkey:∀(j:Nat)(z:Blk),blk (setBlk st.hp id (.rows e k n' (gO row i0 j0 m))) j=some z→j<st.nid:=λj z hz=>by
  rw[qq]at hz;split at hz
  ·rename_i e;subst e;exact hi.keys _ _ hb
  ·exact hi.keys j z hz
 have:=hi.step hst hkey (xa5 _) (d:=none) (λt ht=>by cases ht) (.val undef);exact this
theorem qcA{O:Ctx}{x lo hi:Operand}{id n l h:Nat}{kl kh:IntKind}{st:St}{K:St→SV→Prop}{ag:Bool}{sz:Nat}{z0:Option (List Value)}
  (ht:qn P t=some ⟨ag,sz,z0,.slice e k⟩) (hpos:0<k)
  (hx:env (look st.fr) x=.vec id n k) (hlo:env (look st.fr) lo=.val (.int kl (l:Nat))) (hhi:env (look st.fr) hi=.val (.int kh (h:Nat))) (hb:blk st.hp id=some (.rows e k n' row)) (hlh:l≤h) (hh:h≤n')
  (hA:K st (.que id l (h - l) k)):OpVC P O (.slice t x (some lo) (some hi) none) st K:=by
 intro base okc ns r outs a w o ho hI;obtain⟨hts,i,hi',hk⟩:=zF ht;have hu:=hI.env x;rw[hx]at hu;have hv:=hI.env lo;rw[hlo]at hv;have hv2:=hI.env hi;rw[hhi]at hv2;generalize hex:a.eval x=u at hu;generalize hey:a.eval lo=v at hv;generalize hez:a.eval hi=v2 at hv2;cases hv;cases hv2;have e0:execOp a.eval o=(do pure (.value (←Instr.sliceAt t u (some (.int kl (l:Nat))) (some (.int kh (h:Nat))) none))):=by
  obtain⟨dst,op,type,pos,aft,guard⟩:=o;simp only[]at ho;subst ho;simp[execOp,hex,hey,hez]
 have hN:id<st.nid:=by cases hu<;>assumption
 have hrep:=hI.sat.rep _ _ hb hN;have fin:∀v',(Instr.sliceAt t u (some (.int kl (l:Nat))) (some (.int kh (h:Nat))) none).run P w=.ok v' w→Rep r (· < st.nid) (Gd base okc r (· < st.nid) st.hp w) w (.que id l (h - l) k) v'→_:=λv' hrun hr=>
  (⟨v',w,by rw[e0];simp only[Sem.run_bind,hrun,Result.andThen_ok,Sem.run_pure],st,r,_,hA,xa5 _,hI,hr⟩:∃v w',(execOp a.eval o).run P w=.ok (.value v) w'∧∃st' r' res,K st' res∧st.nid≤st'.nid∧InvR O base okc ns st'.nid r' outs st' a w'∧Rep r' (· < st'.nid) (Gd base okc r' (· < st'.nid) st'.hp w') w' res v)
 cases hu with
 |vecNil _ _ _ hrn=>
  rw[hrn]at hrep;cases hrep with
  |none _ _ _=>
   obtain rfl:h=0:=by omega
   obtain rfl:l=0:=by omega
   refine fin _ (zr hts hi' (zd true 0 0 0 0 0 (.inr ⟨kl,rfl⟩) (.inr ⟨kh,rfl⟩) (.inl ⟨rfl,rfl⟩) (xa5 _) (xa5 _) (xa5 _))) ?_;exact .queNil _ _ _ _ hN
 |vec _ _ _ b cap cs tt _ hrn hbb hcs hcap hmx=>
  rw[hrn]at hrep;cases hrep with
  |rows _ _ _ _ _ cs' hb' hl hes=>
   rw[hbb]at hb';simp only[Option.some.injEq,Obj.cells.injEq,and_true]at hb';obtain⟨rfl,rfl⟩:=hb';have hnc:n'≤cap:=by
    rw[hcs]at hl;exact Nat.le_of_mul_le_mul_right hl hpos
   refine fin _ (zr hts hi' (zd true n cap l h cap (.inr ⟨kl,rfl⟩) (.inr ⟨kh,rfl⟩) (.inl ⟨rfl,rfl⟩) hlh Ω (xa5 _))) ?_;by_cases e:cap=l
   ·rw[if_pos e]
    rw[show h - l=0 by omega,show cap - l=0 by omega];exact .queNil _ _ _ _ hN
   ·rw[if_neg e]
    simp only[xg1,qU,xb0];rw[hk];exact .que _ _ _ _ b (cap - l) cs tt hN hrn hbb (by rw[hcs];congr 1;omega) Ω Ω
end
end Go.Sx
end
