import PyProof.Rows.All
import PyProof.Cells
import PyProof.DictStraight
import PyProof.RaisesMany
import PyProof.Seq
import PyProof.ForAppend
import PyProof.Ns1
import PyProof.Calls
import PyProof.CallRoads
import PyProof.StrBlock
import PyProof.Rules3
import PyProof.Rows.Globals
import PyProof.Rows.IntRules
import PyProof.Rows.RuleU_int
import PyProof.RulesTry
import PyProof.Walks
import PyProof.WalksMore
import PyProof.DictWalks
import PyProof.CompFree
import PyProof.RangeFor
import PyProof.CompUse
import PyProof.Rows.Exc
import PyProof.Rows.TupIn
import Wide.All
import OpenK.KLine
import KE.KDictOf
import KE.KDictList
import KE.KEqDict
import KE.KTryMore
import PyProof.ExcBaseAll.ValueError
import KE.KRevIter
import PyProof.SliceList
import PyProof.ListCopy
import PyProof.AutoSeq1
import PyProof.Rows.EqNone
import PyProof.SliceMore
import PyProof.ZipIter
import PyProof.ForAny
import PyProof.TupleIter
import PyProof.MeetsDictList
import PyProof.Rows.SeqMore
import PyProof.CallStr
import PyProof.Conv_int_bool
import PyProof.IsiNone
import PyProof.ListIndex
import PyProof.Rows.StrRev
import PyProof.ExcClass2
import PyProof.WalkInts
import PyProof.EqAt
import PySem.Challenge.RW_uf040024_09
section
set_option genInjectivity false
set_option genSizeOf false
set_option genSizeOfSpec false
namespace Mine
theorem aR(h:True:=by rfl):True:=h
theorem aD(h:True:=by decide):True:=h
inductive kK | v (i:Nat) | w (i:Nat) | l (k:Nat) | a (x y:kK) | s (x y:kK) | u (k:Nat) (x:kK) | mn (x y:kK) | mx (x y:kK) | g (x:kK) | c (x:kK) | t (x:kK)
abbrev LP:=Int×List Int
noncomputable def lQ(d:α):List α→Nat→α
 | [],_=>d
 | x::_,0=>x
 | _::l,i+1=>lQ d l i
noncomputable def fX(A:List Nat)(B:List Int):kK→Nat×Int
 | .v i=>(lQ 0 A i,(lQ 0 A i:Nat))
 | .w i=>(0,lQ 0 B i)
 | .l k=>(k,(k:Nat))
 | .a x y=>((fX A B x).1+(fX A B y).1,(fX A B x).2+(fX A B y).2)
 | .s x y=>((fX A B x).1-(fX A B y).1,(fX A B x).2-(fX A B y).2)
 | .u k x=>(k*(fX A B x).1,(k:Int)*(fX A B x).2)
 | .mn x y=>(min (fX A B x).1 (fX A B y).1,min (fX A B x).2 (fX A B y).2)
 | .mx x y=>(max (fX A B x).1 (fX A B y).1,max (fX A B x).2 (fX A B y).2)
 | .g x=>(0,-(fX A B x).2)
 | .c x=>(0,((fX A B x).1:Nat))
 | .t x=>((fX A B x).2.toNat,0)
noncomputable def yt:List Int→List Int→List Int
 | a::p,b::q=>(a+b)::yt p q
 | [],q=>q
 | p,[]=>p
noncomputable def Wa(k:Int):List Int→List Int
 | []=>[]
 | a::p=>(k*a)::Wa k p
noncomputable def mM:List Int→List Int→Int
 | a::p,b::q=>a*b+mM p q
 | _,_=>0
noncomputable def fZ(k:Int)(x:LP)(m:Int)(y:LP)(n:Int):LP:=(k*x.1+m*y.1+n,yt (Wa k x.2) (Wa m y.2))
noncomputable def d9(e:List Int)(p:LP):Int:=p.1+mM p.2 e
noncomputable def lz:LP:=(0,[])
noncomputable def iG(p q:LP):LP:=fZ 1 p (-1) q 0
theorem wi(a b c d:Int):a+b+(c+d)=a+c+(b+d):=by rw[Int.add_assoc,Int.add_assoc,Int.add_left_comm b]
theorem wb(p q e):mM (yt p q) e=mM p e+mM q e:=by
 induction p generalizing q e with
 | nil=>exact(Int.zero_add _).symm
 | cons a p ih=>cases q with
  | nil=>exact(Int.add_zero _).symm
  | cons b q=>cases e with
   | nil=>rfl
   | cons x e=>exact(congr (congrArg _ (Int.add_mul a b x)) (ih q e)).trans (wi _ _ _ _)
theorem se(k p e):mM (Wa k p) e=k*mM p e:=by
 induction p generalizing e with
 | nil=>exact(Int.mul_zero k).symm
 | cons a p ih=>cases e with
  | nil=>exact(Int.mul_zero k).symm
  | cons x e=>exact(congr (congrArg _ (Int.mul_assoc k a x)) (ih e)).trans (Int.mul_add _ _ _).symm
theorem gV(e k x m y n):d9 e (fZ k x m y n)=k*d9 e x+m*d9 e y+n:=by
 show k*x.1+m*y.1+n+mM (yt _ _) e=k*(x.1+_)+m*(y.1+_)+n
 rw[wb,se,se,Int.mul_add,Int.mul_add,Int.add_right_comm,wi]
theorem eB(e p q):d9 e (iG p q)=d9 e p-d9 e q:=by rw[iG,gV,Int.one_mul,Int.neg_one_mul,Int.add_zero];rfl
theorem jk(e):d9 e lz=0:=by cases e <;> rfl
theorem nW(e k p):d9 e (fZ k p 0 lz 0)=k*d9 e p:=by rw[gV,Int.zero_mul,Int.add_zero,Int.add_zero]
theorem nX(e p q):d9 e (fZ 1 p (-1) q (-1))=d9 e p-d9 e q-1:=by rw[gV,Int.one_mul,Int.neg_one_mul];rfl
noncomputable def nq:Nat→List Int
 | 0=>[1]
 | i+1=>0::nq i
theorem jV(i e):mM (nq i) e=lQ 0 e i:=by
 induction i generalizing e with
 | zero=>cases e with
  | nil=>rfl
  | cons x e=>exact(Int.add_zero _).trans (Int.one_mul x)
 | succ i ih=>cases e with
  | nil=>rfl
  | cons x e=>exact(congr (congrArg _ (Int.zero_mul x)) (ih e)).trans (Int.zero_add _)
abbrev LC:=List (List LP×LP)
noncomputable def lO(x y:LC)(k:LP→LP→LC):LC:=x.flatMap fun a=>y.flatMap fun b=>(k a.2 b.2).map fun d=>(d.1++a.1++b.1,d.2)
noncomputable def jo(m:Nat):Bool→kK→LC
 | _,.v i=>[([],if i<m then(0,nq i) else lz)]
 | false,.w i=>[([],(0,nq (m+i)))]
 | true,.w _=>[([],lz)]
 | _,.l k=>[([],(k,[]))]
 | b,.a x y=>lO (jo m b x) (jo m b y) fun p q=>[([],fZ 1 p 1 q 0)]
 | b,.s x y=>lO (jo m b x) (jo m b y) fun p q=>if b then[([iG p q],iG p q),([iG q p],lz)] else[([],iG p q)]
 | b,.u k x=>(jo m b x).map fun p=>(p.1,fZ k p.2 0 lz 0)
 | b,.mn x y=>lO (jo m b x) (jo m b y) fun p q=>[([iG q p],p),([iG p q],q)]
 | b,.mx x y=>lO (jo m b x) (jo m b y) fun p q=>[([iG q p],q),([iG p q],p)]
 | false,.g x=>(jo m false x).map fun p=>(p.1,fZ (-1) p.2 0 lz 0)
 | true,.g _=>[([],lz)]
 | false,.c x=>jo m true x
 | true,.c _=>[([],lz)]
 | true,.t x=>(jo m false x).flatMap fun p=>[(p.2::p.1,p.2),(fZ (-1) p.2 0 lz 0::p.1,lz)]
 | false,.t _=>[([],lz)]
noncomputable def kQ(e:List Int)(R:List LP):Prop:=∀r,r∈R→0≤d9 e r
theorem kq{e r R}(h:0≤d9 e r)(a:kQ e R):kQ e (r::R):=fun r' hr=>(List.mem_cons.mp hr).elim (fun g=>g▸h) (a r')
noncomputable def pK(e:List Int)(C:LC)(x:Int):Prop:=∃d,d∈C∧kQ e d.1∧d9 e d.2=x
theorem fu{e p x}(h:d9 e p=x):pK e [([],p)] x:=⟨_,List.mem_singleton.mpr rfl,nofun,h⟩
theorem iI{e X Y x y z k}(hx:pK e X x)(hy:pK e Y y)(h:∀p q,d9 e p=x→d9 e q=y→pK e (k p q) z):pK e (lO X Y k) z:=by
 obtain⟨a,ha,ga,va⟩:=hx;obtain⟨b,hb,gb,vb⟩:=hy
 obtain⟨d,hd,gd,vd⟩:=h _ _ va vb
 refine⟨(d.1++a.1++b.1,d.2),?_,?_,vd⟩
 ·exact List.mem_flatMap.mpr ⟨a,ha,List.mem_flatMap.mpr ⟨b,hb,List.mem_map.mpr ⟨d,hd,rfl⟩⟩⟩
 ·intro r hr
  rcases List.mem_append.mp hr with hr | hr
  ·rcases List.mem_append.mp hr with hr | hr
   ·exact gd r hr
   ·exact ga r hr
  ·exact gb r hr
theorem r9{e X x z}{k:LP→LP}(hx:pK e X x)(h:∀p,d9 e p=x→d9 e (k p)=z):pK e (X.map fun p=>(p.1,k p.2)) z:=by
 obtain⟨a,ha,ga,va⟩:=hx
 exact⟨_,List.mem_map.mpr ⟨a,ha,rfl⟩,ga,h _ va⟩
theorem nY{e p q P Q x}(h:(0≤d9 e P∧d9 e p=x)∨(0≤d9 e Q∧d9 e q=x)):pK e [([P],p),([Q],q)] x:=by
 rcases h with ⟨h,g⟩ | ⟨h,g⟩
 ·exact⟨_,List.mem_cons_self,fun r hr=>List.mem_singleton.mp hr▸h,g⟩
 ·exact⟨_,List.mem_cons_of_mem _ List.mem_cons_self,fun r hr=>List.mem_singleton.mp hr▸h,g⟩
theorem lP(A:List Nat)(B:List Int)(i):(i<A.length→lQ 0 (A.map Int.ofNat++B) i=((lQ 0 A i:Nat):Int))∧lQ 0 (A.map Int.ofNat++B) (A.length+i)=lQ 0 B i:=by
 constructor
 ·induction A generalizing i with
  | nil=>intro h;cases h
  | cons a A ih=>cases i with
   | zero=>exact fun _=>rfl
   | succ i=>exact fun h=>ih i (Nat.lt_of_succ_lt_succ h)
 ·induction A with
  | nil=>rw[List.length_nil,Nat.zero_add];rfl
  | cons a A ih=>rw[List.length_cons,Nat.succ_add];exact ih
theorem tI(A:List Nat)(i)(h:¬i<A.length):lQ 0 A i=0:=by
 induction A generalizing i with
 | nil=>rfl
 | cons a A ih=>cases i with
  | zero=>exact absurd (Nat.succ_pos _) h
  | succ i=>exact ih i (fun g=>h (Nat.succ_lt_succ g))
noncomputable def lx(p:Nat×Int):Bool→Int | true=>p.1 | false=>p.2
theorem ZP(x y:Int):(0≤y-x∧x=min x y)∨(0≤x-y∧y=min x y):=(Int.le_total x y).elim (fun h=>.inl ⟨Int.sub_nonneg_of_le h,(Int.min_eq_left h).symm⟩) (fun h=>.inr ⟨Int.sub_nonneg_of_le h,(Int.min_eq_right h).symm⟩)
theorem ZO(x y:Int):(0≤y-x∧y=max x y)∨(0≤x-y∧x=max x y):=(Int.le_total x y).elim (fun h=>.inl ⟨Int.sub_nonneg_of_le h,(Int.max_eq_right h).symm⟩) (fun h=>.inr ⟨Int.sub_nonneg_of_le h,(Int.max_eq_left h).symm⟩)
theorem ZN(x y:Nat):(0≤(y:Int)-x∧(x:Int)=(min x y:Nat))∨(0≤(x:Int)-y∧(y:Int)=(min x y:Nat)):=(Nat.le_total x y).elim (fun h=>.inl ⟨Int.sub_nonneg_of_le (Int.ofNat_le.mpr h),congrArg _ (Nat.min_eq_left h).symm⟩) (fun h=>.inr ⟨Int.sub_nonneg_of_le (Int.ofNat_le.mpr h),congrArg _ (Nat.min_eq_right h).symm⟩)
theorem ZL(x y:Nat):(0≤(y:Int)-x∧(y:Int)=(max x y:Nat))∨(0≤(x:Int)-y∧(x:Int)=(max x y:Nat)):=(Nat.le_total x y).elim (fun h=>.inl ⟨Int.sub_nonneg_of_le (Int.ofNat_le.mpr h),congrArg _ (Nat.max_eq_right h).symm⟩) (fun h=>.inr ⟨Int.sub_nonneg_of_le (Int.ofNat_le.mpr h),congrArg _ (Nat.max_eq_left h).symm⟩)
theorem ZM(x y:Nat):(0≤(x:Int)-y∧(x:Int)-y=(x-y:Nat))∨(0≤(y:Int)-x∧(0:Int)=(x-y:Nat)):=(Nat.le_total y x).elim (fun h=>.inl ⟨Int.sub_nonneg_of_le (Int.ofNat_le.mpr h),(Int.ofNat_sub h).symm⟩) (fun h=>.inr ⟨Int.sub_nonneg_of_le (Int.ofNat_le.mpr h),congrArg _ (Nat.sub_eq_zero_of_le h).symm⟩)
theorem r7{e X Y x y z}(hx:pK e X x)(hy:pK e Y y)(h:(0≤y-x∧x=z)∨(0≤x-y∧y=z)):pK e (lO X Y fun p q=>[([iG q p],p),([iG p q],q)]) z:=
 iI hx hy fun p q hp hq=>nY (by rw[eB,eB,hp,hq];exact h)
theorem r8{e X Y x y z}(hx:pK e X x)(hy:pK e Y y)(h:(0≤y-x∧y=z)∨(0≤x-y∧x=z)):pK e (lO X Y fun p q=>[([iG q p],q),([iG p q],p)]) z:=
 iI hx hy fun p q hp hq=>nY (by rw[eB,eB,hp,hq];exact h)
theorem r6(A:List Nat)(B:List Int)(t:kK):∀b,pK (A.map Int.ofNat++B) (jo A.length b t) (lx (fX A B t) b):=by
 induction t with
 | v i=>
  have h:pK (A.map Int.ofNat++B) [([],if i<A.length then(0,nq i) else lz)] ((lQ 0 A i:Nat):Int):=by
   refine fu ?_
   by_cases h:i<A.length
   ·rw[if_pos h];exact(Int.zero_add _).trans ((jV _ _).trans ((lP A B i).1 h))
   ·rw[if_neg h,tI A i h];exact jk _
  intro b;cases b
  ·exact h
  ·exact h
 | w i=>
  intro b;cases b
  ·exact fu ((Int.zero_add _).trans ((jV _ _).trans (lP A B i).2))
  ·exact fu (jk _)
 | l k=>
  have h:pK (A.map Int.ofNat++B) [([],(((k:Nat):Int),[]))] ((k:Nat):Int):=fu (Int.add_zero _)
  intro b;cases b
  ·exact h
  ·exact h
 | a x y ih jh=>
  intro b;refine iI (ih b) (jh b) fun p q hp hq=>fu ?_
  rw[gV,hp,hq,Int.one_mul,Int.one_mul,Int.add_zero];cases b
  ·rfl
  ·rfl
 | s x y ih jh=>
  intro b;cases b
  ·exact iI (ih false) (jh false) fun p q hp hq=>fu (by rw[eB,hp,hq];rfl)
  ·exact iI (ih true) (jh true) fun p q hp hq=>nY (by rw[eB,eB,hp,hq,jk];exact ZM _ _)
 | u k x ih=>
  intro b;refine r9 (k:=fun p=>fZ k p 0 lz 0) (ih b) fun p hp=>?_;rw[nW,hp];cases b
  ·rfl
  ·exact(Int.natCast_mul _ _).symm
 | mn x y ih jh=>
  intro b;cases b
  ·exact r7 (ih false) (jh false) (ZP _ _)
  ·exact r7 (ih true) (jh true) (ZN _ _)
 | mx x y ih jh=>
  intro b;cases b
  ·exact r8 (ih false) (jh false) (ZO _ _)
  ·exact r8 (ih true) (jh true) (ZL _ _)
 | g x ih=>
  intro b;cases b
  ·exact r9 (k:=fun p=>fZ (-1) p 0 lz 0) (ih false) fun p hp=>by rw[nW,hp];exact Int.neg_one_mul _
  ·exact fu (jk _)
 | c x ih=>
  intro b;cases b
  ·exact ih true
  ·exact fu (jk _)
 | t x ih=>
  intro b;cases b
  ·exact fu (jk _)
  ·obtain⟨d,hd,gd,vd⟩:=ih false
   have vd:d9 _ d.2=(fX A B x).2:=vd
   rcases Int.le_total 0 (fX A B x).2 with h | h
   ·exact⟨_,List.mem_flatMap.mpr ⟨d,hd,List.mem_cons_self⟩,kq (vd▸h) gd,vd.trans (Int.toNat_of_nonneg h).symm⟩
   ·exact⟨_,List.mem_flatMap.mpr ⟨d,hd,List.mem_cons_of_mem _ List.mem_cons_self⟩,kq (by rw[nW,vd,Int.neg_one_mul];exact Int.neg_nonneg_of_nonpos h) gd,(jk _).trans (congrArg _ (Int.toNat_of_nonpos h).symm)⟩
inductive LF | le (b:Bool) (x y:kK) | eq (b:Bool) (x y:kK) | no (f:LF) | an (f g:LF) | or (f g:LF) | ii (f g:LF) | im (f g:LF) | fa
noncomputable def gW(A:List Nat)(B:List Int):LF→Prop
 | .le true x y=>(fX A B x).1≤(fX A B y).1
 | .le false x y=>(fX A B x).2≤(fX A B y).2
 | .eq true x y=>(fX A B x).1=(fX A B y).1
 | .eq false x y=>(fX A B x).2=(fX A B y).2
 | .no f=>¬gW A B f
 | .an f g=>gW A B f∧gW A B g
 | .or f g=>gW A B f∨gW A B g
 | .ii f g=>gW A B f↔gW A B g
 | .im f g=>gW A B f→gW A B g
 | .fa=>False
noncomputable def wa(m:Nat)(b:Bool)(x y:kK)(k:LP→LP→List LP→Bool)(R:List LP):Bool:=(jo m b x).all fun p=>(jo m b y).all fun q=>k p.2 q.2 (p.1++q.1++R)
noncomputable def fE(m:Nat):Bool→LF→(List LP→Bool)→List LP→Bool
 | true,.le b x y,k,R=>wa m b x y (fun p q R=>k (iG q p::R)) R
 | false,.le b x y,k,R=>wa m b x y (fun p q R=>k (fZ 1 p (-1) q (-1)::R)) R
 | true,.eq b x y,k,R=>wa m b x y (fun p q R=>k (iG q p::iG p q::R)) R
 | false,.eq b x y,k,R=>wa m b x y (fun p q R=>k (fZ 1 p (-1) q (-1)::R) && k (fZ 1 q (-1) p (-1)::R)) R
 | s,.no f,k,R=>fE m (!s) f k R
 | true,.an f g,k,R=>fE m true f (fE m true g k) R
 | false,.an f g,k,R=>fE m false f k R && fE m false g k R
 | false,.or f g,k,R=>fE m false f (fE m false g k) R
 | true,.or f g,k,R=>fE m true f k R && fE m true g k R
 | true,.ii f g,k,R=>fE m true f (fE m true g k) R && fE m false f (fE m false g k) R
 | false,.ii f g,k,R=>fE m true f (fE m false g k) R && fE m false f (fE m true g k) R
 | true,.im f g,k,R=>fE m false f k R && fE m true g k R
 | false,.im f g,k,R=>fE m true f (fE m false g k) R
 | true,.fa,_,_=>true
 | false,.fa,k,R=>k R
noncomputable def ZD:Int→Bool | .ofNat _=>false | .negSucc _=>true
noncomputable def HA:List Int→Int | []=>0 | a::_=>a
noncomputable def Uc:LP→LP | (c,_::p)=>(c,p) | (c,[])=>(c,[])
noncomputable def pJ:List Int→Bool | []=>true | .ofNat 0::p=>pJ p | _=>false
noncomputable def Gs(R:List LP):Bool:=R.any fun r=>ZD r.1 && pJ r.2
noncomputable def BL(R:List LP):List LP:=R.flatMap fun r=>match HA r.2 with
 | .ofNat 0=>if pJ r.2 then[] else[Uc r]
 | .ofNat (n+1)=>R.flatMap fun q=>match HA q.2 with
  | .negSucc k=>[fZ (.ofNat (k+1)) (Uc r) (.ofNat (n+1)) (Uc q) 0]
  | _=>[]
 | .negSucc _=>[]
noncomputable def ZE:Nat→List LP→Bool
 | 0,R=>Gs R
 | n+1,R=>Gs R || ZE n (BL R)
theorem tH{p}(h:pJ p=true)(e):mM p e=0:=by
 induction p generalizing e with
 | nil=>rfl
 | cons a p ih=>cases a with
  | ofNat n=>cases n with
   | zero=>cases e with
    | nil=>rfl
    | cons x e=>exact(congr (congrArg _ (Int.zero_mul x)) (ih h e)).trans (Int.zero_add _)
   | succ n=>cases h
  | negSucc n=>cases h
theorem si{R e}(h:Gs R=true)(a:kQ e R):False:=by
 obtain⟨r,hr,g⟩:=List.any_eq_true.mp h
 have g:=Bool.and_eq_true_iff.mp g
 have v:=a r hr
 rw[d9,tH g.2] at v
 cases hc:r.1 with
 | ofNat n=>rw[hc] at g;cases g.1
 | negSucc n=>rw[hc,Int.add_zero] at v;cases v
theorem nV(r:LP)(x e):d9 (x::e) r=HA r.2*x+d9 e (Uc r):=by
 obtain⟨c,p⟩:=r
 cases p with
 | nil=>rw[show HA ((c,[]):LP).2=0 from rfl,Int.zero_mul,Int.zero_add];cases e <;> rfl
 | cons a p=>exact Int.add_left_comm _ _ _
theorem Uo{n k:Nat}{x a b:Int}(h1:0≤((n+1:Nat):Int)*x+a)(h2:0≤Int.negSucc k*x+b):0≤((k+1:Nat):Int)*a+((n+1:Nat):Int)*b+0:=by
 have h3:=Int.add_nonneg (Int.mul_nonneg (Int.natCast_nonneg (k+1)) h1) (Int.mul_nonneg (Int.natCast_nonneg (n+1)) h2)
 rw[show Int.negSucc k=-((k+1:Nat):Int) from rfl,Int.mul_add,Int.mul_add,wi,Int.neg_mul,Int.mul_neg,Int.mul_left_comm,Int.add_right_neg,Int.zero_add] at h3
 rw[Int.add_zero];exact h3
theorem pO{R x e}(a:kQ (x::e) R):kQ e (BL R):=by
 intro r' hr'
 obtain⟨r,hr,h⟩:=List.mem_flatMap.mp hr'
 have vr:=a r hr
 rw[nV] at vr
 revert h vr
 generalize HA r.2=s
 intro h vr
 cases s with
 | ofNat n=>cases n with
  | zero=>
   have h:r'∈(if pJ r.2 then[] else[Uc r]):=h
   split at h
   ·cases h
   ·rw[List.mem_singleton.mp h];rwa [show Int.ofNat 0=0 from rfl,Int.zero_mul,Int.zero_add] at vr
  | succ n=>
   obtain⟨q,hq,h⟩:=List.mem_flatMap.mp h
   have vq:=a q hq
   rw[nV] at vq
   revert h vq
   generalize HA q.2=s
   intro h vq
   cases s with
   | ofNat n=>cases h
   | negSucc k=>rw[List.mem_singleton.mp h,gV];exact Uo vr vq
 | negSucc n=>cases h
theorem Gp:∀n R e,ZE n R=true→kQ e R→False:=by
 intro n
 induction n with
 | zero=>exact fun R e h a=>si h a
 | succ n ih=>
  intro R e h a
  rcases Bool.or_eq_true_iff.mp h with h | h
  ·exact si h a
  ·cases e with
   | nil=>exact ih _ [] h (pO (x:=0) (fun r hr=>by have v:=a r hr;rw[nV,Int.mul_zero,Int.zero_add];obtain⟨c,p⟩:=r;cases p with
    | nil=>exact v
    | cons a p=>cases p <;> exact v))
   | cons x e=>exact ih _ e h (pO a)
noncomputable def lsd(A:List Nat)(B:List Int)(s:Bool)(f:LF):Prop:=match s with | true=>gW A B f | false=>¬gW A B f
theorem rZ{A B b x y k R}(h:wa A.length b x y k R=true)(a:kQ (A.map Int.ofNat++B) R):∃p q R',k p q R'=true∧kQ (A.map Int.ofNat++B) R'∧d9 (A.map Int.ofNat++B) p=lx (fX A B x) b∧d9 (A.map Int.ofNat++B) q=lx (fX A B y) b:=by
 obtain⟨p,hp,gp,vp⟩:=r6 A B x b
 obtain⟨q,hq,gq,vq⟩:=r6 A B y b
 refine⟨_,_,_,List.all_eq_true.mp (List.all_eq_true.mp h p hp) q hq,fun r hr=>?_,vp,vq⟩
 rcases List.mem_append.mp hr with hr | hr
 ·rcases List.mem_append.mp hr with hr | hr
  ·exact gp r hr
  ·exact gq r hr
 ·exact a r hr
theorem Gu{x y:Int}(h:¬x≤y):0≤x-y-1:=Int.sub_nonneg_of_le (Int.le_sub_left_of_add_le (Int.add_one_le_of_lt (Int.not_le.mp h)))
theorem ym{A B b x y}(d:gW A B (.le b x y)):lx (fX A B x) b≤lx (fX A B y) b:=by
 cases b
 ·exact d
 ·exact Int.ofNat_le.mpr d
theorem wc{A B b x y}(d:lx (fX A B x) b≤lx (fX A B y) b):gW A B (.le b x y):=by
 cases b
 ·exact d
 ·exact Int.ofNat_le.mp d
theorem yn{A B b x y}(d:gW A B (.eq b x y)):lx (fX A B x) b=lx (fX A B y) b:=by
 cases b
 ·exact d
 ·exact congrArg _ d
theorem we{A B b x y}(d:lx (fX A B x) b=lx (fX A B y) b):gW A B (.eq b x y):=by
 cases b
 ·exact d
 ·exact Int.ofNat.inj d
theorem wh{a b:Bool}(h:(a && b)=true):a=true∧b=true:=Bool.and_eq_true_iff.mp h
theorem yo(A:List Nat)(B:List Int)(f:LF):∀s k R,(∀R,k R=true→kQ (A.map Int.ofNat++B) R→False)→fE A.length s f k R=true→kQ (A.map Int.ofNat++B) R→lsd A B s f→False:=by
 induction f with
 | le b x y=>
  intro s k R hk h a d
  cases s <;> (obtain⟨p,q,R',g,a',vp,vq⟩:=rZ h a;refine hk _ g (kq ?_ a'))
  ·rw[nX,vp,vq];exact Gu fun g=>d (wc g)
  ·rw[eB,vp,vq];exact Int.sub_nonneg_of_le (ym d)
 | eq b x y=>
  intro s k R hk h a d
  cases s <;> obtain⟨p,q,R',g,a',vp,vq⟩:=rZ h a
  ·have g:=wh g
   by_cases h:lx (fX A B x) b≤lx (fX A B y) b
   ·exact hk _ g.2 (kq (by rw[nX,vp,vq];exact Gu fun g=>d (we (Int.le_antisymm h g))) a')
   ·exact hk _ g.1 (kq (by rw[nX,vp,vq];exact Gu h) a')
  ·have d:=yn d
   refine hk _ g (kq ?_ (kq ?_ a')) <;> (rw[eB,vp,vq,d,Int.sub_self];exact Int.le_refl 0)
 | no f ih=>
  intro s k R hk h a d
  cases s
  ·exact ih true k R hk h a (Classical.not_not.mp d)
  ·exact ih false k R hk h a d
 | an f g ih jh=>
  intro s k R hk h a d
  cases s
  ·have h:=wh h
   by_cases hf:gW A B f
   ·exact jh false k R hk h.2 a (fun hg=>d ⟨hf,hg⟩)
   ·exact ih false k R hk h.1 a hf
  ·exact ih true _ R (fun R h a=>jh true k R hk h a d.2) h a d.1
 | or f g ih jh=>
  intro s k R hk h a d
  cases s
  ·exact ih false _ R (fun R h a=>jh false k R hk h a (fun x=>d (.inr x))) h a (fun x=>d (.inl x))
  ·have h:=wh h
   exact d.elim (ih true k R hk h.1 a) (jh true k R hk h.2 a)
 | ii f g ih jh=>
  intro s k R hk h a d
  cases s <;> have h:=wh h <;> by_cases hf:gW A B f
  ·exact ih true _ R (fun R h a=>jh false k R hk h a (fun x=>d ⟨fun _=>x,fun _=>hf⟩)) h.1 a hf
  ·exact ih false _ R (fun R h a=>jh true k R hk h a (Classical.byContradiction fun x=>d ⟨fun y=>absurd y hf,fun y=>absurd y x⟩)) h.2 a hf
  ·exact ih true _ R (fun R h a=>jh true k R hk h a (d.mp hf)) h.1 a hf
  ·exact ih false _ R (fun R h a=>jh false k R hk h a (fun x=>hf (d.mpr x))) h.2 a hf
 | im f g ih jh=>
  intro s k R hk h a d
  cases s
  ·by_cases hf:gW A B f
   ·exact ih true _ R (fun R h a=>jh false k R hk h a (fun x=>d (fun _=>x))) h a hf
   ·exact d (fun x=>absurd x hf)
  ·have h:=wh h
   by_cases hf:gW A B f
   ·exact jh true k R hk h.2 a (d hf)
   ·exact ih false k R hk h.1 a hf
 | fa=>
  intro s k R hk h a d
  cases s
  ·exact hk R h a
  ·exact d
noncomputable def ZC:Nat→List LP
 | 0=>[]
 | n+1=>(0,nq n)::ZC n
theorem Gn(A:List Nat)(B:List Int)(n:Nat)(h:n≤A.length):kQ (A.map Int.ofNat++B) (ZC n):=by
 induction n with
 | zero=>exact nofun
 | succ n ih=>exact kq (by rw[d9,Int.zero_add,jV,(lP A B n).1 h];exact Int.natCast_nonneg _) (ih (Nat.le_of_succ_le h))
noncomputable def Go:List LF→LF→LF
 | [],f=>f
 | h::l,f=>.im h (Go l f)
theorem li(m:Nat)(l:List LF)(f:LF)(A:List Nat)(B:List Int)(g:autoParam (A.length=m) aR._auto_1)(h:true=fE m false (Go l f) (ZE 9) (ZC m):=by kernel_rfl):gW A B (Go l f):=by
 subst g
 exact Classical.byContradiction fun d=>yo A B _ false _ _ (fun R=>Gp _ R _) h.symm (Gn A B _ (Nat.le_refl _)) d
theorem jn(x k:Int)(h:autoParam (0<k) aD._auto_1):0≤x % k:=Int.emod_nonneg _ (Int.ne_of_gt h)
theorem jm(x k:Int)(h:autoParam (0<k) aD._auto_1):x % k<k:=Int.emod_lt_of_pos _ h
theorem lm2(x k:Int)(h:autoParam (0≤k) aD._auto_1):0≤(max 0 x) / k:=Int.ediv_nonneg (Int.le_max_left _ _) h
noncomputable def V0:=kK.v 0
noncomputable def V1:=kK.v 1
noncomputable def V2:=kK.v 2
noncomputable def V3:=kK.v 3
noncomputable def V4:=kK.v 4
noncomputable def V5:=kK.v 5
noncomputable def V6:=kK.v 6
noncomputable def W0:=kK.w 0
noncomputable def W1:=kK.w 1
noncomputable def W2:=kK.w 2
noncomputable def Nl:=LF.le true
noncomputable def Nq:=LF.eq true
noncomputable def Nt(x y:kK):=Nl (.a x (.l 1)) y
noncomputable def Zl:=LF.le false
noncomputable def Zq:=LF.eq false
noncomputable def Zt(x y:kK):=Zl (.a x (.l 1)) y
end Mine
end
namespace Mine
theorem om0{a b c:Nat}:a+3*(b+1)+10<c→a+1+3*b+10<c:=li 3 [Nt (.a (.a V0 (.u 3 (.a V1 (.l 1)))) (.l 10)) V2] (Nt (.a (.a (.a V0 (.l 1)) (.u 3 V1)) (.l 10)) V2) [a,b,c] []
theorem om1{a b c d:Nat}:a≤b→c+3*b+10<d→c+3*a+10<d:=li 4 [Nl V0 V1,Nt (.a (.a V2 (.u 3 V1)) (.l 10)) V3] (Nt (.a (.a V2 (.u 3 V0)) (.l 10)) V3) [a,b,c,d] []
theorem om2{a b c:Nat}:a+12*(b+1)+200<c→a+3+12*b+200<c:=li 3 [Nt (.a (.a V0 (.u 12 (.a V1 (.l 1)))) (.l 200)) V2] (Nt (.a (.a (.a V0 (.l 3)) (.u 12 V1)) (.l 200)) V2) [a,b,c] []
theorem om3{a b c d:Nat}:a≤b→c+12*b+200<d→c+12*a+200<d:=li 4 [Nl V0 V1,Nt (.a (.a V2 (.u 12 V1)) (.l 200)) V3] (Nt (.a (.a V2 (.u 12 V0)) (.l 200)) V3) [a,b,c,d] []
theorem om4{a b c:Nat}:a+3*(b+1)+10<c→a<c:=li 3 [Nt (.a (.a V0 (.u 3 (.a V1 (.l 1)))) (.l 10)) V2] (Nt V0 V2) [a,b,c] []
theorem om5{a b:Nat}(h0:a=b+1):¬(b=a):=by simp_all
theorem om6{a b:Nat}(h0:a=b+1):b≤a:=by simp_all
theorem om7{x y:Int}:x<y→y-x=((Int.toNat (y-x):Nat):Int)-((0:Nat):Int):=li 0 [Zt W0 W1] (Zq (.s W1 W0) (.s (.c (.t (.s W1 W0))) (.c (.l 0)))) [] [x,y]
theorem om8{x y:Int}:¬(x<y)→0=((Int.toNat (y-x):Nat):Int)-((0:Nat):Int):=li 0 [.no (Zt W0 W1)] (Zq (.l 0) (.s (.c (.t (.s W1 W0))) (.c (.l 0)))) [] [x,y]
theorem MK{a b c:Nat}:a+b=c+1→b<c→a-1<a:=li 3 [Nq (.a V0 V1) (.a V2 (.l 1)),Nt V1 V2] (Nt (.s V0 (.l 1)) V0) [a,b,c] []
theorem vZ{a b c:Nat}:a+b=c+1→b<c→a-1+(b+1)=c+1:=li 3 [Nq (.a V1 V2) (.a V0 (.l 1)),Nt V2 V0] (Nq (.a (.s V1 (.l 1)) (.a V2 (.l 1))) (.a V0 (.l 1))) [c,a,b] []
theorem Gj{a b:Nat}:a≤b→¬(a<b)→a=b:=li 2 [Nl V0 V1,.no (Nt V0 V1)] (Nq V0 V1) [a,b] []
theorem Zh{a b c d:Nat}:a≤b→c≤d→d<a→c≤b:=li 4 [Nl V0 V1,Nl V2 V3,Nt V3 V0] (Nl V2 V1) [a,b,c,d] []
theorem Tt{a b:Nat}(h0:a≤b):a≤b:=h0
theorem qO{a b:Nat}(h0:a≤b):a≤b+1:=Nat.le_succ_of_le h0
theorem S7{x:Int}:0<x→¬(x=0):=li 0 [Zt (.l 0) W0] (.no (Zq W0 (.l 0))) [] [x]
theorem yd{x:Int}(h0:0<x):0≤x:=Int.le_of_lt h0
theorem Zg{x:Int}(h0:0≤x):¬(x<0):=Int.not_lt.mpr h0
theorem Zf{a:Nat}{x:Int}:x<0→x+(a:Int)<(a:Int):=li 1 [Zt W0 (.l 0)] (Zt (.a W0 (.c V0)) (.c V0)) [a] [x]
theorem Ze{x:Int}(h0:(-9223372036854775808:Int)≤x∧x<9223372036854775808):(-9223372036854775808:Int)≤x∧x<9223372036854775808:=h0
theorem Zd{a b c:Nat}:a+(b+1)≤c→a+1+b≤c:=li 3 [Nl (.a V0 (.a V1 (.l 1))) V2] (Nl (.a (.a V0 (.l 1)) V1) V2) [a,b,c] []
theorem Zc{a b:Nat}:Int.toNat ((a:Int)+1*(b:Int))=a+b:=li 2 [] (Nq (.t (.a (.c V0) (.u 1 (.c V1)))) (.a V0 V1)) [a,b] []
theorem Zb{a b c:Nat}(h0:a+(b+1)≤c):a<min (a+(b+1)) c:=by simp_all
theorem vP{a b:Nat}:¬(a≤b)→b≤a:=li 2 [.no (Nl V0 V1)] (Nl V1 V0) [a,b] []
theorem Za{a:Nat}{x:Int}:max 0 (min x (a:Int))=((min (Int.toNat x) a:Nat):Int):=li 1 [] (Zq (.mx (.l 0) (.mn W0 (.c V0))) (.c (.mn (.t W0) V0))) [a] [x]
theorem Y9{a b c:Nat}:¬(a≤b)→min c b≤a:=li 3 [.no (Nl V0 V1)] (Nl (.mn V2 V1) V0) [a,b,c] []
theorem Y8{a b c:Nat}:a+(b+1)≤c→a<c:=li 3 [Nl (.a V0 (.a V1 (.l 1))) V2] (Nt V0 V2) [a,b,c] []
theorem RJ{a b:Nat}:min a b≤b:=Nat.min_le_right _ _
theorem Y7{a b:Nat}:a+(b+1)=a+1+b:=li 2 [] (Nq (.a V0 (.a V1 (.l 1))) (.a (.a V0 (.l 1)) V1)) [a,b] []
theorem Y6{a b:Nat}:Int.toNat (((a:Int)-(b:Int)+1-1) / 1)=a-b:=by simp_all
theorem Y5{a b:Nat}(h0:¬((a:Int)<(b:Int))):Int.toNat 0=b-a:=by simp_all
theorem Y4{a:Nat}:a≤a:=Nat.le_refl _
theorem Y3{a b c:Nat}:min a b+(min c b-min a b)≤b:=li 3 [] (Nl (.a (.mn V0 V2) (.s (.mn V1 V2) (.mn V0 V2))) V2) [a,c,b] []
theorem Y2{a b c:Nat}(h0:min a b≤min c b):min a b+(min c b-min a b)=min c b:=by simp_all
theorem Y1{a b c:Nat}:min a b-min c b=b→min c b=0:=li 3 [Nq (.s (.mn V1 V2) (.mn V0 V2)) V2] (Nq (.mn V0 V2) (.l 0)) [c,a,b] []
theorem Y0{a b c:Nat}:min a b-min c b=b→min a b=b:=li 3 [Nq (.s (.mn V0 V1) (.mn V2 V1)) V1] (Nq (.mn V0 V1) V1) [a,b,c] []
theorem YZ{a b c:Nat}:¬(min a b≤min c b)→min c b-min a b=0:=li 3 [.no (Nl (.mn V0 V2) (.mn V1 V2))] (Nq (.s (.mn V1 V2) (.mn V0 V2)) (.l 0)) [a,c,b] []
theorem YY{a b c:Nat}:¬(min a b≤min c b)→min c b≤min a b:=li 3 [.no (Nl (.mn V1 V2) (.mn V0 V2))] (Nl (.mn V0 V2) (.mn V1 V2)) [c,a,b] []
theorem YX{a:Nat}:a+1≤a+4:=by simp_all
theorem YW{a:Nat}{x:Int}(h0:0≤x)(h1:x<(a:Int)):Int.toNat x<a:=by simp_all
theorem YV:(0:Nat)≤64:=Nat.zero_le _
theorem YU{a:Nat}(h0:a<60):a+1≤64:=Nat.lt_of_lt_of_le h0 (by decide)
theorem P5{x y:Int}(h0:x<y):x≤y:=Int.le_of_lt h0
theorem Gi{x y:Int}(h0:¬(x<y)):y≤x:=Int.not_lt.mp h0
theorem YT{a b:Nat}{x:Int}:a=b→0≤x+(b:Int)∧x+(b:Int)<(b:Int)→(-(a:Int):Int)≤x:=li 2 [Nq V0 V1,.an (Zl (.l 0) (.a W0 (.c V1))) (Zt (.a W0 (.c V1)) (.c V1))] (Zl (.g (.c V0)) W0) [a,b] [x]
theorem yc{a b c:Nat}(h0:a≤b)(h1:c=a):c≤b:=by simp_all
theorem Pw{a b:Nat}:a+4<b→a<b:=li 2 [Nt (.a V0 (.l 4)) V1] (Nt V0 V1) [a,b] []
theorem YS{x:Int}(h0:¬(x<0)):0≤x:=Int.not_lt.mp h0
theorem qN{a b c:Nat}:a+4*(b+1)<c→a<c:=li 3 [Nt (.a V0 (.u 4 (.a V1 (.l 1)))) V2] (Nt V0 V2) [a,b,c] []
theorem qM{a b c d:Nat}:a+4*(b+1)<c→d≤a+4→d+4*b<c:=li 4 [Nt (.a V0 (.u 4 (.a V1 (.l 1)))) V2,Nl V3 (.a V0 (.l 4))] (Nt (.a V3 (.u 4 V1)) V2) [a,b,c,d] []
theorem OT{a b:Nat}(h0:a+4<b):a+4*(0+1)<b:=by omega
theorem vD{a b:Nat}(h0:¬(a<b)):b≤a:=Nat.le_of_not_lt h0
theorem YR{a b c:Nat}(h0:a=b)(h1:¬(c<a)):b≤c:=by simp_all
theorem YQ{a b c:Nat}(h0:a=0):min a b≤c:=by simp_all
theorem YP{a b:Nat}(h0:a+1≤b)(h1:b=0):False:=by simp_all
theorem Gh{a b:Nat}(h0:a+1≤b+1):a≤b:=by simp_all
theorem YO{a b c:Nat}(h0:a=b+1)(h1:a≤c):b+1≤c:=by simp_all
theorem NU{a b:Nat}(h0:a≤b):a+1≤b+1:=by simp_all
theorem YN{a:Nat}(h0:a+1≤0):False:=by simp_all
theorem YM{a b:Nat}(h0:a+1≤b):a≤b:=Nat.le_of_lt h0
theorem YL{a:Nat}:a≤a+1:=by simp_all
theorem Nc{a b:Nat}:a≤b→b≤a→b=a:=li 2 [Nl V0 V1,Nl V1 V0] (Nq V1 V0) [a,b] []
theorem MY{a:Nat}:a<a+1:=Nat.le_refl _
theorem YK{a b c:Nat}(h0:min a b≤c):min (a+1) (b+1)≤c+1:=by simp_all
theorem YJ{a b:Nat}:a≤b+1→¬(a=b+1)→¬(b+1≤a):=li 2 [Nl V0 (.a V1 (.l 1)),.no (Nq V0 (.a V1 (.l 1)))] (.no (Nl (.a V1 (.l 1)) V0)) [a,b] []
theorem vy{a b:Nat}:a≤b+1→¬(a=b+1)→a≤b:=li 2 [Nl V0 (.a V1 (.l 1)),.no (Nq V0 (.a V1 (.l 1)))] (Nl V0 V1) [a,b] []
theorem YI{a b c:Nat}:a≤b→a≤c→2*a≤b+c:=li 3 [Nl V0 V1,Nl V0 V2] (Nl (.u 2 V0) (.a V1 V2)) [a,b,c] []
theorem YH{a:Nat}:a+a-2*a=0:=li 1 [] (Nq (.s (.a V0 V0) (.u 2 V0)) (.l 0)) [a] []
theorem YG{a b c d:Nat}:a+b+(c+d)=a+d+(b+c):=li 4 [] (Nq (.a (.a V0 V1) (.a V2 V3)) (.a (.a V0 V3) (.a V1 V2))) [a,b,c,d] []
theorem YF{a b c d:Nat}:a+b≤c+d→2*a+2*b≤2*c+2*d:=li 4 [Nl (.a V0 V1) (.a V2 V3)] (Nl (.a (.u 2 V0) (.u 2 V1)) (.a (.u 2 V2) (.u 2 V3))) [a,b,c,d] []
theorem YE{a b c:Nat}:a+b-2*c=b+a-2*c:=li 3 [] (Nq (.s (.a V0 V1) (.u 2 V2)) (.s (.a V1 V0) (.u 2 V2))) [a,b,c] []
theorem YD{a b c:Nat}:1≤a→1≤b→min a b≤c→1≤c:=li 3 [Nl (.l 1) V2,Nl (.l 1) V1,Nl (.mn V2 V1) V0] (Nl (.l 1) V0) [c,b,a] []
theorem YC{a b c d:Nat}:a≤b→c≤d→b-a+(d-c)=b+d-(a+c):=li 4 [Nl V2 V0,Nl V3 V1] (Nq (.a (.s V0 V2) (.s V1 V3)) (.s (.a V0 V1) (.a V2 V3))) [b,d,a,c] []
theorem YB{a b:Nat}(h0:a+1=b):a+1=b∨a=b+1:=by simp_all
theorem YA{a b:Nat}:a=b+1→a+1=b∨a=b+1:=li 2 [Nq V0 (.a V1 (.l 1))] (.or (Nq (.a V0 (.l 1)) V1) (Nq V0 (.a V1 (.l 1)))) [a,b] []
theorem Yz{a:Nat}(h0:a=0)(h1:1≤a):False:=by simp_all
theorem Yy{a b:Nat}(h0:a+1=b):b+1=a∨b=a+1:=by simp_all
theorem Yx{a b:Nat}(h0:a=b+1):b+1=a∨b=a+1:=by simp_all
theorem vx{a b:Nat}(h0:a<b):a+1≤b:=h0
theorem Yw{a b:Nat}:¬(a<b)→a<b+1→a=b:=li 2 [.no (Nt V0 V1),Nt V0 (.a V1 (.l 1))] (Nq V0 V1) [a,b] []
theorem Yv{a b:Nat}(h0:a=b+1)(h1:1≤b)(h2:a=1):False:=by simp_all
theorem Yu{a b c d e:Nat}:a≤b→c=d+1→a=d+1→e=d→b+c-2*a+1=b+d-2*e∧a=c:=li 5 [Nl V1 V0,Nq V3 (.a V4 (.l 1)),Nq V1 (.a V4 (.l 1)),Nq V2 V4] (.an (Nq (.a (.s (.a V0 V3) (.u 2 V1)) (.l 1)) (.s (.a V0 V4) (.u 2 V2))) (Nq V1 V3)) [b,a,e,c,d] []
theorem Yt{a b c:Nat}:a<b→c=a+1→c≤b:=li 3 [Nt V0 V1,Nq V2 (.a V0 (.l 1))] (Nl V2 V1) [a,b,c] []
theorem ML{a b:Nat}(h0:a<64)(h1:b=a):b<64:=by simp_all
theorem Ys{a b c d e f:Nat}:a=b→c=b+1→d=a→c≤d→e+1=f:=li 6 [Nq V5 V2,Nq V0 (.a V2 (.l 1)),Nq V1 V5,Nl V0 V1] (Nq (.a V3 (.l 1)) V4) [c,d,b,e,f,a] []
theorem Yr{a b:Nat}:0<a→b≤a-1→b<a:=li 2 [Nt (.l 0) V0,Nl V1 (.s V0 (.l 1))] (Nt V1 V0) [a,b] []
theorem Yq{a:Nat}:1≤a→a≤1→¬(a=1)→False:=li 1 [Nl (.l 1) V0,Nl V0 (.l 1),.no (Nq V0 (.l 1))] .fa [a] []
theorem Yp{a b:Nat}(h0:a=b+1):b+1=a:=h0.symm
theorem Yo{a b:Nat}:a<b→a≤b-1:=li 2 [Nt V0 V1] (Nl V0 (.s V1 (.l 1))) [a,b] []
theorem Gg{a b:Nat}(h0:a≤0)(h1:b<a):False:=by simp_all
theorem Yn{a b c d e:Nat}:a≤b→a≤c→d=c+1→e=a→b+d-2*e=b+c-2*a+1∧e=a:=li 5 [Nl V3 V4,Nl V3 V0,Nq V1 (.a V0 (.l 1)),Nq V2 V3] (.an (Nq (.s (.a V4 V1) (.u 2 V2)) (.a (.s (.a V4 V0) (.u 2 V3)) (.l 1))) (Nq V2 V3)) [c,d,e,a,b] []
theorem MJ{a b c:Nat}:a≤b+1→c<a→c≤b:=li 3 [Nl V0 (.a V1 (.l 1)),Nt V2 V0] (Nl V2 V1) [a,b,c] []
theorem MI{a b:Nat}:a≤b+1→b≤40→a≤41:=li 2 [Nl V0 (.a V1 (.l 1)),Nl V1 (.l 40)] (Nl V0 (.l 41)) [a,b] []
theorem Ym{a b c:Nat}(h0:a<b)(h1:c≤a+1):c≤b:=Nat.le_trans h1 h0
theorem Yl{a b c d e f g:Nat}:a+b≤max (c+d) (e+f)→c≤b→f≤b→e≤g→d≤g→a≤g:=li 7 [Nl (.a V1 V5) (.mx (.a V2 V4) (.a V6 V0)),Nl V2 V5,Nl V0 V5,Nl V6 V3,Nl V4 V3] (Nl V1 V3) [f,a,c,g,d,b,e] []
theorem MH{a b:Nat}:a≤b-1→0<b→a+1≤b:=li 2 [Nl V0 (.s V1 (.l 1)),Nt (.l 0) V1] (Nl (.a V0 (.l 1)) V1) [a,b] []
theorem Yk{a b c d e f:Nat}:a+b≤max (c+d) (e+f)→d≤b→f≤b→a≤max c e:=li 6 [Nl (.a V0 V1) (.mx (.a V2 V3) (.a V4 V5)),Nl V3 V1,Nl V5 V1] (Nl V0 (.mx V2 V4)) [a,b,c,d,e,f] []
theorem MG{a b:Nat}(h0:0<a)(h1:b=a):0<b:=by simp_all
theorem Yj{a b c:Nat}:0<a→b=a→c≤b-1→c<a:=li 3 [Nt (.l 0) V1,Nq V2 V1,Nl V0 (.s V2 (.l 1))] (Nt V0 V1) [c,a,b] []
theorem Gf{a b c:Nat}:a=b→c<b→c≤a-1:=li 3 [Nq V2 V0,Nt V1 V0] (Nl V1 (.s V2 (.l 1))) [b,c,a] []
theorem TZ{a b:Nat}(h0:a≤0)(h1:b+1=a):False:=by simp_all
theorem TY{a:Nat}(h0:0=a+1):False:=by simp_all
theorem TX{a b:Nat}(h0:0=a+(b+1)):False:=by simp_all
theorem TV{a b c:Nat}(h0:a=b)(h1:a+1=c):c=b+1:=by simp_all
theorem TU{a b c:Nat}(h0:a=b+1)(h1:c+1=a):c=b:=by simp_all
theorem TS{a b c d:Nat}:a=b+(c+1)→d+1=a→d=b+c:=li 4 [Nq V2 (.a V1 (.a V3 (.l 1))),Nq (.a V0 (.l 1)) V2] (Nq V0 (.a V1 V3)) [d,b,a,c] []
theorem TR{a b c:Nat}:a≤41→b≤41→a+b-2*c≤82:=li 3 [Nl V0 (.l 41),Nl V1 (.l 41)] (Nl (.s (.a V0 V1) (.u 2 V2)) (.l 82)) [a,b,c] []
theorem TQ{a b c:Nat}:a=b→a=c+1→c≤b:=li 3 [Nq V0 V1,Nq V0 (.a V2 (.l 1))] (Nl V2 V1) [a,b,c] []
theorem TP{a b:Nat}:a=b+1→a≤b→False:=li 2 [Nq V0 (.a V1 (.l 1)),Nl V0 V1] .fa [a,b] []
theorem BI{x y:Int}(h0:x=y):x≤y:=by simp_all
theorem ni{a b:Nat}:a<b→b-1-a<b:=li 2 [Nt V1 V0] (Nt (.s (.s V0 (.l 1)) V1) V0) [b,a] []
theorem TN{a b:Nat}:¬(a≤b)→a=b+(a-b):=li 2 [.no (Nl V0 V1)] (Nq V0 (.a V1 (.s V0 V1))) [a,b] []
theorem TM{x y z:Int}:¬(x≤y)→z≤y→z≤x:=li 0 [.no (Zl W0 W1),Zl W2 W1] (Zl W2 W0) [] [x,y,z]
theorem TL{a b:Nat}(h0:a=b+1):a≤b+1:=by simp_all
theorem TK{a b c d:Nat}:a<b→c<d→min (a+1) b=min (c+1) d→a=c:=li 4 [Nt V2 V3,Nt V1 V0,Nq (.mn (.a V2 (.l 1)) V3) (.mn (.a V1 (.l 1)) V0)] (Nq V2 V1) [d,c,a,b] []
theorem pH{a b:Nat}:a<b→b-1-(b-1-a)=a:=li 2 [Nt V0 V1] (Nq (.s (.s V1 (.l 1)) (.s (.s V1 (.l 1)) V0)) V0) [a,b] []
theorem TJ{a b:Nat}:a≤b+1→¬(a≤b)→a=b+1:=li 2 [Nl V0 (.a V1 (.l 1)),.no (Nl V0 V1)] (Nq V0 (.a V1 (.l 1))) [a,b] []
theorem TH{a b:Nat}:1≤a→a≤b→a-1<b:=li 2 [Nl (.l 1) V0,Nl V0 V1] (Nt (.s V0 (.l 1)) V1) [a,b] []
theorem pG{a:Nat}:1≤a→a-1<a:=li 1 [Nl (.l 1) V0] (Nt (.s V0 (.l 1)) V0) [a] []
theorem TG{a b c:Nat}:1≤a→b=c→a≤b→c-a<c:=li 3 [Nl (.l 1) V0,Nq V1 V2,Nl V0 V1] (Nt (.s V2 V0) V2) [a,b,c] []
theorem BH{a b c:Nat}:1≤a→b=c→a≤b→a-1<c:=li 3 [Nl (.l 1) V2,Nq V0 V1,Nl V2 V0] (Nt (.s V2 (.l 1)) V1) [b,c,a] []
theorem BG{a b:Nat}:1≤a→b-a=b-1-(a-1):=li 2 [Nl (.l 1) V1] (Nq (.s V0 V1) (.s (.s V0 (.l 1)) (.s V1 (.l 1)))) [b,a] []
theorem TF{a b c d e:Nat}:a=b→c=d→e≤a→e≤c→b-e+(d-e)=a+c-2*e:=li 5 [Nq V4 V0,Nq V2 V1,Nl V3 V4,Nl V3 V2] (Nq (.a (.s V0 V3) (.s V1 V3)) (.s (.a V4 V2) (.u 2 V3))) [b,d,c,e,a] []
theorem TC{a b c:Nat}:a<b-c→b-1-a<c→False:=li 3 [Nt V0 (.s V1 V2),Nt (.s (.s V1 (.l 1)) V0) V2] .fa [a,b,c] []
theorem TB{a b c:Nat}:1≤a→b<c-a→a-1=c-1-b→False:=li 3 [Nl (.l 1) V2,Nt V0 (.s V1 V2),Nq (.s V2 (.l 1)) (.s (.s V1 (.l 1)) V0)] .fa [b,c,a] []
theorem TA{a b c:Nat}:a≤1000→b≤a+1→1000000≤c→b≤c+1:=li 3 [Nl V0 (.l 1000),Nl V1 (.a V0 (.l 1)),Nl (.l 1000000) V2] (Nl V1 (.a V2 (.l 1))) [a,b,c] []
theorem Tx{a b c:Nat}:a+12*(b+1)+200<c→a+1+12*b+200<c:=li 3 [Nt (.a (.a V0 (.u 12 (.a V1 (.l 1)))) (.l 200)) V2] (Nt (.a (.a (.a V0 (.l 1)) (.u 12 V1)) (.l 200)) V2) [a,b,c] []
theorem Tw{a b c d:Nat}:a=b+c+d→c≤a:=li 4 [Nq V0 (.a (.a V1 V2) V3)] (Nl V2 V0) [a,b,c,d] []
theorem Tv{a b:Nat}{x:Int}:min (Int.toNat (x+(a:Int))) b-Int.toNat x=a→a≤b:=li 2 [Nq (.s (.mn (.t (.a W0 (.c V1))) V0) (.t W0)) V1] (Nl V1 V0) [b,a] [x]
theorem Tu{a b c d:Nat}:a≤b→c+4*b<d→c+4*a<d:=li 4 [Nl V0 V1,Nt (.a V2 (.u 4 V1)) V3] (Nt (.a V2 (.u 4 V0)) V3) [a,b,c,d] []
theorem Tr{a:Nat}{x:Int}(h0:x≤(a:Int)):Int.toNat x≤a:=by simp_all
theorem BF{x y:Int}:x≤y→y≤x→x=y:=li 0 [Zl W0 W1,Zl W1 W0] (Zq W0 W1) [] [x,y]
theorem Tq{x y z:Int}:x+(y+z)=y+(x+z):=li 0 [] (Zq (.a W0 (.a W1 W2)) (.a W1 (.a W0 W2))) [] [x,y,z]
theorem To{x y z:Int}:x+(y+z)=x+y+z:=li 0 [] (Zq (.a W0 (.a W1 W2)) (.a (.a W0 W1) W2)) [] [x,y,z]
theorem Tn:(0:Int)≤0:=Int.natCast_nonneg _
theorem dW{a:Nat}:0≤(a:Int):=Int.natCast_nonneg _
theorem Tj{a b:Nat}(h0:a≤b):min a b=a:=by simp_all
theorem BE{a b c:Nat}:a+b≤c→a≤c-b:=li 3 [Nl (.a V0 V1) V2] (Nl V0 (.s V2 V1)) [a,b,c] []
theorem BD{a b:Nat}:a-b≤a:=Nat.sub_le _ _
theorem BC{x y z:Int}(h0:x / y<z / y):x / y+1≤z / y:=h0
theorem Ti{a:Nat}(h0:a+1≤a):False:=Nat.lt_irrefl _ h0
theorem Th{a b c:Nat}:a≤b→b≤c→b-a+(c-b)=c-a:=li 3 [Nl V2 V1,Nl V1 V0] (Nq (.a (.s V1 V2) (.s V0 V1)) (.s V0 V2)) [c,b,a] []
theorem Tg{x y z:Int}(h0:x % y=z % y)(h1:z-x<y)(h2:y*(x / y)+x % y=x)(h3:y*(z / y)+z % y=z)(h4:y*(x / y)+y*1≤y*(z / y)):x=z:=by lia
theorem Tf{x y z:Int}:x % y=z % y→y*(z / y)+x % y=x→y*(z / y)+z % y=z→x=z:=li 0 [Zq W2 (.w 3),Zq (.a (.w 4) W2) W0,Zq (.a (.w 4) (.w 3)) W1] (Zq W0 W1) [] [x,z,x % y,z % y,y*(z / y)]
theorem Te{a b c:Nat}:a=b→¬(c<a)→c-a=0→c=b:=li 3 [Nq V2 V0,.no (Nt V1 V2),Nq (.s V1 V2) (.l 0)] (Nq V1 V0) [b,c,a] []
theorem Td{x y z:Int}(h0:x % y=z % y)(h1:x-z<y)(h2:y*(x / y)+x % y=x)(h3:y*(z / y)+z % y=z)(h4:y*(z / y)+y*1≤y*(x / y)):x=z:=by lia
theorem Tc{a b c:Nat}:min (a-b) a-c=a-b-c:=by simp_all
theorem Tb{a b c d:Nat}:a≤b→¬(c<min b d-a)→c<d-a→b+(c-(min b d-a))=a+c:=li 4 [Nl V2 V1,.no (Nt V0 (.s (.mn V1 V3) V2)),Nt V0 (.s V3 V2)] (Nq (.a V1 (.s V0 (.s (.mn V1 V3) V2))) (.a V2 V0)) [c,b,a,d] []
theorem Ta{a b c d:Nat}:a≤b→b+c≤d→Int.toNat ((a:Int)+((d-c-a:Nat):Int))=d-c:=li 4 [Nl V1 V3,Nl (.a V3 V0) V2] (Nq (.t (.a (.c V1) (.c (.s (.s V2 V0) V1)))) (.s V2 V0)) [c,a,d,b] []
theorem S8{a b c d:Nat}:a≤b→b+c≤d→(a:Int)≤(d:Int):=li 4 [Nl V0 V1,Nl (.a V1 V2) V3] (Zl (.c V0) (.c V3)) [a,b,c,d] []
theorem S6{a b c d:Nat}:a≤b→b+c≤d→a≤d-c:=li 4 [Nl V2 V1,Nl (.a V1 V3) V0] (Nl V2 (.s V0 V3)) [d,b,a,c] []
theorem S5{a b c:Nat}:a≤40→b≤c→c=a→b-1≤40:=li 3 [Nl V0 (.l 40),Nl V2 V1,Nq V1 V0] (Nl (.s V2 (.l 1)) (.l 40)) [a,c,b] []
theorem rW:(0:Nat)≤40:=Nat.zero_le _
theorem BB{x y:Int}(h0:x=0)(h1:0≤y):x≤y:=by simp_all
theorem S4{a b c d e:Nat}:¬(a≤b)→a+c≤d→a+c≤e→b=min d e→False:=li 5 [.no (Nl V3 V1),Nl (.a V3 V0) V4,Nl (.a V3 V0) V2,Nq V1 (.mn V4 V2)] .fa [c,b,e,a,d] []
theorem BA{a b:Nat}(h0:¬(a≤b)):b<a:=Nat.not_le.mp h0
theorem SZ{a b c d e:Nat}:¬(a≤b)→c+a≤d→c+a≤e→c+b=min d e→False:=li 5 [.no (Nl V0 V1),Nl (.a V2 V0) V3,Nl (.a V2 V0) V4,Nq (.a V2 V1) (.mn V3 V4)] .fa [a,b,c,d,e] []
theorem Bz{a b c d:Nat}:¬(a≤b)→c+a≤d→d-a+(a-1-b)=d-1-b:=li 4 [.no (Nl V2 V0),Nl (.a V3 V2) V1] (Nq (.a (.s V1 V2) (.s (.s V2 (.l 1)) V0)) (.s (.s V1 (.l 1)) V0)) [b,d,a,c] []
theorem SY{x:Int}:0≤x→x=((Int.toNat x:Nat):Int):=li 0 [Zl (.l 0) W0] (Zq W0 (.c (.t W0))) [] [x]
theorem By{a b:Nat}:Int.toNat ((a:Int)+(b:Int))=a+b:=li 2 [] (Nq (.t (.a (.c V0) (.c V1))) (.a V0 V1)) [a,b] []
theorem SX{a b:Nat}(h0:(a:Int)≤(b:Int)):a≤b:=by simp_all
theorem SW{a b:Nat}(h0:(a:Int)≤(b:Int)):min a b=a:=by simp_all
theorem SV{a b c d:Nat}:(a:Int)≤(b:Int)→(a:Int)≤((min a b:Nat):Int)+((c:Int)+((b-(a+d):Nat):Int)):=li 4 [Zl (.c V2) (.c V3)] (Zl (.c V2) (.a (.c (.mn V2 V3)) (.a (.c V0) (.c (.s V3 (.a V2 V1)))))) [c,d,a,b] []
theorem pF{a b:Nat}(h0:a+1<b):a<b:=Nat.le_of_lt h0
theorem Bx{a b c:Nat}(h0:a=b)(h1:c=a):c=b:=by simp_all
theorem vY{a b c:Nat}(h0:a=b)(h1:c<b):c<a:=by simp_all
theorem Bw{a b:Nat}(h0:a=b):a≤b:=by simp_all
theorem vX{a b:Nat}:a<b→0<b:=li 2 [Nt V0 V1] (Nt (.l 0) V1) [a,b] []
theorem vW{a:Nat}(h0:a<0):False:=by simp_all
theorem rV{a:Nat}(h0:a<a):False:=Nat.lt_irrefl _ h0
theorem pE{a b:Nat}:min a b≤a:=li 2 [] (Nl (.mn V0 V1) V0) [a,b] []
theorem SU{a b:Nat}(h0:a+1<b+1):a<b:=by simp_all
theorem SS{a b c d e:Nat}:a<b→a+c=d→c<e→min a b+min (c+1) e=d+1:=li 5 [Nt V1 V0,Nq (.a V1 V3) V4,Nt V3 V2] (Nq (.a (.mn V1 V0) (.mn (.a V3 (.l 1)) V2)) (.a V4 (.l 1))) [b,a,e,c,d] []
theorem SR{a b c d:Nat}:a≤b+1→c<a→d<c→d≤b:=li 4 [Nl V0 (.a V1 (.l 1)),Nt V2 V0,Nt V3 V2] (Nl V3 V1) [a,b,c,d] []
theorem Bv{a b c:Nat}:a-1-b<c→1≤c:=li 3 [Nt (.s (.s V2 (.l 1)) V1) V0] (Nl (.l 1) V0) [c,b,a] []
theorem SQ{a b c d:Nat}:a=b→c=d→d≤a→b≤c→a=c:=li 4 [Nq V0 V2,Nq V1 V3,Nl V3 V0,Nl V2 V1] (Nq V0 V1) [a,c,b,d] []
theorem SO{a b c d:Nat}:a=b→c=d→a≤c→d≤b→c=a:=li 4 [Nq V3 V1,Nq V0 V2,Nl V3 V0,Nl V2 V1] (Nq V0 V3) [c,b,d,a] []
theorem SN{a b c d:Nat}:a=b→c=d→a≤c→d≤b→b=d:=li 4 [Nq V2 V0,Nq V1 V3,Nl V2 V1,Nl V3 V0] (Nq V0 V3) [b,c,a,d] []
theorem SM{x y:Int}:x≤y→y≤x→y=x:=li 0 [Zl W0 W1,Zl W1 W0] (Zq W1 W0) [] [x,y]
theorem SJ{x:Int}:0≤x→1≤x+1:=li 0 [Zl (.l 0) W0] (Zl (.l 1) (.a W0 (.l 1))) [] [x]
theorem SI{a b:Nat}{x:Int}(h0:a=b+1)(h1:(b:Int)≤x):(a:Int)≤x+1:=by simp_all
theorem SH{a:Nat}{x:Int}(h0:(a:Int)≤x):(a:Int)≤x:=by omega
theorem SG{a b:Nat}{x:Int}:(a:Int)≤x→b≤a→(b:Int)≤x:=li 2 [Zl (.c V0) W0,Nl V1 V0] (Zl (.c V1) W0) [a,b] [x]
theorem Bu{a b:Nat}:a-(b+1)=0→b+1≤a→b+1=a:=li 2 [Nq (.s V0 (.a V1 (.l 1))) (.l 0),Nl (.a V1 (.l 1)) V0] (Nq (.a V1 (.l 1)) V0) [a,b] []
theorem SF{x y z u:Int}:x=y→(z<u↔x<y∨x=y∧z<u):=li 0 [Zq W0 W1] (.ii (Zt W2 (.w 3)) (.or (Zt W0 W1) (.an (Zq W0 W1) (Zt W2 (.w 3))))) [] [x,y,z,u]
theorem SE{x y z u:Int}(h0:¬(x=y)):x<y↔x<y∨x=y∧z<u:=by simp_all
theorem SD{x y z u:Int}:¬(x<y∨x=y∧z<u)→¬(y<x∨y=x∧u<z)→x=y:=li 0 [.no (.or (Zt W0 W1) (.an (Zq W0 W1) (Zt W2 (.w 3)))),.no (.or (Zt W1 W0) (.an (Zq W1 W0) (Zt (.w 3) W2)))] (Zq W0 W1) [] [x,y,z,u]
theorem SA{x y z u:Int}:¬(x<y∨x=y∧z<u)→¬(y<x∨y=x∧u<z)→z=u:=li 0 [.no (.or (Zt W0 W1) (.an (Zq W0 W1) (Zt W2 (.w 3)))),.no (.or (Zt W1 W0) (.an (Zq W1 W0) (Zt (.w 3) W2)))] (Zq W2 (.w 3)) [] [x,y,z,u]
theorem Bt{a:Nat}(h0:a≤0):a=0:=by simp_all
theorem Bs{z0:Int}{z1:Int}:(¬((z0<z0)∨(True∧(z1<z1)))):=by simp_all
theorem ng{x y:Int}:¬(x<x∨x=x∧y<y):=by simp_all
theorem Br{a b c:Nat}:a-(b+1)=c+1→b+1<a:=li 3 [Nq (.s V1 (.a V2 (.l 1))) (.a V0 (.l 1))] (Nt (.a V2 (.l 1)) V1) [c,a,b] []
theorem Sy{x y z u v w:Int}:x<y∨x=y∧z<u→¬(v<y∨v=y∧w<u)→¬(v<x∨v=x∧w<z):=li 0 [.or (Zt W0 W1) (.an (Zq W0 W1) (Zt W2 (.w 3))),.no (.or (Zt (.w 4) W1) (.an (Zq (.w 4) W1) (Zt (.w 5) (.w 3))))] (.no (.or (Zt (.w 4) W0) (.an (Zq (.w 4) W0) (Zt (.w 5) W2)))) [] [x,y,z,u,v,w]
theorem Sx{x y z u v w:Int}:x<y∨x=y∧z<u→¬(x<v∨x=v∧z<w)→¬(y<v∨y=v∧u<w):=li 0 [.or (Zt W0 W1) (.an (Zq W0 W1) (Zt W2 (.w 3))),.no (.or (Zt W0 (.w 4)) (.an (Zq W0 (.w 4)) (Zt W2 (.w 5))))] (.no (.or (Zt W1 (.w 4)) (.an (Zq W1 (.w 4)) (Zt (.w 3) (.w 5))))) [] [x,y,z,u,v,w]
theorem rU{a b c:Nat}(h0:a=b)(h1:c<a):c<b:=by simp_all
theorem Bq{a b:Nat}(h0:a=b)(h1:0<b):0<a:=by simp_all
theorem Bp{a b:Nat}:a+4<b→a+1<b:=li 2 [Nt (.a V0 (.l 4)) V1] (Nt (.a V0 (.l 1)) V1) [a,b] []
theorem rT{a b c:Nat}:a-(b+1)=c+1→a-(b+1+1)=c:=li 3 [Nq (.s V1 (.a V2 (.l 1))) (.a V0 (.l 1))] (Nq (.s V1 (.a (.a V2 (.l 1)) (.l 1))) V0) [c,a,b] []
theorem vV{a:Nat}{x:Int}:(a:Int)≤x→x<(a:Int)→False:=li 1 [Zl (.c V0) W0,Zt W0 (.c V0)] .fa [a] [x]
theorem vU{a:Nat}{x:Int}:x<(a:Int)→(a:Int)≤x→False:=li 1 [Zt W0 (.c V0),Zl (.c V0) W0] .fa [a] [x]
theorem Sw{a b c:Nat}:a=b→b≤63→1000000≤c→a≤c:=li 3 [Nq V0 V1,Nl V1 (.l 63),Nl (.l 1000000) V2] (Nl V0 V2) [a,b,c] []
theorem Sv{a b c:Nat}:a≤63→min b (a-c)≤63:=li 3 [Nl V1 (.l 63)] (Nl (.mn V0 (.s V1 V2)) (.l 63)) [b,a,c] []
theorem rS{a b c:Nat}:a<min b c→a<c:=li 3 [Nt V0 (.mn V1 V2)] (Nt V0 V2) [a,b,c] []
theorem Bo{a b c:Nat}:a<min b c→a=b→False:=li 3 [Nt V0 (.mn V1 V2),Nq V0 V1] .fa [a,b,c] []
theorem fm{a b:Nat}:a<b+1→¬(a=b)→a<b:=li 2 [Nt V0 (.a V1 (.l 1)),.no (Nq V0 V1)] (Nt V0 V1) [a,b] []
theorem Su{a b:Nat}(h0:a<b):a<b+1:=Nat.le_succ_of_le h0
theorem dN{a b:Nat}(h0:a≤100000)(h1:1000000≤b):a≤b:=Nat.le_trans h0 (Nat.le_trans (by decide) h1)
theorem Bn{x:Int}(h0:0≤x):0≤x:=by omega
theorem vT{a:Nat}{x:Int}:0≤x→0≤x+(a:Int):=li 1 [Zl (.l 0) W0] (Zl (.l 0) (.a W0 (.c V0))) [a] [x]
theorem Bm{x:Int}:0≤x→x<0→False:=li 0 [Zl (.l 0) W0,Zt W0 (.l 0)] .fa [] [x]
theorem Ss{a:Nat}{x:Int}:x≤(a:Int)→(a:Int)<x→False:=li 1 [Zl W0 (.c V0),Zt (.c V0) W0] .fa [a] [x]
theorem Sr{a b c:Nat}{x:Int}:a≤100000→b≤100000→1000000≤c→min (Int.toNat x) a+b≤c:=li 3 [Nl V2 (.l 100000),Nl V0 (.l 100000),Nl (.l 1000000) V1] (Nl (.a (.mn (.t W0) V2) V0) V1) [b,c,a] [x]
theorem Sq{a b c:Nat}:a≤100000→b≤100000→1000000≤c→a+b+a≤c:=li 3 [Nl V0 (.l 100000),Nl V1 (.l 100000),Nl (.l 1000000) V2] (Nl (.a (.a V0 V1) V0) V2) [a,b,c] []
theorem pD{a:Nat}:1000000≤a→1≤a:=li 1 [Nl (.l 1000000) V0] (Nl (.l 1) V0) [a] []
theorem rR:((-1:Int):Int)<0:=Int.natCast_nonneg _
theorem vS{a:Nat}:0≤(-1:Int)+((a+1:Nat):Int):=li 1 [] (Zl (.l 0) (.a (.g (.l 1)) (.c (.a V0 (.l 1))))) [a] []
theorem vR{a:Nat}:Int.toNat ((-1:Int)+((a+1:Nat):Int))=a:=li 1 [] (Nq (.t (.a (.g (.l 1)) (.c (.a V0 (.l 1))))) V0) [a] []
theorem m9:((-9223372036854775808:Int):Int)≤(-1:Int)∧((-1:Int):Int)<9223372036854775808:=by decide
theorem Bl{a b c d e:Nat}:1000000≤a→b+c≤d→d≤40→e=b+1→e≤a:=li 5 [Nl (.l 1000000) V3,Nl (.a V4 V0) V1,Nl V1 (.l 40),Nq V2 (.a V4 (.l 1))] (Nl V2 V3) [c,d,e,a,b] []
theorem vQ{a b c d:Nat}:a+b≤c→d<b→a+1+d≤c:=li 4 [Nl (.a V0 V1) V2,Nt V3 V1] (Nl (.a (.a V0 (.l 1)) V3) V2) [a,b,c,d] []
theorem Bk{a b c:Nat}:a+b≤c→c≤40→a≤49:=li 3 [Nl (.a V0 V1) V2,Nl V2 (.l 40)] (Nl V0 (.l 49)) [a,b,c] []
theorem Sp{x y z:Int}(h0:x≤y)(h1:x=z):z≤y:=by simp_all
theorem So:(0:Nat)<0+1:=Nat.le_refl _
theorem jb{a:Nat}:¬(a<0):=by simp_all
theorem Bj{a:Nat}:0<a+1:=by simp_all
theorem Sn{x y z:Int}:x<y→z≤x→z≤y:=li 0 [Zt W0 W1,Zl W2 W0] (Zl W2 W1) [] [x,y,z]
theorem Sm{x y:Int}(h0:¬(x≤y)):y<x:=by simp_all
theorem Sl{a:Nat}(h0:0<a)(h1:a=0):False:=by simp_all
theorem Sk{a b c:Nat}:a≤40→1000000≤b→min c a≤b:=li 3 [Nl V1 (.l 40),Nl (.l 1000000) V2] (Nl (.mn V0 V1) V2) [c,a,b] []
theorem Bi{a b c d:Nat}:a≤40→1000000≤b→c<a→d≤2*c→d≤b:=li 4 [Nl V0 (.l 40),Nl (.l 1000000) V1,Nt V2 V0,Nl V3 (.u 2 V2)] (Nl V3 V1) [a,b,c,d] []
theorem Sj{a b c d:Nat}:a≤40→1000000≤b→c<a→d≤2*c→d+1≤b:=li 4 [Nl V0 (.l 40),Nl (.l 1000000) V1,Nt V2 V0,Nl V3 (.u 2 V2)] (Nl (.a V3 (.l 1)) V1) [a,b,c,d] []
theorem Si{a b:Nat}:a≤2*b→a+2≤2*(b+1):=li 2 [Nl V0 (.u 2 V1)] (Nl (.a V0 (.l 2)) (.u 2 (.a V1 (.l 1)))) [a,b] []
theorem Sh{a b:Nat}:a≤2*b→a+1≤2*(b+1):=li 2 [Nl V0 (.u 2 V1)] (Nl (.a V0 (.l 1)) (.u 2 (.a V1 (.l 1)))) [a,b] []
theorem Bh{a b:Nat}:a≤2*b→a≤2*(b+1):=li 2 [Nl V0 (.u 2 V1)] (Nl V0 (.u 2 (.a V1 (.l 1)))) [a,b] []
theorem Sg{a b:Nat}:a+12*0+200<b→a+4<b:=li 2 [Nt (.a (.a V0 (.u 12 (.l 0))) (.l 200)) V1] (Nt (.a V0 (.l 4)) V1) [a,b] []
theorem Sf{a b:Nat}(h0:a=0)(h1:b+1=a):False:=by simp_all
theorem Se{a b:Nat}(h0:a=b)(h1:a≤82):b≤82:=by simp_all
theorem Sd{a b c:Nat}:a≤40→1000000≤b→c≤a→c≤b:=li 3 [Nl V0 (.l 40),Nl (.l 1000000) V1,Nl V2 V0] (Nl V2 V1) [a,b,c] []
theorem Sb{a b c d:Nat}:a≤40→1000000≤b→c≤a→d≤c→d≤b:=li 4 [Nl V0 (.l 40),Nl (.l 1000000) V1,Nl V2 V0,Nl V3 V2] (Nl V3 V1) [a,b,c,d] []
theorem Sa{a:Nat}:a≤82→100-(a+1)<100-a:=li 1 [Nl V0 (.l 82)] (Nt (.s (.l 100) (.a V0 (.l 1))) (.s (.l 100) V0)) [a] []
theorem vO{a:Nat}:((a+1:Nat):Int)=(a:Int)+1:=by simp_all
theorem R9{a b:Nat}{x:Int}(h0:x=(a:Int))(h1:(b:Int)≤x):b≤a:=by simp_all
theorem R8{a b:Nat}:a≤40→b≤a→b<64:=li 2 [Nl V0 (.l 40),Nl V1 V0] (Nt V1 (.l 64)) [a,b] []
theorem RZ{a b c d e f:Nat}:max (a:Int) (b:Int)≤max (c:Int) (d:Int)→max c d≤max e f→max a b≤max e f:=li 6 [Zl (.mx (.c V2) (.c V4)) (.mx (.c V3) (.c V1)),Nl (.mx V3 V1) (.mx V5 V0)] (Nl (.mx V2 V4) (.mx V5 V0)) [f,d,a,c,b,e] []
theorem RY{x y:Int}(h0:x=y):y≤x:=by simp_all
theorem Bg{x y z u:Int}(h0:x=y)(h1:z=u)(h2:x≤z):y≤u:=by simp_all
theorem RX{a b c d:Nat}:¬(max (a:Int) (b:Int)≤max (c:Int) (d:Int))→max c d≤max a b:=li 4 [.no (Zl (.mx (.c V3) (.c V2)) (.mx (.c V0) (.c V1)))] (Nl (.mx V0 V1) (.mx V3 V2)) [c,d,b,a] []
theorem RW{a b c d:Nat}{x y:Int}:¬(max (a:Int) (b:Int)≤max (c:Int) (d:Int))→max a b=max c d→x≤y:=li 4 [.no (Zl (.mx (.c V1) (.c V0)) (.mx (.c V3) (.c V2))),Nq (.mx V1 V0) (.mx V3 V2)] (Zl W0 W1) [b,a,d,c] [x,y]
theorem RV{a b:Nat}(h0:a≤b):max a b=b:=by simp_all
theorem RU{a b:Nat}:¬(a≤b)→max a b=a:=li 2 [.no (Nl V0 V1)] (Nq (.mx V0 V1) V0) [a,b] []
theorem RT{x:Int}:x≤1000→1000<x→False:=li 0 [Zl W0 (.l 1000),Zt (.l 1000) W0] .fa [] [x]
theorem rQ:(1:Nat)≤2:=by decide
theorem RS{a b:Nat}:a<b→b-1-a+1=b-a:=li 2 [Nt V1 V0] (Nq (.a (.s (.s V0 (.l 1)) V1) (.l 1)) (.s V0 V1)) [b,a] []
theorem eX{a:Nat}(h0:a≤20000):a≤100000:=Nat.le_trans h0 (by decide)
theorem Bf{a b:Nat}:a≤20000→b≤a→b≤100000:=li 2 [Nl V0 (.l 20000),Nl V1 V0] (Nl V1 (.l 100000)) [a,b] []
theorem pC{a b:Nat}:a-(b+1)=a-1-b:=li 2 [] (Nq (.s V1 (.a V0 (.l 1))) (.s (.s V1 (.l 1)) V0)) [b,a] []
theorem RQ{a b c d:Nat}:1000000≤a→b+c≤d→d≤40→b≤a:=li 4 [Nl (.l 1000000) V0,Nl (.a V1 V2) V3,Nl V3 (.l 40)] (Nl V1 V0) [a,b,c,d] []
theorem RP{a:Nat}:¬(0=a+1):=by simp_all
theorem RO{a:Nat}:¬(a=a+1):=by simp_all
theorem RN{a b:Nat}(h0:¬(a=b)):¬(a+1=b+1):=by simp_all
theorem RM{a b:Nat}:a<b+1→¬(a=b+1):=li 2 [Nt V0 (.a V1 (.l 1))] (.no (Nq V0 (.a V1 (.l 1)))) [a,b] []
theorem m8{a:Nat}(h0:a≤40):a<64:=Nat.lt_of_le_of_lt h0 (by decide)
theorem Be{a b c d:Nat}:1000000≤a→b≤40→c=b→min d c≤a:=li 4 [Nl (.l 1000000) V3,Nl V0 (.l 40),Nq V2 V0] (Nl (.mn V1 V2) V3) [b,d,c,a] []
theorem m7{a b c:Nat}:1000000≤a→b≤40→c=b→c≤a:=li 3 [Nl (.l 1000000) V0,Nl V1 (.l 40),Nq V2 V1] (Nl V2 V0) [a,b,c] []
theorem RL{a b:Nat}(h0:1000000≤a)(h1:b≤20000):b≤a:=Nat.le_trans h1 (Nat.le_trans (by decide) h0)
theorem Bd{a b c:Nat}:1000000≤a→b≤20000→c≤b→c≤a:=li 3 [Nl (.l 1000000) V0,Nl V1 (.l 20000),Nl V2 V1] (Nl V2 V0) [a,b,c] []
theorem RK{x:Int}(h0:0≤x):(-1:Int)<x:=h0
theorem cH{a:Nat}:1000000≤a→2≤a:=li 1 [Nl (.l 1000000) V0] (Nl (.l 2) V0) [a] []
theorem vN{a b c:Nat}:a<40→1000000≤b→c=a→c≤b:=li 3 [Nt V0 (.l 40),Nl (.l 1000000) V1,Nq V2 V0] (Nl V2 V1) [a,b,c] []
theorem vM{a b:Nat}(h0:a<40)(h1:b=a):b<40:=by simp_all
theorem RI{x:Int}(h0:0≤x):¬(x<1-1):=Int.not_lt.mpr h0
theorem rP{a b:Nat}:a<40→1000000≤b→a≤b:=li 2 [Nt V0 (.l 40),Nl (.l 1000000) V1] (Nl V0 V1) [a,b] []
theorem RH{a:Nat}{x:Int}(h0:(a:Int)≤x+1):0+(a:Int)≤x+1:=by simp_all
theorem RG{a:Nat}{x y:Int}:x+((a+1:Nat):Int)≤y+1→x+1+(a:Int)≤y+1:=li 1 [Zl (.a W0 (.c (.a V0 (.l 1)))) (.a W1 (.l 1))] (Zl (.a (.a W0 (.l 1)) (.c V0)) (.a W1 (.l 1))) [a] [x,y]
theorem RF{a:Nat}{x y:Int}:x+1+(a:Int)≤y+1→1≤a→¬(y<x+1):=li 1 [Zl (.a (.a W0 (.l 1)) (.c V0)) (.a W1 (.l 1)),Nl (.l 1) V0] (.no (Zt W1 (.a W0 (.l 1)))) [a] [x,y]
theorem m6:(1:Nat)≤3:=by decide
theorem Bc{a b c:Nat}:a=min b c→min (b:Int) (c:Int)=(a:Int):=li 3 [Nq V0 (.mn V2 V1)] (Zq (.mn (.c V2) (.c V1)) (.c V0)) [a,c,b] []
theorem pB{a:Nat}:1≤a→¬((a:Int)=0):=li 1 [Nl (.l 1) V0] (.no (Zq (.c V0) (.l 0))) [a] []
theorem m5{a:Nat}(h0:1≤a):0<(a:Int):=Int.ofNat_le.mpr h0
theorem RE{a b c:Nat}{x:Int}:1≤a→b=a→((c:Int)+x) % (a:Int)<(a:Int)→Int.toNat (((c:Int)+x) % (a:Int))<b:=li 2 [Nl (.l 1) V1,Nq V0 V1,Zt W0 (.c V1)] (Nt (.t W0) V0) [b,a] [((c:Int)+x) % (a:Int)]
theorem RD{a:Nat}:1≤a→0≤(a:Int)-1:=li 1 [Nl (.l 1) V0] (Zl (.l 0) (.s (.c V0) (.l 1))) [a] []
theorem RC{a:Nat}:a≤41→(a:Int)-1≤60:=li 1 [Nl V0 (.l 41)] (Zl (.s (.c V0) (.l 1)) (.l 60)) [a] []
theorem RB{a:Nat}:(a:Int)=(a:Int)-1+1:=by simp_all
theorem RA{a b:Nat}(h0:(a:Int)-1≤(b:Int)-1):(a:Int)≤(b:Int)-1+1:=by simp_all
theorem Rz{a b c:Nat}{x:Int}:Int.toNat (((a:Int)+x) % (b:Int))=Int.toNat (((c:Int)+x) % (b:Int))→0≤((a:Int)+x) % (b:Int)→0≤((c:Int)+x) % (b:Int)→((a:Int)+x) % (b:Int)=((c:Int)+x) % (b:Int):=li 0 [Nq (.t W1) (.t W0),Zl (.l 0) W1,Zl (.l 0) W0] (Zq W1 W0) [] [((c:Int)+x) % (b:Int),((a:Int)+x) % (b:Int)]
theorem Bb{a b c:Nat}{x:Int}:a<b→(a:Int)+x-((c:Int)+x)<(b:Int):=li 3 [Nt V0 V1] (Zt (.s (.a (.c V0) W0) (.a (.c V2) W0)) (.c V1)) [a,b,c] [x]
theorem Ry{a b:Nat}{x:Int}:(a:Int)+x=(b:Int)+x→a=b:=li 2 [Zq (.a (.c V0) W0) (.a (.c V1) W0)] (Nq V0 V1) [a,b] [x]
theorem Rx{a b c:Nat}:a<min b c→a<b:=li 3 [Nt V0 (.mn V1 V2)] (Nt V0 V1) [a,b,c] []
theorem Rw{x y z:Int}:x≤y→y≤z→x≤z:=li 0 [Zl W0 W1,Zl W1 W2] (Zl W0 W2) [] [x,y,z]
theorem Rv{x y:Int}:x≤y∨y≤x:=li 0 [] (.or (Zl W0 W1) (Zl W1 W0)) [] [x,y]
theorem Ru{x y z u:Int}:x=y→z=u→x≤z→¬(x=z)→y<u:=li 0 [Zq W0 W1,Zq W2 (.w 3),Zl W0 W2,.no (Zq W0 W2)] (Zt W1 (.w 3)) [] [x,y,z,u]
theorem Rt{x y z:Int}(h0:x=y)(h1:x=z):z≤y:=by simp_all
theorem vL:(2:Nat)≤3:=by decide
theorem Rr{a b:Nat}:a<b→¬(a=b-1)→a<b-1:=li 2 [Nt V0 V1,.no (Nq V0 (.s V1 (.l 1)))] (Nt V0 (.s V1 (.l 1))) [a,b] []
theorem Rq{x y:Int}(h0:x<y):¬(y≤x):=by simp_all
theorem Ba{a b:Nat}:a+12*2+200<b→a+100<b:=li 2 [Nt (.a (.a V0 (.u 12 (.l 2))) (.l 200)) V1] (Nt (.a V0 (.l 100)) V1) [a,b] []
theorem Rp{x:Int}:0≤x % 96:=(li 0 [Zl (.l 0) W0,Zt W0 (.l 96)] (Zl (.l 0) W0) [] [x % 96]) (jn _ 96) (jm _ 96)
theorem Ro{x:Int}:(-9223372036854775808:Int)≤x % 96∧x % 96<9223372036854775808:=(li 0 [Zl (.l 0) W0,Zt W0 (.l 96)] (.an (Zl (.g (.l 9223372036854775808)) W0) (Zt W0 (.l 9223372036854775808))) [] [x % 96]) (jn _ 96) (jm _ 96)
theorem Rn{x:Int}:x % 96<((64+32:Nat):Int):=(li 0 [Zl (.l 0) W0,Zt W0 (.l 96)] (Zt W0 (.c (.a (.l 64) (.l 32)))) [] [x % 96]) (jn _ 96) (jm _ 96)
theorem Rm{x:Int}:Int.toNat (x % 96)<64+32:=(li 0 [Zl (.l 0) W0,Zt W0 (.l 96)] (Nt (.t W0) (.a (.l 64) (.l 32))) [] [x % 96]) (jn _ 96) (jm _ 96)
theorem Rl{x:Int}(h0:x≤100000):Int.toNat x≤100000:=by simp_all
theorem Rk{x:Int}:0<1+x % 3:=(li 0 [Zl (.l 0) W0,Zt W0 (.l 3)] (Zt (.l 0) (.a (.l 1) W0)) [] [x % 3]) (jn _ 3) (jm _ 3)
theorem Rj{x:Int}:1+x % 3<1073741824:=(li 0 [Zl (.l 0) W0,Zt W0 (.l 3)] (Zt (.a (.l 1) W0) (.l 1073741824)) [] [x % 3]) (jn _ 3) (jm _ 3)
theorem Ri{x:Int}:x≤100000→Int.toNat x≤16777216:=li 0 [Zl W0 (.l 100000)] (Nl (.t W0) (.l 16777216)) [] [x]
theorem kf{a b:Nat}(h0:a≤10000)(h1:1000000≤b):a≤b:=Nat.le_trans h0 (Nat.le_trans (by decide) h1)
theorem vK{a:Nat}:0<(a:Int)+1:=by simp_all
theorem Rh{a:Nat}:a≤10000→(a:Int)+1<1073741824:=li 1 [Nl V0 (.l 10000)] (Zt (.a (.c V0) (.l 1)) (.l 1073741824)) [a] []
theorem Rg{a:Nat}:¬((a:Int)+1=0):=li 1 [] (.no (Zq (.a (.c V0) (.l 1)) (.l 0))) [a] []
theorem Rf{a:Nat}:a≤a+9:=by simp_all
theorem A9{a b:Nat}{x:Int}:a≤10000→1000000≤b→min (Int.toNat x) a+(0+1)≤b:=li 2 [Nl V1 (.l 10000),Nl (.l 1000000) V0] (Nl (.a (.mn (.t W0) V1) (.a (.l 0) (.l 1))) V0) [b,a] [x]
theorem Rd{a b:Nat}{x:Int}:a≤10000→1000000≤b→min (Int.toNat x) a+(0+1)+(0+1)≤b:=li 2 [Nl V1 (.l 10000),Nl (.l 1000000) V0] (Nl (.a (.a (.mn (.t W0) V1) (.a (.l 0) (.l 1))) (.a (.l 0) (.l 1))) V0) [b,a] [x]
theorem Rc{a b:Nat}{x:Int}:a≤10000→1000000≤b→min (Int.toNat x) a+(0+1)+(0+1)+(a-Int.toNat x)≤b:=li 2 [Nl V0 (.l 10000),Nl (.l 1000000) V1] (Nl (.a (.a (.a (.mn (.t W0) V0) (.a (.l 0) (.l 1))) (.a (.l 0) (.l 1))) (.s V0 (.t W0))) V1) [a,b] [x]
theorem Rb{a:Nat}{x:Int}:min (Int.toNat x) a+(0+1)+(0+1)+(a-Int.toNat x)≤a+9:=li 1 [] (Nl (.a (.a (.a (.mn (.t W0) V0) (.a (.l 0) (.l 1))) (.a (.l 0) (.l 1))) (.s V0 (.t W0))) (.a V0 (.l 9))) [a] [x]
theorem Ra{x y:Int}:0≤x→0≤x+1+y % 3:=(li 0 [Zl (.l 0) W1,Zt W1 (.l 3),Zl (.l 0) W0] (Zl (.l 0) (.a (.a W0 (.l 1)) W1)) [] [x,y % 3]) (jn _ 3) (jm _ 3)
theorem Q9{a b:Nat}{x y:Int}:a≤10000→1000000≤b→min (Int.toNat x) a+(a-Int.toNat (x+1+y % 3))≤b:=(li 2 [Zl (.l 0) W1,Zt W1 (.l 3),Nl V1 (.l 10000),Nl (.l 1000000) V0] (Nl (.a (.mn (.t W0) V1) (.s V1 (.t (.a (.a W0 (.l 1)) W1)))) V0) [b,a] [x,y % 3]) (jn _ 3) (jm _ 3)
theorem Q8{a:Nat}{x y:Int}:min (Int.toNat x) a+(a-Int.toNat (x+1+y % 3))≤a+9:=(li 1 [Zl (.l 0) W1,Zt W1 (.l 3)] (Nl (.a (.mn (.t W0) V0) (.s V0 (.t (.a (.a W0 (.l 1)) W1)))) (.a V0 (.l 9))) [a] [x,y % 3]) (jn _ 3) (jm _ 3)
theorem rO{x:Int}:0≤x→0≤x+1:=li 0 [Zl (.l 0) W0] (Zl (.l 0) (.a W0 (.l 1))) [] [x]
theorem Q7{a b:Nat}{x:Int}:a≤10000→1000000≤b→min (Int.toNat x) a+(0+1)+(a-Int.toNat (x+1))≤b:=li 2 [Nl V0 (.l 10000),Nl (.l 1000000) V1] (Nl (.a (.a (.mn (.t W0) V0) (.a (.l 0) (.l 1))) (.s V0 (.t (.a W0 (.l 1))))) V1) [a,b] [x]
theorem Q6{a:Nat}{x:Int}:min (Int.toNat x) a+(0+1)+(a-Int.toNat (x+1))≤a+9:=li 1 [] (Nl (.a (.a (.mn (.t W0) V0) (.a (.l 0) (.l 1))) (.s V0 (.t (.a W0 (.l 1))))) (.a V0 (.l 9))) [a] [x]
theorem A8{x:Int}:0≤x % 9:=(li 0 [Zl (.l 0) W0,Zt W0 (.l 9)] (Zl (.l 0) W0) [] [x % 9]) (jn _ 9) (jm _ 9)
theorem Q5{x:Int}:x % 9≤100000:=(li 0 [Zl (.l 0) W0,Zt W0 (.l 9)] (Zl W0 (.l 100000)) [] [x % 9]) (jn _ 9) (jm _ 9)
theorem Q4{a:Nat}{x:Int}:Int.toNat (x % 9)≤a+9:=(li 1 [Zl (.l 0) W0,Zt W0 (.l 9)] (Nl (.t W0) (.a V0 (.l 9))) [a] [x % 9]) (jn _ 9) (jm _ 9)
theorem vJ{a:Nat}:0≤a:=Nat.zero_le _
theorem A7{a b c d:Nat}:a=min b c→(d:Int)<(a:Int)→d<b:=li 4 [Nq V0 (.mn V2 V3),Zt (.c V1) (.c V0)] (Nt V1 V2) [a,d,b,c] []
theorem A6{a b c d:Nat}:a=min b c→(d:Int)<(a:Int)→d<c:=li 4 [Nq V0 (.mn V3 V2),Zt (.c V1) (.c V0)] (Nt V1 V2) [a,d,c,b] []
theorem A5{a b c d:Nat}:a=min b c→(d:Int)<(a:Int)→(d:Int)<(b:Int):=li 4 [Nq V0 (.mn V2 V3),Zt (.c V1) (.c V0)] (Zt (.c V1) (.c V2)) [a,d,b,c] []
theorem rN{a b c d:Nat}:a≤100000→b=min c a→(d:Int)<(b:Int)→(-9223372036854775808:Int)≤(d:Int)∧(d:Int)<9223372036854775808:=li 4 [Nl V2 (.l 100000),Nq V3 (.mn V1 V2),Zt (.c V0) (.c V3)] (.an (Zl (.g (.l 9223372036854775808)) (.c V0)) (Zt (.c V0) (.l 9223372036854775808))) [d,c,a,b] []
theorem A4{a b c d:Nat}:a=min b c→(d:Int)<(a:Int)→(d:Int)<(c:Int):=li 4 [Nq V0 (.mn V3 V2),Zt (.c V1) (.c V0)] (Zt (.c V1) (.c V2)) [a,d,c,b] []
theorem A3{a b:Nat}:(a:Int)<(b:Int)→a+1≤b:=li 2 [Zt (.c V0) (.c V1)] (Nl (.a V0 (.l 1)) V1) [a,b] []
theorem A2{a b:Nat}:(a:Int)<(b:Int)→b-(a+1)<b-a:=li 2 [Zt (.c V1) (.c V0)] (Nt (.s V0 (.a V1 (.l 1))) (.s V0 V1)) [b,a] []
theorem A1{a b:Nat}:a≤b→¬(a=b)→(a:Int)<(b:Int):=li 2 [Nl V0 V1,.no (Nq V0 V1)] (Zt (.c V0) (.c V1)) [a,b] []
theorem A0{a b:Nat}(h0:a≤b):a+0≤b:=by first | decide | (intros;simp_all;done) | lia
theorem m4{a b c d e:Nat}:a=min b c→(d:Int)<(a:Int)-(e:Int)→b-1-d<b:=li 5 [Nq V4 (.mn V0 V2),Zt (.c V1) (.s (.c V4) (.c V3))] (Nt (.s (.s V0 (.l 1)) V1) V0) [b,d,c,e,a] []
theorem m1{a b c d e:Nat}:a=min b c→(d:Int)<(a:Int)-(e:Int)→c-1-d<c:=li 5 [Nq V3 (.mn V4 V0),Zt (.c V1) (.s (.c V3) (.c V2))] (Nt (.s (.s V0 (.l 1)) V1) V0) [c,d,e,a,b] []
theorem Q3{a b c d e:Nat}:a=min b c→(d:Int)<(a:Int)-(e:Int)→0≤(b:Int)-1-(d:Int):=li 5 [Nq V0 (.mn V3 V4),Zt (.c V2) (.s (.c V0) (.c V1))] (Zl (.l 0) (.s (.s (.c V3) (.l 1)) (.c V2))) [a,e,d,b,c] []
theorem AZ{a b:Nat}:(a:Int)-1-(b:Int)<(a:Int):=li 2 [] (Zt (.s (.s (.c V0) (.l 1)) (.c V1)) (.c V0)) [a,b] []
theorem AY{a b:Nat}:Int.toNat ((a:Int)-1-(b:Int))=a-1-b:=by simp_all
theorem Q2{a b c d e:Nat}:a=min b c→(d:Int)<(a:Int)-(e:Int)→0≤(c:Int)-1-(d:Int):=li 5 [Nq V0 (.mn V4 V3),Zt (.c V2) (.s (.c V0) (.c V1))] (Zl (.l 0) (.s (.s (.c V3) (.l 1)) (.c V2))) [a,e,d,c,b] []
theorem Q1{a b c d e:Nat}:a≤100000→b=min a c→(d:Int)<(b:Int)-(e:Int)→(-9223372036854775808:Int)≤(a:Int)-1-(d:Int)∧(a:Int)-1-(d:Int)<9223372036854775808:=li 5 [Nl V0 (.l 100000),Nq V4 (.mn V0 V3),Zt (.c V1) (.s (.c V4) (.c V2))] (.an (Zl (.g (.l 9223372036854775808)) (.s (.s (.c V0) (.l 1)) (.c V1))) (Zt (.s (.s (.c V0) (.l 1)) (.c V1)) (.l 9223372036854775808))) [a,d,e,c,b] []
theorem Q0{a b c d e:Nat}:a≤100000→b=min c a→(d:Int)<(b:Int)-(e:Int)→(-9223372036854775808:Int)≤(a:Int)-1-(d:Int)∧(a:Int)-1-(d:Int)<9223372036854775808:=li 5 [Nl V0 (.l 100000),Nq V4 (.mn V3 V0),Zt (.c V1) (.s (.c V4) (.c V2))] (.an (Zl (.g (.l 9223372036854775808)) (.s (.s (.c V0) (.l 1)) (.c V1))) (Zt (.s (.s (.c V0) (.l 1)) (.c V1)) (.l 9223372036854775808))) [a,d,e,c,b] []
theorem AX{a b c:Nat}:(a:Int)<(b:Int)-(c:Int)→c+(a+1)≤b:=li 3 [Zt (.c V0) (.s (.c V1) (.c V2))] (Nl (.a V2 (.a V0 (.l 1))) V1) [a,b,c] []
theorem AW{a b c:Nat}:(a:Int)<(b:Int)-(c:Int)→b-(a+1)<b-a:=li 3 [Zt (.c V2) (.s (.c V0) (.c V1))] (Nt (.s V0 (.a V2 (.l 1))) (.s V0 V2)) [b,c,a] []
theorem AV{a b c d e:Nat}:a=min b c→(d:Int)<(a:Int)-(e:Int)→b-1-d+1=b-d:=li 5 [Nq V0 (.mn V3 V4),Zt (.c V1) (.s (.c V0) (.c V2))] (Nq (.a (.s (.s V3 (.l 1)) V1) (.l 1)) (.s V3 V1)) [a,d,e,b,c] []
theorem AU{a b c d e:Nat}:a=min b c→(d:Int)<(a:Int)-(e:Int)→c-1-d+1=c-d:=li 5 [Nq V0 (.mn V4 V3),Zt (.c V1) (.s (.c V0) (.c V2))] (Nq (.a (.s (.s V3 (.l 1)) V1) (.l 1)) (.s V3 V1)) [a,d,e,c,b] []
theorem AS{a b c:Nat}:a+b≤c→¬(a+b=c)→(b:Int)<(c:Int)-(a:Int):=li 3 [Nl (.a V0 V1) V2,.no (Nq (.a V0 V1) V2)] (Zt (.c V1) (.s (.c V2) (.c V0))) [a,b,c] []
theorem AR{a b c d e:Nat}:a=min b c→d+e≤a→0≤(b:Int)-(e:Int):=li 5 [Nq V0 (.mn V3 V4),Nl (.a V1 V2) V0] (Zl (.l 0) (.s (.c V3) (.c V2))) [a,d,e,b,c] []
theorem AQ{a b c d e:Nat}:a=min b c→d+e≤a→0≤(c:Int)-(e:Int):=li 5 [Nq V0 (.mn V4 V3),Nl (.a V1 V2) V0] (Zl (.l 0) (.s (.c V3) (.c V2))) [a,d,e,c,b] []
theorem AP{a b c d e:Nat}:a=min b c→d+e≤a→d+e≤b:=li 5 [Nq V0 (.mn V2 V3),Nl (.a V1 V4) V0] (Nl (.a V1 V4) V2) [a,d,b,c,e] []
theorem AO{a b c d e:Nat}:a=min b c→d+e≤a→d+e≤c:=li 5 [Nq V0 (.mn V3 V2),Nl (.a V1 V4) V0] (Nl (.a V1 V4) V2) [a,d,c,b,e] []
theorem rM{a b:Nat}:Int.toNat ((a:Int)-(b:Int))=a-b:=by simp_all
theorem AN{a:Nat}:(-1:Int)-(a:Int)<0:=li 1 [] (Zt (.s (.g (.l 1)) (.c V0)) (.l 0)) [a] []
theorem QZ{a b c d e:Nat}:a=min b c→(d:Int)<(a:Int)-(e:Int)→0≤(-1:Int)-(d:Int)+(b:Int):=li 5 [Nq V0 (.mn V3 V4),Zt (.c V2) (.s (.c V0) (.c V1))] (Zl (.l 0) (.a (.s (.g (.l 1)) (.c V2)) (.c V3))) [a,e,d,b,c] []
theorem AM{a b:Nat}:Int.toNat ((-1:Int)-(a:Int)+(b:Int))=b-1-a:=li 2 [] (Nq (.t (.a (.s (.g (.l 1)) (.c V0)) (.c V1))) (.s (.s V1 (.l 1)) V0)) [a,b] []
theorem QY{a b c d e:Nat}:a=min b c→(d:Int)<(a:Int)-(e:Int)→0≤(-1:Int)-(d:Int)+(c:Int):=li 5 [Nq V0 (.mn V4 V3),Zt (.c V2) (.s (.c V0) (.c V1))] (Zl (.l 0) (.a (.s (.g (.l 1)) (.c V2)) (.c V3))) [a,e,d,c,b] []
theorem AL{a b c d e:Nat}:a≤100000→b=min c a→(d:Int)<(b:Int)-(e:Int)→(-9223372036854775808:Int)≤(-1:Int)-(d:Int)∧(-1:Int)-(d:Int)<9223372036854775808:=li 5 [Nl V3 (.l 100000),Nq V4 (.mn V0 V3),Zt (.c V1) (.s (.c V4) (.c V2))] (.an (Zl (.g (.l 9223372036854775808)) (.s (.g (.l 1)) (.c V1))) (Zt (.s (.g (.l 1)) (.c V1)) (.l 9223372036854775808))) [c,d,e,a,b] []
theorem QX{a:Nat}:max 0 ((a:Int)-2)=((a-2:Nat):Int):=li 1 [] (Zq (.mx (.l 0) (.s (.c V0) (.l 2))) (.c (.s V0 (.l 2)))) [a] []
theorem QW{a:Nat}:a-2≤a:=Nat.sub_le _ _
theorem AK{a b:Nat}(h0:a≤20000)(h1:1000000≤b):a≤b:=Nat.le_trans h0 (Nat.le_trans (by decide) h1)
theorem QV{a b:Nat}:a≤20000→1000000≤b→a+a≤b:=li 2 [Nl V0 (.l 20000),Nl (.l 1000000) V1] (Nl (.a V0 V0) V1) [a,b] []
theorem QU{a b c d e:Nat}:a≤20000→b≤20000→1000000≤c→d+e≤a→d+b≤c:=li 5 [Nl V0 (.l 20000),Nl V1 (.l 20000),Nl (.l 1000000) V4,Nl (.a V3 V2) V0] (Nl (.a V3 V1) V4) [a,b,e,d,c] []
theorem QT{x y:Int}:x<x+1+(y / 3) % 3:=(li 0 [Zl (.l 0) W1,Zt W1 (.l 3)] (Zt W0 (.a (.a W0 (.l 1)) W1)) [] [x,(y / 3) % 3]) (jn _ 3) (jm _ 3)
theorem QS{a b c d:Nat}:a≤100→1000000≤b→c=d→d<a→c≤b:=li 4 [Nl V0 (.l 100),Nl (.l 1000000) V3,Nq V1 V2,Nt V2 V0] (Nl V1 V3) [a,c,d,b] []
theorem QR{x y:Int}:(-1:Int)≤x→x<y→(-1:Int)≤y:=li 0 [Zl (.g (.l 1)) W0,Zt W0 W1] (Zl (.g (.l 1)) W1) [] [x,y]
theorem QP{x y z:Int}:x=y→z<y→x≤z→False:=li 0 [Zq W0 W1,Zt W2 W1,Zl W0 W2] .fa [] [x,y,z]
theorem QO{x y z:Int}:x<y→0≤z∧z≤x→0≤z∧z≤y:=li 0 [Zt W0 W1,.an (Zl (.l 0) W2) (Zl W2 W0)] (.an (Zl (.l 0) W2) (Zl W2 W1)) [] [x,y,z]
theorem QN{x y z:Int}:(-1:Int)≤x→x<y→z=y→0≤z∧z≤y:=li 0 [Zl (.g (.l 1)) W0,Zt W0 W1,Zq W2 W1] (.an (Zl (.l 0) W2) (Zl W2 W1)) [] [x,y,z]
theorem QM{x:Int}:0≤(17*(x / 9)) % 400:=(li 0 [Zl (.l 0) W0,Zt W0 (.l 400)] (Zl (.l 0) W0) [] [(17*(x / 9)) % 400]) (jn _ 400) (jm _ 400)
theorem QL{x:Int}:(17*(x / 9)) % 400<400:=(li 0 [Zl (.l 0) W0,Zt W0 (.l 400)] (Zt W0 (.l 400)) [] [(17*(x / 9)) % 400]) (jn _ 400) (jm _ 400)
theorem QK{x:Int}:x % 9<400:=(li 0 [Zl (.l 0) W0,Zt W0 (.l 9)] (Zt W0 (.l 400)) [] [x % 9]) (jn _ 9) (jm _ 9)
theorem fB{a b:Nat}(h0:1000000≤a)(h1:b≤40):b≤a:=Nat.le_trans h1 (Nat.le_trans (by decide) h0)
theorem iF{a b:Nat}(h0:1000000≤a)(h1:b≤50):b≤a:=Nat.le_trans h1 (Nat.le_trans (by decide) h0)
theorem AJ{a b c:Nat}:a≤14→1000000≤b→c=3*a→c≤b:=li 3 [Nl V0 (.l 14),Nl (.l 1000000) V1,Nq V2 (.u 3 V0)] (Nl V2 V1) [a,b,c] []
theorem QJ{a b:Nat}(h0:a=3*b):(a:Int) / 3=(b:Int):=by simp_all
theorem QI{a:Nat}:0≤2*(a:Int):=Int.natCast_nonneg _
theorem QH{a b:Nat}:a=3*b→2*(b:Int)≤(a:Int):=li 2 [Nq V0 (.u 3 V1)] (Zl (.u 2 (.c V1)) (.c V0)) [a,b] []
theorem QG{a b:Nat}:a=3*b→a-Int.toNat (2*(b:Int))=b:=li 2 [Nq V1 (.u 3 V0)] (Nq (.s V1 (.t (.u 2 (.c V0)))) V0) [b,a] []
theorem QF{a b:Nat}:a≤14→b=a→b≤100:=li 2 [Nl V0 (.l 14),Nq V1 V0] (Nl V1 (.l 100)) [a,b] []
theorem AI{a b:Nat}(h0:a≤14)(h1:1000000≤b):a≤b:=Nat.le_trans h0 (Nat.le_trans (by decide) h1)
theorem QE{a b c:Nat}{x:Int}:1≤a→b=a→((c:Int)+x / 2) % (a:Int)<(a:Int)→Int.toNat (((c:Int)+x / 2) % (a:Int))<b:=li 2 [Nl (.l 1) V1,Nq V0 V1,Zt W0 (.c V1)] (Nt (.t W0) V0) [b,a] [((c:Int)+x / 2) % (a:Int)]
theorem QD{a b c:Nat}{x:Int}(h0:a=b)(h1:((c:Int)+x / 2) % (b:Int)<(b:Int)):((c:Int)+x / 2) % (b:Int)<(a:Int):=by simp_all
theorem QC{a b:Nat}{x:Int}:a≤14→0≤((b:Int)+x / 2) % (a:Int)→((b:Int)+x / 2) % (a:Int)<(a:Int)→(-9223372036854775808:Int)≤((b:Int)+x / 2) % (a:Int)∧((b:Int)+x / 2) % (a:Int)<9223372036854775808:=li 1 [Nl V0 (.l 14),Zl (.l 0) W0,Zt W0 (.c V0)] (.an (Zl (.g (.l 9223372036854775808)) W0) (Zt W0 (.l 9223372036854775808))) [a] [((b:Int)+x / 2) % (a:Int)]
theorem QB{a b c:Nat}:a=3*b→c<3*b→(c:Int)<(a:Int):=li 3 [Nq V0 (.u 3 V1),Nt V2 (.u 3 V1)] (Zt (.c V2) (.c V0)) [a,b,c] []
theorem vH{a:Nat}:Int.toNat (a:Int)=a:=by simp_all
theorem QA{a b:Nat}:a≤14→b<3*a→(-9223372036854775808:Int)≤(b:Int)∧(b:Int)<9223372036854775808:=li 2 [Nl V0 (.l 14),Nt V1 (.u 3 V0)] (.an (Zl (.g (.l 9223372036854775808)) (.c V1)) (Zt (.c V1) (.l 9223372036854775808))) [a,b] []
theorem AG{a b c:Nat}(h0:a=3*b)(h1:c<3*b):c<a:=by simp_all
theorem AF{a b:Nat}(h0:a<b):(a:Int)<(b:Int):=by simp_all
theorem Qz{a b c:Nat}:a≤14→b=a→c<b→(-9223372036854775808:Int)≤(c:Int)∧(c:Int)<9223372036854775808:=li 3 [Nl V1 (.l 14),Nq V2 V1,Nt V0 V2] (.an (Zl (.g (.l 9223372036854775808)) (.c V0)) (Zt (.c V0) (.l 9223372036854775808))) [c,a,b] []
theorem Qx{a b c:Nat}:a≤14→b=a→c≤b→c≤40:=li 3 [Nl V0 (.l 14),Nq V1 V0,Nl V2 V1] (Nl V2 (.l 40)) [a,b,c] []
theorem vG{a b:Nat}(h0:a<Int.toNat (b:Int)):a<b:=h0
theorem Qw{a b c d:Nat}:a=b→c<b→d=min c a→d=c:=li 4 [Nq V2 V1,Nt V0 V1,Nq V3 (.mn V0 V2)] (Nq V3 V0) [c,b,a,d] []
theorem Qv{a b:Nat}:a<b→a<3*b:=li 2 [Nt V0 V1] (Nt V0 (.u 3 V1)) [a,b] []
theorem Qu{a b:Nat}:(a:Int)+(b:Int)=((a+b:Nat):Int):=by simp_all
theorem Qt{a b:Nat}:a<b→b+a<3*b:=li 2 [Nt V0 V1] (Nt (.a V1 V0) (.u 3 V1)) [a,b] []
theorem Qs{a b c:Nat}:a≤14→b<a→c=b→c<40:=li 3 [Nl V0 (.l 14),Nt V1 V0,Nq V2 V1] (Nt V2 (.l 40)) [a,b,c] []
theorem Qr{a b c:Nat}:a≤14→b<a→c≤400+9*(b+1)→c≤20000:=li 3 [Nl V0 (.l 14),Nt V1 V0,Nl V2 (.a (.l 400) (.u 9 (.a V1 (.l 1))))] (Nl V2 (.l 20000)) [a,b,c] []
theorem Qq{a b:Nat}:a≤400+9*b→a≤400+9*(b+1):=li 2 [Nl V0 (.a (.l 400) (.u 9 V1))] (Nl V0 (.a (.l 400) (.u 9 (.a V1 (.l 1))))) [a,b] []
theorem Qp{x:Int}:x<400→x≤100000:=li 0 [Zt W0 (.l 400)] (Zl W0 (.l 100000)) [] [x]
theorem AE{a b c d:Nat}:a≤14→1000000≤b→c<a→min c d≤b:=li 4 [Nl V0 (.l 14),Nl (.l 1000000) V3,Nt V2 V0] (Nl (.mn V2 V1) V3) [a,d,c,b] []
theorem AD{a b c d:Nat}:a≤14→1000000≤b→c<a→d=c→d≤b:=li 4 [Nl V0 (.l 14),Nl (.l 1000000) V3,Nt V1 V0,Nq V2 V1] (Nl V2 V3) [a,c,d,b] []
theorem Qo{a b:Nat}{x:Int}:x<400→a=Int.toNat x→a≤400+9*(b+1):=li 2 [Zt W0 (.l 400),Nq V0 (.t W0)] (Nl V0 (.a (.l 400) (.u 9 (.a V1 (.l 1))))) [a,b] [x]
theorem Qm{a:Nat}(h0:¬(1≤a)):(a:Int)=0:=by simp_all
theorem Ql{a b c:Nat}:a=b→c<b→c-1<a:=li 3 [Nq V1 V0,Nt V2 V0] (Nt (.s V2 (.l 1)) V1) [b,a,c] []
theorem Qk{a b c:Nat}{x:Int}:a=b→c<b→(x / 5) % (c:Int)<(c:Int)→Int.toNat ((x / 5) % (c:Int))<a:=li 3 [Nq V1 V0,Nt V2 V0,Zt W0 (.c V2)] (Nt (.t W0) V1) [b,a,c] [(x / 5) % (c:Int)]
theorem Qj{a:Nat}:1≤a→(a:Int)-1=((a-1:Nat):Int):=li 1 [Nl (.l 1) V0] (Zq (.s (.c V0) (.l 1)) (.c (.s V0 (.l 1)))) [a] []
theorem Qi{a:Nat}{x:Int}:0≤(x / 5) % (a:Int)→(x / 5) % (a:Int)=((Int.toNat ((x / 5) % (a:Int)):Nat):Int):=li 0 [Zl (.l 0) W0] (Zq W0 (.c (.t W0))) [] [(x / 5) % (a:Int)]
theorem Qh{a:Nat}{x:Int}(h0:0≤(x / 5) % (a:Int))(h1:(x / 5) % (a:Int)<(a:Int)):Int.toNat ((x / 5) % (a:Int))<a:=by simp_all
theorem Qg{a b c:Nat}:a≤14→b<a→c≤400+9*b→c≤10000:=li 3 [Nl V0 (.l 14),Nt V1 V0,Nl V2 (.a (.l 400) (.u 9 V1))] (Nl V2 (.l 10000)) [a,b,c] []
theorem Qf{a b:Nat}:2*(a:Int)+(b:Int)=((2*a+b:Nat):Int):=by simp_all
theorem Qe{a b:Nat}:a<b→2*b+a<3*b:=li 2 [Nt V0 V1] (Nt (.a (.u 2 V1) V0) (.u 3 V1)) [a,b] []
theorem Qd{a b c:Nat}:a≤14→b<a→c≤400+9*b→c≤20000:=li 3 [Nl V0 (.l 14),Nt V1 V0,Nl V2 (.a (.l 400) (.u 9 V1))] (Nl V2 (.l 20000)) [a,b,c] []
theorem Qc{a b c d:Nat}:a≤14→b<a→c≤400+9*b→d≤c+9→d≤20000:=li 4 [Nl V0 (.l 14),Nt V1 V0,Nl V2 (.a (.l 400) (.u 9 V1)),Nl V3 (.a V2 (.l 9))] (Nl V3 (.l 20000)) [a,b,c,d] []
theorem Qb{a b c:Nat}:a≤400+9*b→c≤a+9→c≤400+9*(b+1):=li 3 [Nl V0 (.a (.l 400) (.u 9 V1)),Nl V2 (.a V0 (.l 9))] (Nl V2 (.a (.l 400) (.u 9 (.a V1 (.l 1))))) [a,b,c] []
theorem Qa{a b:Nat}:a≤14→b≤400+9*a→b≤600:=li 2 [Nl V0 (.l 14),Nl V1 (.a (.l 400) (.u 9 V0))] (Nl V1 (.l 600)) [a,b] []
theorem P9{a b:Nat}:a+100<b→a+4*(3+1)<b:=li 2 [Nt (.a V0 (.l 100)) V1] (Nt (.a V0 (.u 4 (.a (.l 3) (.l 1)))) V1) [a,b] []
theorem P8{a b:Nat}:a≤100→1000000≤b→Int.toNat (3*(a:Int))≤b:=li 2 [Nl V0 (.l 100),Nl (.l 1000000) V1] (Nl (.t (.u 3 (.c V0))) V1) [a,b] []
theorem P7{a:Nat}:Int.toNat (3*(a:Int))=3*a:=li 1 [] (Nq (.t (.u 3 (.c V0))) (.u 3 V0)) [a] []
theorem pA:(1:Nat)≤4:=by decide
theorem rL:(2:Nat)≤4:=by decide
theorem rK:(3:Nat)≤4:=by decide
theorem P6{a:Nat}{x:Int}(h0:(a:Int)≤x):¬(x<(a:Int)+1-1):=by simp_all
theorem AB{a:Nat}{x y:Int}:x≤y→(a:Int)≤x→(a:Int)≤y:=li 1 [Zl W0 W1,Zl (.c V0) W0] (Zl (.c V0) W1) [a] [x,y]
theorem P4{a:Nat}{x:Int}:0≤max x (a:Int):=li 1 [] (Zl (.l 0) (.mx W0 (.c V0))) [a] [x]
theorem P2{a:Nat}{x:Int}:x≤max x (a:Int):=li 1 [] (Zl W0 (.mx W0 (.c V0))) [a] [x]
theorem P1{a:Nat}{x:Int}:(a:Int)≤max x (a:Int):=li 1 [] (Zl (.c V0) (.mx W0 (.c V0))) [a] [x]
theorem P0{a:Nat}{x:Int}:x≤(a:Int)→max x (a:Int)=(a:Int):=li 1 [Zl W0 (.c V0)] (Zq (.mx W0 (.c V0)) (.c V0)) [a] [x]
theorem PZ{a:Nat}{x:Int}:¬(x≤(a:Int))→max x (a:Int)=x:=li 1 [.no (Zl W0 (.c V0))] (Zq (.mx W0 (.c V0)) W0) [a] [x]
theorem PY{a:Nat}{x y:Int}(h0:¬(x<y+(a:Int))):y+(a:Int)≤x:=Int.not_lt.mp h0
theorem PX{a b:Nat}:a=b→0<b→¬((a:Int)=0):=li 2 [Nq V0 V1,Nt (.l 0) V1] (.no (Zq (.c V0) (.l 0))) [a,b] []
theorem PW{x y:Int}:0≤x→0≤y→0≤x+y:=li 0 [Zl (.l 0) W0,Zl (.l 0) W1] (Zl (.l 0) (.a W0 W1)) [] [x,y]
theorem vF{a b:Nat}(h0:a=b)(h1:0<b):0<(a:Int):=by simp_all
theorem PV{a b:Nat}{x:Int}:a=b→0<b→x % (a:Int)<(a:Int)→Int.toNat (x % (a:Int))<a:=li 2 [Nq V0 V1,Nt (.l 0) V1,Zt W0 (.c V0)] (Nt (.t W0) V0) [a,b] [x % (a:Int)]
theorem PU{a b:Nat}{x:Int}:a≤100→b=a→0≤x % (b:Int)→x % (b:Int)<(b:Int)→(-9223372036854775808:Int)≤x % (b:Int)∧x % (b:Int)<9223372036854775808:=li 2 [Nl V1 (.l 100),Nq V0 V1,Zl (.l 0) W0,Zt W0 (.c V0)] (.an (Zl (.g (.l 9223372036854775808)) W0) (Zt W0 (.l 9223372036854775808))) [b,a] [x % (b:Int)]
theorem PS{a b c:Nat}:a≤b→c+b≤40→c+a≤40:=li 3 [Nl V0 V1,Nl (.a V2 V1) (.l 40)] (Nl (.a V2 V0) (.l 40)) [a,b,c] []
theorem PQ{a b c:Nat}:a≤b→c+9*b≤9000→c+9*a≤9000:=li 3 [Nl V0 V1,Nl (.a V2 (.u 9 V1)) (.l 9000)] (Nl (.a V2 (.u 9 V0)) (.l 9000)) [a,b,c] []
theorem PO{a b c:Nat}:a≤b→c+b≤39→c+a≤39:=li 3 [Nl V0 V1,Nl (.a V2 V1) (.l 39)] (Nl (.a V2 V0) (.l 39)) [a,b,c] []
theorem AA{a b:Nat}:a+12*0+200<b→a+100<b:=li 2 [Nt (.a (.a V0 (.u 12 (.l 0))) (.l 200)) V1] (Nt (.a V0 (.l 100)) V1) [a,b] []
theorem Az{a b:Nat}:a+12*4+200<b→a+100<b:=li 2 [Nt (.a (.a V0 (.u 12 (.l 4))) (.l 200)) V1] (Nt (.a V0 (.l 100)) V1) [a,b] []
theorem rJ{a b:Nat}:a+b≤39→a<64:=li 2 [Nl (.a V0 V1) (.l 39)] (Nt V0 (.l 64)) [a,b] []
theorem rI{a b:Nat}:a+b≤39→a≤100:=li 2 [Nl (.a V0 V1) (.l 39)] (Nl V0 (.l 100)) [a,b] []
theorem pq{a b c d:Nat}:1000000≤a→b+c≤39→d=b→d≤a:=li 4 [Nl (.l 1000000) V0,Nl (.a V2 V1) (.l 39),Nq V3 V2] (Nl V3 V0) [a,c,b,d] []
theorem PN{a b c:Nat}:a+b≤39→c=a→c≤40:=li 3 [Nl (.a V0 V1) (.l 39),Nq V2 V0] (Nl V2 (.l 40)) [a,b,c] []
theorem Ay{a:Nat}:1000000≤a→4≤a:=li 1 [Nl (.l 1000000) V0] (Nl (.l 4) V0) [a] []
theorem PM{a b:Nat}(h0:a≤100)(h1:1000000≤b):a≤b:=Nat.le_trans h0 (Nat.le_trans (by decide) h1)
theorem PL:(0+1:Nat)≤4:=by decide
theorem pj{a b:Nat}:a+100<b→a+4<b:=li 2 [Nt (.a V0 (.l 100)) V1] (Nt (.a V0 (.l 4)) V1) [a,b] []
theorem Ax{a b:Nat}:a+100<b→a+4*(4+1)<b:=li 2 [Nt (.a V0 (.l 100)) V1] (Nt (.a V0 (.u 4 (.a (.l 4) (.l 1)))) V1) [a,b] []
theorem PK{a b:Nat}:a+100<b→a+4*(2+1)<b:=li 2 [Nt (.a V0 (.l 100)) V1] (Nt (.a V0 (.u 4 (.a (.l 2) (.l 1)))) V1) [a,b] []
theorem PJ{a:Nat}:a-(a-1)≤40:=li 1 [] (Nl (.s V0 (.s V0 (.l 1))) (.l 40)) [a] []
theorem PI{a b:Nat}(h0:a<b)(h1:a=b):False:=by simp_all
theorem PH{a b:Nat}:a<b+1↔a<b∨a=b:=li 2 [] (.ii (Nt V0 (.a V1 (.l 1))) (.or (Nt V0 V1) (Nq V0 V1))) [a,b] []
theorem PG{a b:Nat}{x y:Int}:x=(a:Int)→y=(b:Int)→(b:Int)≤x→(a:Int)≤y→x=y:=li 2 [Zq W0 (.c V0),Zq W1 (.c V1),Zl (.c V1) W0,Zl (.c V0) W1] (Zq W0 W1) [a,b] [x,y]
theorem Aw:(2:Nat)≤5:=by decide
theorem Av:(4:Nat)≤5:=by decide
theorem PE{a:Nat}{x:Int}(h0:¬((a:Int)≤x)):x<(a:Int):=by simp_all
theorem PD:¬((0+1:Nat)=0):=by decide
theorem PB{a:Nat}:¬(a+1=0):=by simp_all
theorem Au:(1:Nat)≤1:=Nat.le_refl _
theorem Pz{a:Nat}(h0:a≤40):a≤40:=h0
theorem Py{x y:Int}(h0:x<y):x<y:=h0
theorem Px{a b:Nat}:a≤50→b<a→(-9223372036854775808:Int)≤(b:Int)∧(b:Int)<9223372036854775808:=li 2 [Nl V0 (.l 50),Nt V1 V0] (.an (Zl (.g (.l 9223372036854775808)) (.c V1)) (Zt (.c V1) (.l 9223372036854775808))) [a,b] []
theorem Pu{a b:Nat}:¬(a=b)→¬(a<b)→b<a:=li 2 [.no (Nq V0 V1),.no (Nt V0 V1)] (Nt V1 V0) [a,b] []
theorem Pt{a b c:Nat}:a+b=c→(c:Int)=(a:Int)+(b:Int):=li 3 [Nq (.a V0 V1) V2] (Zq (.c V2) (.a (.c V0) (.c V1))) [a,b,c] []
theorem Ps{a b:Nat}{x:Int}:0≤max x ((a:Int)+(b:Int)):=li 2 [] (Zl (.l 0) (.mx W0 (.a (.c V0) (.c V1)))) [a,b] [x]
theorem Pr{a b:Nat}{x:Int}:x≤max x ((a:Int)+(b:Int)):=li 2 [] (Zl W0 (.mx W0 (.a (.c V0) (.c V1)))) [a,b] [x]
theorem Pq{a b c:Nat}{x:Int}:(a:Int)=(b:Int)+(c:Int)→(a:Int)≤max x ((b:Int)+(c:Int)):=li 3 [Zq (.c V0) (.a (.c V1) (.c V2))] (Zl (.c V0) (.mx W0 (.a (.c V1) (.c V2)))) [a,b,c] [x]
theorem Pp{a b c:Nat}{x:Int}:(a:Int)=(b:Int)+(c:Int)→x≤(b:Int)+(c:Int)→max x ((b:Int)+(c:Int))=(a:Int):=li 3 [Zq (.c V0) (.a (.c V1) (.c V2)),Zl W0 (.a (.c V1) (.c V2))] (Zq (.mx W0 (.a (.c V1) (.c V2))) (.c V0)) [a,b,c] [x]
theorem Po{a b:Nat}{x:Int}:¬(x≤(a:Int)+(b:Int))→max x ((a:Int)+(b:Int))=x:=li 2 [.no (Zl W0 (.a (.c V0) (.c V1)))] (Zq (.mx W0 (.a (.c V0) (.c V1))) W0) [a,b] [x]
theorem Pn{a b:Nat}(h0:a<b):a<Int.toNat (b:Int):=by simp_all
theorem Pm{a:Nat}:¬(1≤a∧a<0+1):=li 1 [] (.no (.an (Nl (.l 1) V0) (Nt V0 (.a (.l 0) (.l 1))))) [a] []
theorem Pl{a b:Nat}:a<Int.toNat ((b:Int)-1)→a+1<b:=li 2 [Nt V0 (.t (.s (.c V1) (.l 1)))] (Nt (.a V0 (.l 1)) V1) [a,b] []
theorem Pk{a:Nat}:0≤1+(a:Int)-1:=li 1 [] (Zl (.l 0) (.s (.a (.l 1) (.c V0)) (.l 1))) [a] []
theorem Pj{a b:Nat}:a+1<b→1+(a:Int)-1<(b:Int):=li 2 [Nt (.a V0 (.l 1)) V1] (Zt (.s (.a (.l 1) (.c V0)) (.l 1)) (.c V1)) [a,b] []
theorem Ph{a:Nat}:Int.toNat (1+(a:Int)-1)=a:=li 1 [] (Nq (.t (.s (.a (.l 1) (.c V0)) (.l 1))) V0) [a] []
theorem Pg{a b:Nat}:a≤50→b+1<a→(-9223372036854775808:Int)≤1+(b:Int)-1∧1+(b:Int)-1<9223372036854775808:=li 2 [Nl V0 (.l 50),Nt (.a V1 (.l 1)) V0] (.an (Zl (.g (.l 9223372036854775808)) (.s (.a (.l 1) (.c V1)) (.l 1))) (Zt (.s (.a (.l 1) (.c V1)) (.l 1)) (.l 9223372036854775808))) [a,b] []
theorem Pf{a:Nat}:0≤1+(a:Int):=Int.natCast_nonneg _
theorem Pd{a b:Nat}:a+1<b→1+(a:Int)<(b:Int):=li 2 [Nt (.a V0 (.l 1)) V1] (Zt (.a (.l 1) (.c V0)) (.c V1)) [a,b] []
theorem Pc{a:Nat}:Int.toNat (1+(a:Int))=a+1:=li 1 [] (Nq (.t (.a (.l 1) (.c V0))) (.a V0 (.l 1))) [a] []
theorem Pa{a b:Nat}:a≤50→b+1<a→(-9223372036854775808:Int)≤1+(b:Int)∧1+(b:Int)<9223372036854775808:=li 2 [Nl V0 (.l 50),Nt (.a V1 (.l 1)) V0] (.an (Zl (.g (.l 9223372036854775808)) (.a (.l 1) (.c V1))) (Zt (.a (.l 1) (.c V1)) (.l 9223372036854775808))) [a,b] []
theorem O9{a b:Nat}:1≤a∧a<b+1+1↔1≤a∧a<b+1∨a=b+1:=li 2 [] (.ii (.an (Nl (.l 1) V1) (Nt V1 (.a (.a V0 (.l 1)) (.l 1)))) (.or (.an (Nl (.l 1) V1) (Nt V1 (.a V0 (.l 1)))) (Nq V1 (.a V0 (.l 1))))) [b,a] []
theorem O8{a b:Nat}:a<b→(a<b↔1≤a∧a<Int.toNat ((b:Int)-1)+1∨a=0):=li 2 [Nt V1 V0] (.ii (Nt V1 V0) (.or (.an (Nl (.l 1) V1) (Nt V1 (.a (.t (.s (.c V0) (.l 1))) (.l 1)))) (Nq V1 (.l 0)))) [b,a] []
theorem O7{a:Nat}{x:Int}(h0:x<(a:Int)):¬(¬(x<(a:Int)+1-1)):=by simp_all
theorem O6{a b:Nat}:a<40→b=a→b≤39:=li 2 [Nt V0 (.l 40),Nq V1 V0] (Nl V1 (.l 39)) [a,b] []
theorem O5{a b c:Nat}{x:Int}:x=(a:Int)→b=c→a≤b→(c:Int)≤x→x=(b:Int):=li 3 [Zq W0 (.c V2),Nq V1 V0,Nl V2 V1,Zl (.c V0) W0] (Zq W0 (.c V1)) [c,b,a] [x]
theorem O4{a b:Nat}(h0:a≤40)(h1:b≤a):b≤40:=Nat.le_trans h1 h0
theorem O3{a b c:Nat}:a≤40→b=c→c≤a→b≤40:=li 3 [Nl V0 (.l 40),Nq V1 V2,Nl V2 V0] (Nl V1 (.l 40)) [a,b,c] []
theorem As{a:Nat}(h0:a<a):False:=Nat.lt_irrefl _ h0
theorem Ar{x:Int}(h0:0≤x∧x<x):False:=by simp_all
theorem O2{a b c:Nat}:a+(b+1)≤39→c=a→c+1≤40:=li 3 [Nl (.a V0 (.a V1 (.l 1))) (.l 39),Nq V2 V0] (Nl (.a V2 (.l 1)) (.l 40)) [a,b,c] []
theorem O1{a b c:Nat}:a+b≤39→c≤a→c+b≤39:=li 3 [Nl (.a V0 V1) (.l 39),Nl V2 V0] (Nl (.a V2 V1) (.l 39)) [a,b,c] []
theorem Aq{a b c:Nat}:a+(b+1)≤40→c≤a+1→c+b≤40:=li 3 [Nl (.a V0 (.a V1 (.l 1))) (.l 40),Nl V2 (.a V0 (.l 1))] (Nl (.a V2 V1) (.l 40)) [a,b,c] []
theorem O0{a b:Nat}:a+(b+1)≤39→a+1+b≤39:=li 2 [Nl (.a V0 (.a V1 (.l 1))) (.l 39)] (Nl (.a (.a V0 (.l 1)) V1) (.l 39)) [a,b] []
theorem OZ{a:Nat}:1≤a+1:=by simp_all
theorem OY{x y:Int}(h0:(1:Nat)≤0):x=y:=by simp_all
theorem OX{a:Nat}(h0:1≤a):a-1+1=a:=by simp_all
theorem Ap{a b:Nat}:a+9*(b+1)≤9000→a+9*b≤9000:=li 2 [Nl (.a V0 (.u 9 (.a V1 (.l 1)))) (.l 9000)] (Nl (.a V0 (.u 9 V1)) (.l 9000)) [a,b] []
theorem OW{x y z u v w:Int}:¬(x<y∨x=y∧z<u)→v<y∨v=y∧w<u→¬(x<v∨x=v∧z<w):=li 0 [.no (.or (Zt W0 W1) (.an (Zq W0 W1) (Zt W2 (.w 3)))),.or (Zt (.w 4) W1) (.an (Zq (.w 4) W1) (Zt (.w 5) (.w 3)))] (.no (.or (Zt W0 (.w 4)) (.an (Zq W0 (.w 4)) (Zt W2 (.w 5))))) [] [x,y,z,u,v,w]
theorem Ao{x y:Int}:0≤x→y=x→0≤y∧y<x+1:=li 0 [Zl (.l 0) W0,Zq W1 W0] (.an (Zl (.l 0) W1) (Zt W1 (.a W0 (.l 1)))) [] [x,y]
theorem An{x y:Int}:0≤x∧x<y→0≤x∧x<y+1:=li 0 [.an (Zl (.l 0) W0) (Zt W0 W1)] (.an (Zl (.l 0) W0) (Zt W0 (.a W1 (.l 1)))) [] [x,y]
theorem OV{a b c d e:Nat}:a≤40→b=c→c≤d→e=a→d≤e→b≤40:=li 5 [Nl V0 (.l 40),Nq V3 V4,Nl V4 V2,Nq V1 V0,Nl V2 V1] (Nl V3 (.l 40)) [a,e,d,b,c] []
theorem OU{a b c d:Nat}(h0:a=b)(h1:b≤c)(h2:c=d):a≤d:=by simp_all
theorem lK{a:Nat}(h0:0<a):0<(a:Int):=by simp_all
theorem OS{a:Nat}:0<a→0≤(-1:Int)+(a:Int):=li 1 [Nt (.l 0) V0] (Zl (.l 0) (.a (.g (.l 1)) (.c V0))) [a] []
theorem OR{a:Nat}:0<a→Int.toNat ((-1:Int)+(a:Int))<a:=li 1 [Nt (.l 0) V0] (Nt (.t (.a (.g (.l 1)) (.c V0))) V0) [a] []
theorem OQ{a:Nat}:0<a→¬((a:Int)=0):=li 1 [Nt (.l 0) V0] (.no (Zq (.c V0) (.l 0))) [a] []
theorem OP{a:Nat}{x:Int}(h0:0<a)(h1:(x / 7) % (a:Int)<(a:Int)):Int.toNat ((x / 7) % (a:Int))<a:=by simp_all
theorem OO{a:Nat}{x:Int}:a≤100→0≤(x / 7) % (a:Int)→(x / 7) % (a:Int)<(a:Int)→(-9223372036854775808:Int)≤(x / 7) % (a:Int)∧(x / 7) % (a:Int)<9223372036854775808:=li 1 [Nl V0 (.l 100),Zl (.l 0) W0,Zt W0 (.c V0)] (.an (Zl (.g (.l 9223372036854775808)) W0) (Zt W0 (.l 9223372036854775808))) [a] [(x / 7) % (a:Int)]
theorem ON{a b c:Nat}:a≤100→1000000≤b→c=a→c≤b:=li 3 [Nl V0 (.l 100),Nl (.l 1000000) V1,Nq V2 V0] (Nl V2 V1) [a,b,c] []
theorem OM:(2:Nat)≤2:=Nat.le_refl _
theorem Am{a b:Nat}:a<39→1000000≤b→a≤b:=li 2 [Nt V0 (.l 39),Nl (.l 1000000) V1] (Nl V0 V1) [a,b] []
theorem vE{a b:Nat}(h0:a<39)(h1:1000000≤b):a+1≤b:=Nat.le_trans h0 (Nat.le_trans (by decide) h1)
theorem OL{a:Nat}(h0:a<39):a<40:=Nat.le_succ_of_le h0
theorem OJ{a b:Nat}:1000000≤a→b≤41→b+1≤a:=li 2 [Nl (.l 1000000) V0,Nl V1 (.l 41)] (Nl (.a V1 (.l 1)) V0) [a,b] []
theorem OI{a:Nat}{x:Int}(h0:((a+1:Nat):Int)-1≤x):(a:Int)≤x:=by simp_all
theorem OH{a:Nat}:1≤a→0≤(-1:Int)+(a:Int):=li 1 [Nl (.l 1) V0] (Zl (.l 0) (.a (.g (.l 1)) (.c V0))) [a] []
theorem vC{a:Nat}:Int.toNat ((-1:Int)+(a:Int))=a-1:=li 1 [] (Nq (.t (.a (.g (.l 1)) (.c V0))) (.s V0 (.l 1))) [a] []
theorem OG{a:Nat}(h0:a<39):a+1≤60:=Nat.le_trans h0 (by decide)
theorem OF{a b:Nat}(h0:1000000≤a)(h1:b≤60):b≤a:=Nat.le_trans h1 (Nat.le_trans (by decide) h0)
theorem OE{a:Nat}{x:Int}(h0:x=(a:Int)):0≤x:=by simp_all
theorem OD{a:Nat}{x:Int}(h0:x=(a:Int)):Int.toNat x=a:=by simp_all
theorem OC{a:Nat}{x:Int}:(a:Int)≤x→a≤Int.toNat x:=li 1 [Zl (.c V0) W0] (Nl V0 (.t W0)) [a] [x]
theorem Al{a:Nat}{x:Int}(h0:¬(((a+1:Nat):Int)-1≤x)):x<(a:Int):=by simp_all
theorem OB{x y:Int}:0≤x→y≤x→((Int.toNat y:Nat):Int)≤x:=li 0 [Zl (.l 0) W0,Zl W1 W0] (Zl (.c (.t W1)) W0) [] [x,y]
theorem OA{x y:Int}:¬(x≤y)→y<((Int.toNat x:Nat):Int):=li 0 [.no (Zl W0 W1)] (Zt W1 (.c (.t W0))) [] [x,y]
theorem Ak:(1:Nat)≤5:=by decide
theorem Oz:(5:Nat)≤5:=Nat.le_refl _
theorem kd{a b c:Nat}:1000000≤a→b+c≤39→b≤a:=li 3 [Nl (.l 1000000) V0,Nl (.a V1 V2) (.l 39)] (Nl V1 V0) [a,b,c] []
theorem Oy{a b:Nat}:a+b≤39→(a:Int)<1073741824:=li 2 [Nl (.a V0 V1) (.l 39)] (Zt (.c V0) (.l 1073741824)) [a,b] []
theorem Ox{a:Nat}{x:Int}:(a:Int)=x→0≤x:=li 1 [Zq (.c V0) W0] (Zl (.l 0) W0) [a] [x]
theorem Aj{a b:Nat}:1000000≤a→b≤50→b+1≤a:=li 2 [Nl (.l 1000000) V0,Nl V1 (.l 50)] (Nl (.a V1 (.l 1)) V0) [a,b] []
theorem Ow{a b c:Nat}:a<b→c<a→c<b:=li 3 [Nt V0 V1,Nt V2 V0] (Nt V2 V1) [a,b,c] []
theorem Ai{a b:Nat}(h0:1000000≤a)(h1:b≤41):b≤a:=Nat.le_trans h1 (Nat.le_trans (by decide) h0)
theorem Ov{a:Nat}{x y:Int}:x<y+(a:Int)→x<(a:Int)+y:=li 1 [Zt W0 (.a W1 (.c V0))] (Zt W0 (.a (.c V0) W1)) [a] [x,y]
theorem rH{a:Nat}(h0:0<a)(h1:0=a):False:=by simp_all
theorem Ah:(2:Nat)≤6:=by decide
theorem Ag:(4:Nat)≤6:=by decide
theorem Ou:(5:Nat)≤6:=by decide
theorem Af:(6:Nat)≤6:=Nat.le_refl _
theorem Ot{z0:Int}{z1:Int}{z2:Int}(h0:(((z0 % (3:Int))=(1:Int))∧((z1≤z2)∧True))):(¬(z2<z1)):=by simp_all
theorem Oq{z0:Int}{n1:Nat}(h0:(((z0 % (3:Int))=(2:Int))∧(((1:Int)<((n1:Nat):Int))∧True)))(h1:(n1≤(1:Nat))):False:=by lia
theorem Oo:(3:Nat)≤5:=by decide
theorem Om{a:Nat}:0≤a+5:=Nat.zero_le _
theorem Ol{a b:Nat}(h0:a<Int.toNat ((b:Int)+5)):a<b+5:=h0
theorem Oj{a b:Nat}:a≤13→b<a+5→26-b=25-b+1:=li 2 [Nl V1 (.l 13),Nt V0 (.a V1 (.l 5))] (Nq (.s (.l 26) V0) (.a (.s (.l 25) V0) (.l 1))) [b,a] []
theorem Oi{a b:Nat}:26-a=b+1→26-(a+1)=b:=li 2 [Nq (.s (.l 26) V1) (.a V0 (.l 1))] (Nq (.s (.l 26) (.a V1 (.l 1))) V0) [b,a] []
theorem Oh{a:Nat}:0≤(a:Int)∧(a:Int)≤(a:Int):=by simp_all
theorem Og{a:Nat}:0≤(a:Int) / 2∧(a:Int) / 2≤(a:Int):=by lia
theorem Of{a:Nat}:0≤(a:Int)+1∧(a:Int)+1≤(a:Int)→False:=li 1 [.an (Zl (.l 0) (.a (.c V0) (.l 1))) (Zl (.a (.c V0) (.l 1)) (.c V0))] .fa [a] []
theorem Oe{a b:Nat}:a≤13→b<a+5→(b:Int)+1<1073741824:=li 2 [Nl V0 (.l 13),Nt V1 (.a V0 (.l 5))] (Zt (.a (.c V1) (.l 1)) (.l 1073741824)) [a,b] []
theorem Ae{a b:Nat}:a+9*(b+1)≤9000→a≤10000:=li 2 [Nl (.a V0 (.u 9 (.a V1 (.l 1)))) (.l 9000)] (Nl V0 (.l 10000)) [a,b] []
theorem Ad{a b c:Nat}:1000000≤a→b+(c+1)≤40→b≤a:=li 3 [Nl (.l 1000000) V0,Nl (.a V1 (.a V2 (.l 1))) (.l 40)] (Nl V1 V0) [a,b,c] []
theorem Od{a b:Nat}:a+9*(b+1)≤9000→a≤100000:=li 2 [Nl (.a V0 (.u 9 (.a V1 (.l 1)))) (.l 9000)] (Nl V0 (.l 100000)) [a,b] []
theorem Oc{a b c:Nat}:a+9*(b+1)≤9000→c≤a+9→c≤100000:=li 3 [Nl (.a V0 (.u 9 (.a V1 (.l 1)))) (.l 9000),Nl V2 (.a V0 (.l 9))] (Nl V2 (.l 100000)) [a,b,c] []
theorem Ob{a b c:Nat}:1000000≤a→b+(c+1)≤39→b≤a:=li 3 [Nl (.l 1000000) V0,Nl (.a V1 (.a V2 (.l 1))) (.l 39)] (Nl V1 V0) [a,b,c] []
theorem vB{a b:Nat}:a+(b+1)≤39→a<40:=li 2 [Nl (.a V0 (.a V1 (.l 1))) (.l 39)] (Nt V0 (.l 40)) [a,b] []
theorem rG{a b c:Nat}:a+9*(b+1)≤9000→c≤a+9→c≤20000:=li 3 [Nl (.a V0 (.u 9 (.a V1 (.l 1)))) (.l 9000),Nl V2 (.a V0 (.l 9))] (Nl V2 (.l 20000)) [a,b,c] []
theorem Oa{a:Nat}{x:Int}:0≤x∧x≤(a:Int)∨x=(a:Int)+1↔0≤x∧x≤((a+1:Nat):Int):=li 1 [] (.ii (.or (.an (Zl (.l 0) W0) (Zl W0 (.c V0))) (Zq W0 (.a (.c V0) (.l 1)))) (.an (Zl (.l 0) W0) (Zl W0 (.c (.a V0 (.l 1)))))) [a] [x]
theorem Ac{a b c:Nat}:a+9*(b+1)≤9000→c≤a+9→c+9*b≤9000:=li 3 [Nl (.a V0 (.u 9 (.a V1 (.l 1)))) (.l 9000),Nl V2 (.a V0 (.l 9))] (Nl (.a V2 (.u 9 V1)) (.l 9000)) [a,b,c] []
theorem N9{a:Nat}:0≤(a:Int)+1:=Int.natCast_nonneg _
theorem N8{a b:Nat}(h0:a<b+5):a+1≤b+5:=h0
theorem N7{a b c:Nat}:1000000≤a→b+(c+1)≤39→b+1≤a:=li 3 [Nl (.l 1000000) V0,Nl (.a V1 (.a V2 (.l 1))) (.l 39)] (Nl (.a V1 (.l 1)) V0) [a,b,c] []
theorem rF{a b c:Nat}:a+(b+1)≤39→c=a→c<40:=li 3 [Nl (.a V0 (.a V1 (.l 1))) (.l 39),Nq V2 V0] (Nt V2 (.l 40)) [a,b,c] []
theorem N6{a b:Nat}:¬((a:Int)<(b:Int)+1-1)→(b:Int)≤(a:Int):=li 2 [.no (Zt (.c V0) (.s (.a (.c V1) (.l 1)) (.l 1)))] (Zl (.c V1) (.c V0)) [a,b] []
theorem N5{a:Nat}:Int.toNat ((a:Int)+5)=a+5:=li 1 [] (Nq (.t (.a (.c V0) (.l 5))) (.a V0 (.l 5))) [a] []
theorem N0{a:Nat}:a≤13→8≤26-(a+5):=li 1 [Nl V0 (.l 13)] (Nl (.l 8) (.s (.l 26) (.a V0 (.l 5)))) [a] []
theorem NZ{a:Nat}:(0:Int)≤0∧0≤((a+5:Nat):Int):=li 1 [] (.an (Zl (.l 0) (.l 0)) (Zl (.l 0) (.c (.a V0 (.l 5))))) [a] []
theorem NY{a b:Nat}{x y:Int}:(a:Int)=x+1→(b:Int)=y+1→(b:Int)≤x+1→(a:Int)≤y+1→y=x:=li 2 [Zq (.c V0) (.a W0 (.l 1)),Zq (.c V1) (.a W1 (.l 1)),Zl (.c V1) (.a W0 (.l 1)),Zl (.c V0) (.a W1 (.l 1))] (Zq W1 W0) [a,b] [x,y]
theorem vA{a:Nat}(h0:a≤600):a≤20000:=Nat.le_trans h0 (by decide)
theorem NX:(0:Int)≤0∧(0:Int)<1:=by decide
theorem NW{a:Nat}:a≤600→a+9*26≤9000:=li 1 [Nl V0 (.l 600)] (Nl (.a V0 (.u 9 (.l 26))) (.l 9000)) [a] []
theorem NV{x y z u v w:Int}:¬(x<y∨x=y∧z<u)→x<v∨x=v∧z<w→¬(v<y∨v=y∧w<u):=li 0 [.no (.or (Zt W0 W1) (.an (Zq W0 W1) (Zt W2 (.w 3)))),.or (Zt W0 (.w 4)) (.an (Zq W0 (.w 4)) (Zt W2 (.w 5)))] (.no (.or (Zt (.w 4) W1) (.an (Zq (.w 4) W1) (Zt (.w 5) (.w 3))))) [] [x,y,z,u,v,w]
theorem rE{a b:Nat}:a+9*b≤9000→a≤20000:=li 2 [Nl (.a V0 (.u 9 V1)) (.l 9000)] (Nl V0 (.l 20000)) [a,b] []
theorem NT:(1:Nat)≤6:=by decide
theorem NS:(3:Nat)≤6:=by decide
theorem NR{a b c:Nat}:a+(b+1)≤39→c=a+1→c+b≤39:=li 3 [Nl (.a V0 (.a V1 (.l 1))) (.l 39),Nq V2 (.a V0 (.l 1))] (Nl (.a V2 V1) (.l 39)) [a,b,c] []
theorem Ab{a:Nat}(h0:a≤6):a<64:=Nat.lt_of_le_of_lt h0 (by decide)
theorem NQ{x:Int}:7+x % 7=((Int.toNat (7+x % 7):Nat):Int):=(li 0 [Zl (.l 0) W0,Zt W0 (.l 7)] (Zq (.a (.l 7) W0) (.c (.t (.a (.l 7) W0)))) [] [x % 7]) (jn _ 7) (jm _ 7)
theorem NP{x:Int}:Int.toNat (7+x % 7)≤13:=(li 0 [Zl (.l 0) W0,Zt W0 (.l 7)] (Nl (.t (.a (.l 7) W0)) (.l 13)) [] [x % 7]) (jn _ 7) (jm _ 7)
theorem NO{a:Nat}{x:Int}:7+x % 7=(a:Int)→(a:Int)≤1000:=(li 1 [Zl (.l 0) W0,Zt W0 (.l 7),Zq (.a (.l 7) W0) (.c V0)] (Zl (.c V0) (.l 1000)) [a] [x % 7]) (jn _ 7) (jm _ 7)
theorem NN{x:Int}:x=0↔0≤x∧x≤0:=li 0 [] (.ii (Zq W0 (.l 0)) (.an (Zl (.l 0) W0) (Zl W0 (.l 0)))) [] [x]
theorem vz{a:Nat}:1000000≤a→6≤a:=li 1 [Nl (.l 1000000) V0] (Nl (.l 6) V0) [a] []
theorem NM{a:Nat}:0≤(a:Int)+5:=Int.natCast_nonneg _
theorem NL{x:Int}:0≤x % 7∧x % 7≤1000:=(li 0 [Zl (.l 0) W0,Zt W0 (.l 7)] (.an (Zl (.l 0) W0) (Zl W0 (.l 1000))) [] [x % 7]) (jn _ 7) (jm _ 7)
theorem NK:(8:Nat)≤26:=by decide
theorem NJ{a:Nat}{x:Int}:(a:Int)-1≤x→(a:Int)≤x+1:=li 1 [Zl (.s (.c V0) (.l 1)) W0] (Zl (.c V0) (.a W0 (.l 1))) [a] [x]
theorem NI{a:Nat}{x:Int}:(a:Int)-1=x→(a:Int)=x+1:=li 1 [Zq (.s (.c V0) (.l 1)) W0] (Zq (.c V0) (.a W0 (.l 1))) [a] [x]
theorem NH{a:Nat}{x:Int}:(a:Int)-1=x→1≤a→0≤x:=li 1 [Zq (.s (.c V0) (.l 1)) W0,Nl (.l 1) V0] (Zl (.l 0) W0) [a] [x]
theorem NG{a:Nat}{x:Int}:(a:Int)-1=x→a≤41→x≤60:=li 1 [Zq (.s (.c V0) (.l 1)) W0,Nl V0 (.l 41)] (Zl W0 (.l 60)) [a] [x]
theorem NF{x:Int}:x % 3=((Int.toNat (x % 3):Nat):Int):=(li 0 [Zl (.l 0) W0,Zt W0 (.l 3)] (Zq W0 (.c (.t W0))) [] [x % 3]) (jn _ 3) (jm _ 3)
theorem ND{x:Int}:Int.toNat (x % 3)<3:=(li 0 [Zl (.l 0) W0,Zt W0 (.l 3)] (Nt (.t W0) (.l 3)) [] [x % 3]) (jn _ 3) (jm _ 3)
theorem NC{x:Int}(h0:x≤60):x≤1000:=Int.le_trans h0 (by decide)
theorem NB{x:Int}:x≤60→x+1≤1000:=li 0 [Zl W0 (.l 60)] (Zl (.a W0 (.l 1)) (.l 1000)) [] [x]
theorem NA{a:Nat}{x:Int}:(a:Int)≤x+1→(a:Int)≤x+1+1:=li 1 [Zl (.c V0) (.a W0 (.l 1))] (Zl (.c V0) (.a (.a W0 (.l 1)) (.l 1))) [a] [x]
theorem Nz:(0:Int)≤1000:=Int.natCast_nonneg _
theorem Ny:(1000:Int)≤1000:=Int.natCast_nonneg _
theorem Nx{a:Nat}{x:Int}:x≤60→(a:Int)≤x+1→(a:Int)≤1000+1:=li 1 [Zl W0 (.l 60),Zl (.c V0) (.a W0 (.l 1))] (Zl (.c V0) (.a (.l 1000) (.l 1))) [a] [x]
theorem Nw{a:Nat}{x:Int}:x % 3=(a:Int)→(a:Int)<3:=(li 1 [Zl (.l 0) W0,Zt W0 (.l 3),Zq W0 (.c V0)] (Zt (.c V0) (.l 3)) [a] [x % 3]) (jn _ 3) (jm _ 3)
theorem Nv{a:Nat}{x:Int}:x % 3=(a:Int)→(-9223372036854775808:Int)≤(a:Int)∧(a:Int)<9223372036854775808:=(li 1 [Zl (.l 0) W0,Zt W0 (.l 3),Zq W0 (.c V0)] (.an (Zl (.g (.l 9223372036854775808)) (.c V0)) (Zt (.c V0) (.l 9223372036854775808))) [a] [x % 3]) (jn _ 3) (jm _ 3)
theorem Aa{a b:Nat}:0<a→b=a→0≤(-1:Int)+(b:Int):=li 2 [Nt (.l 0) V0,Nq V1 V0] (Zl (.l 0) (.a (.g (.l 1)) (.c V1))) [a,b] []
theorem Nu{a:Nat}:a≤6→a+8≤40:=li 1 [Nl V0 (.l 6)] (Nl (.a V0 (.l 8)) (.l 40)) [a] []
theorem Nr{a:Nat}:a≤600→a+9*8≤9000:=li 1 [Nl V0 (.l 600)] (Nl (.a V0 (.u 9 (.l 8))) (.l 9000)) [a] []
theorem Np{a:Nat}:a≤6→a+8≤39:=li 1 [Nl V0 (.l 6)] (Nl (.a V0 (.l 8)) (.l 39)) [a] []
theorem Nn{x y:Int}:0≤x→x≤y→0≤x∧x<y+1:=li 0 [Zl (.l 0) W0,Zl W0 W1] (.an (Zl (.l 0) W0) (Zt W0 (.a W1 (.l 1)))) [] [x,y]
theorem Nm:(1:Nat)≤39:=by decide
theorem Nk:(2:Nat)≤39:=by decide
theorem Nj:(3:Nat)≤39:=by decide
theorem Ni:(4:Nat)≤39:=by decide
theorem Nh:(5:Nat)≤39:=by decide
theorem Ng:(6:Nat)≤39:=by decide
theorem Nf:(7:Nat)≤39:=by decide
theorem Nd{a b:Nat}:a+12*39+200<b→a+400<b:=li 2 [Nt (.a (.a V0 (.u 12 (.l 39))) (.l 200)) V1] (Nt (.a V0 (.l 400)) V1) [a,b] []
theorem Na{x:Int}:1+x % 6=((Int.toNat (1+x % 6):Nat):Int):=(li 0 [Zl (.l 0) W0,Zt W0 (.l 6)] (Zq (.a (.l 1) W0) (.c (.t (.a (.l 1) W0)))) [] [x % 6]) (jn _ 6) (jm _ 6)
theorem M9{x:Int}:1≤Int.toNat (1+x % 6):=(li 0 [Zl (.l 0) W0,Zt W0 (.l 6)] (Nl (.l 1) (.t (.a (.l 1) W0))) [] [x % 6]) (jn _ 6) (jm _ 6)
theorem M8{x:Int}:Int.toNat (1+x % 6)≤6:=(li 0 [Zl (.l 0) W0,Zt W0 (.l 6)] (Nl (.t (.a (.l 1) W0)) (.l 6)) [] [x % 6]) (jn _ 6) (jm _ 6)
theorem M7{a:Nat}{x:Int}:1+x % 6=(a:Int)→a≤100:=(li 1 [Zl (.l 0) W0,Zt W0 (.l 6),Zq (.a (.l 1) W0) (.c V0)] (Nl V0 (.l 100)) [a] [x % 6]) (jn _ 6) (jm _ 6)
theorem M6{a:Nat}{x:Int}:1+x % 6=(a:Int)→a≤14:=(li 1 [Zl (.l 0) W0,Zt W0 (.l 6),Zq (.a (.l 1) W0) (.c V0)] (Nl V0 (.l 14)) [a] [x % 6]) (jn _ 6) (jm _ 6)
theorem M5{a:Nat}{x:Int}:1+x % 6=(a:Int)→0=a→False:=(li 1 [Zl (.l 0) W0,Zt W0 (.l 6),Zq (.a (.l 1) W0) (.c V0),Nq (.l 0) V0] .fa [a] [x % 6]) (jn _ 6) (jm _ 6)
theorem M4{a b:Nat}{x:Int}:1+x % 6=(a:Int)→b=a→b≤6:=(li 2 [Zl (.l 0) W0,Zt W0 (.l 6),Zq (.a (.l 1) W0) (.c V1),Nq V0 V1] (Nl V0 (.l 6)) [b,a] [x % 6]) (jn _ 6) (jm _ 6)
theorem M3{a:Nat}(h0:0=a)(h1:0<a):False:=by simp_all
theorem M1{a:Nat}:a+8≤39→a<64:=li 1 [Nl (.a V0 (.l 8)) (.l 39)] (Nt V0 (.l 64)) [a] []
theorem MZ{a b:Nat}:min (a:Int) (max 0 ((b:Int)-21) / 2)=((Int.toNat (min (a:Int) (max 0 ((b:Int)-21) / 2)):Nat):Int):=(li 1 [Zl (.l 0) W0] (Zq (.mn (.c V0) W0) (.c (.t (.mn (.c V0) W0)))) [a] [max 0 ((b:Int)-21) / 2]) (lm2 _ 2)
theorem MX{a b:Nat}:a≤8→Int.toNat (min (a:Int) (max 0 ((b:Int)-21) / 2))≤8:=(li 1 [Zl (.l 0) W0,Nl V0 (.l 8)] (Nl (.t (.mn (.c V0) W0)) (.l 8)) [a] [max 0 ((b:Int)-21) / 2]) (lm2 _ 2)
theorem MW{a b:Nat}:a≤8→b<a→8-b=7-b+1:=li 2 [Nl V1 (.l 8),Nt V0 V1] (Nq (.s (.l 8) V0) (.a (.s (.l 7) V0) (.l 1))) [b,a] []
theorem MV{a b:Nat}:8-a=b+1→8-(a+1)=b:=li 2 [Nq (.s (.l 8) V1) (.a V0 (.l 1))] (Nq (.s (.l 8) (.a V1 (.l 1))) V0) [b,a] []
theorem rC{a:Nat}:0≤21+2*(a:Int):=Int.natCast_nonneg _
theorem MU{a b c:Nat}:a≤8→b<a→c≤b→c≤100:=li 3 [Nl V0 (.l 8),Nt V1 V0,Nl V2 V1] (Nl V2 (.l 100)) [a,b,c] []
theorem MT{a b:Nat}:a+(b+1)≤39→a<64:=li 2 [Nl (.a V0 (.a V1 (.l 1))) (.l 39)] (Nt V0 (.l 64)) [a,b] []
theorem MS{a b c:Nat}:a+(b+1)≤39→c=a→c≤100:=li 3 [Nl (.a V0 (.a V1 (.l 1))) (.l 39),Nq V2 V0] (Nl V2 (.l 100)) [a,b,c] []
theorem MR{a b c d:Nat}:1000000≤a→b+(c+1)≤39→d=b→d≤a:=li 4 [Nl (.l 1000000) V0,Nl (.a V2 (.a V1 (.l 1))) (.l 39),Nq V3 V2] (Nl V3 V0) [a,c,b,d] []
theorem MQ{a b:Nat}:a+400<b→a+4<b:=li 2 [Nt (.a V0 (.l 400)) V1] (Nt (.a V0 (.l 4)) V1) [a,b] []
theorem MP{a:Nat}:0≤22+2*(a:Int):=Int.natCast_nonneg _
theorem MO{x:Int}(h0:0≤x+1∧x+1<x+1):False:=by simp_all
theorem MN{a b:Nat}:a+(b+1)≤39→a<39:=li 2 [Nl (.a V0 (.a V1 (.l 1))) (.l 39)] (Nt V0 (.l 39)) [a,b] []
theorem MM{a b c:Nat}:a≤8→b≤a→c≤b→c≤100:=li 3 [Nl V0 (.l 8),Nl V1 V0,Nl V2 V1] (Nl V2 (.l 100)) [a,b,c] []
theorem q0{A B:Sort _}{p q r:A→B→Prop}{G:Prop}(z:∃a b,p a b∧q a b∧r a b)(k:∀a b,p a b→q a b→r a b→G):G:=Exists.elim z fun a z=>Exists.elim z fun b z=>(k a b z.1 z.2.1 z.2.2)
theorem q1{A:Sort _}{p q r:A→Prop}{G:Prop}(z:∃a,p a∧q a∧r a)(k:∀a,p a→q a→r a→G):G:=Exists.elim z fun a z=>(k a z.1 z.2.1 z.2.2)
theorem q2{A:Sort _}{p q:A→Prop}{G:Prop}(z:∃a,p a∧q a)(k:∀a,p a→q a→G):G:=Exists.elim z fun a z=>(k a z.1 z.2)
theorem q3{p q:Prop}{G:Prop}(z:p∧q)(k:p→q→G):G:=(k z.1 z.2)
theorem q4{A:Sort _}{p:A→Prop}{G:Prop}(z:∃a,p a)(k:∀a,p a→G):G:=Exists.elim z fun a z=>(k a z)
theorem q5{A:Sort _}{p q r s:A→Prop}{G:Prop}(z:∃a,p a∧q a∧r a∧s a)(k:∀a,p a→q a→r a→s a→G):G:=Exists.elim z fun a z=>(k a z.1 z.2.1 z.2.2.1 z.2.2.2)
theorem q6{A B C:Sort _}{p q:A→B→C→Prop}{G:Prop}(z:∃a b c,p a b c∧q a b c)(k:∀a b c,p a b c→q a b c→G):G:=Exists.elim z fun a z=>Exists.elim z fun b z=>Exists.elim z fun c z=>(k a b c z.1 z.2)
theorem q7{A B C:Sort _}{p q r s:A→B→C→Prop}{G:Prop}(z:∃a b c,p a b c∧q a b c∧r a b c∧s a b c)(k:∀a b c,p a b c→q a b c→r a b c→s a b c→G):G:=Exists.elim z fun a z=>Exists.elim z fun b z=>Exists.elim z fun c z=>(k a b c z.1 z.2.1 z.2.2.1 z.2.2.2)
theorem q8{A B C:Sort _}{p q r:A→B→C→Prop}{G:Prop}(z:∃a b c,p a b c∧q a b c∧r a b c)(k:∀a b c,p a b c→q a b c→r a b c→G):G:=Exists.elim z fun a z=>Exists.elim z fun b z=>Exists.elim z fun c z=>(k a b c z.1 z.2.1 z.2.2)
theorem q9{A B:Sort _}{p q r:Prop}{s t:A→B→Prop}{G:Prop}(z:p∧q∧r∧∃a b,s a b∧t a b)(k:∀a b,p→q→r→s a b→t a b→G):G:=by
 obtain⟨h0,h1,h2,a,b,h5,h6⟩:=z;exact(k a b h0 h1 h2 h5 h6)
theorem uD{p q r s:Prop}{G:Prop}(z:p∧q∧r∧s)(k:p→q→r→s→G):G:=(k z.1 z.2.1 z.2.2.1 z.2.2.2)
theorem xZ{A:Sort _}{p:Prop}{q r:A→Prop}{G:Prop}(z:p∧∃a,q a∧r a)(k:∀a,p→q a→r a→G):G:=by
 obtain⟨h0,a,h2,h3⟩:=z;exact(k a h0 h2 h3)
theorem qK{A:Sort _}{p:Prop}{q:A→Prop}{G:Prop}(z:p∧∃a,q a)(k:∀a,p→q a→G):G:=by
 obtain⟨h0,a,h2⟩:=z;exact(k a h0 h2)
theorem X8{A B C D E:Sort _}{p:Prop}{q r s t u v w x y P:A→B→C→D→E→Prop}{G:Prop}(z:p∧∃a b c d e,q a b c d e∧r a b c d e∧s a b c d e∧t a b c d e∧u a b c d e∧v a b c d e∧w a b c d e∧x a b c d e∧y a b c d e∧P a b c d e)(k:∀a b c d e,p→q a b c d e→r a b c d e→s a b c d e→t a b c d e→u a b c d e→v a b c d e→w a b c d e→x a b c d e→y a b c d e→P a b c d e→G):G:=by
 obtain⟨h0,a,b,c,d,e,h6,h7,h8,h9,oW,tY,wH,GP,h14,h15⟩:=z;exact(k a b c d e h0 h6 h7 h8 h9 oW tY wH GP h14 h15)
theorem q14{A B:Sort _}{p:Prop}{q r s t u:A→B→Prop}{G:Prop}(z:p∧∃a b,q a b∧r a b∧s a b∧t a b∧u a b)(k:∀a b,p→q a b→r a b→s a b→t a b→u a b→G):G:=by
 obtain⟨h0,a,b,h3,h4,h5,h6,h7⟩:=z;exact(k a b h0 h3 h4 h5 h6 h7)
theorem q15{A B C D E:Sort _}{p:Prop}{q r s t u v:A→B→C→D→E→Prop}{G:Prop}(z:p∧∃a b c d e,q a b c d e∧r a b c d e∧s a b c d e∧t a b c d e∧u a b c d e∧v a b c d e)(k:∀a b c d e,p→q a b c d e→r a b c d e→s a b c d e→t a b c d e→u a b c d e→v a b c d e→G):G:=by
 obtain⟨h0,a,b,c,d,e,h6,h7,h8,h9,oW,tY⟩:=z;exact(k a b c d e h0 h6 h7 h8 h9 oW tY)
theorem q16{A:Sort _}{p q r:Prop}{s:A→Prop}{G:Prop}(z:p∧q∧r∧∃a,s a)(k:∀a,p→q→r→s a→G):G:=by
 obtain⟨h0,h1,h2,a,h4⟩:=z;exact(k a h0 h1 h2 h4)
theorem mL{A B:Sort _}{p:Prop}{q r s:A→B→Prop}{G:Prop}(z:p∧∃a b,q a b∧r a b∧s a b)(k:∀a b,p→q a b→r a b→s a b→G):G:=by
 obtain⟨h0,a,b,h3,h4,h5⟩:=z;exact(k a b h0 h3 h4 h5)
theorem xY{A B:Sort _}{p:Prop}{q r s t:A→B→Prop}{G:Prop}(z:p∧∃a b,q a b∧r a b∧s a b∧t a b)(k:∀a b,p→q a b→r a b→s a b→t a b→G):G:=by
 obtain⟨h0,a,b,h3,h4,h5,h6⟩:=z;exact(k a b h0 h3 h4 h5 h6)
theorem i4{A B:Sort _}{p q:A→B→Prop}{G:Prop}(z:∃a b,p a b∧q a b)(k:∀a b,p a b→q a b→G):G:=Exists.elim z fun a z=>Exists.elim z fun b z=>(k a b z.1 z.2)
@[elab_as_elim] theorem q20{D0:Sort _}{A B C D:Sort _}{d0:D0}{u0:A→B→C→D→D0}{p q r:A→B→C→D→Prop}{G:D0→Prop}(z:∃a b c d,d0=(u0 a b c d)∧p a b c d∧q a b c d∧r a b c d)(k:∀a b c d,p a b c d→q a b c d→r a b c d→G (u0 a b c d)):G d0:=Exists.elim z fun a z=>Exists.elim z fun b z=>Exists.elim z fun c z=>Exists.elim z fun d z=>Eq.rec (motive:=fun dd _=>(G dd)) ((k a b c d z.2.1 z.2.2.1 z.2.2.2)) (z.1.symm)
theorem Hx{A B C D:Sort _}{p q r s:A→B→C→D→Prop}{G:Prop}(z:∃a b c d,p a b c d∧q a b c d∧r a b c d∧s a b c d)(k:∀a b c d,p a b c d→q a b c d→r a b c d→s a b c d→G):G:=Exists.elim z fun a z=>Exists.elim z fun b z=>Exists.elim z fun c z=>Exists.elim z fun d z=>(k a b c d z.1 z.2.1 z.2.2.1 z.2.2.2)
theorem q22{A B C D E:Sort _}{p:Prop}{q r s t u v w:A→B→C→D→E→Prop}{G:Prop}(z:p∧∃a b c d e,q a b c d e∧r a b c d e∧s a b c d e∧t a b c d e∧u a b c d e∧v a b c d e∧w a b c d e)(k:∀a b c d e,p→q a b c d e→r a b c d e→s a b c d e→t a b c d e→u a b c d e→v a b c d e→w a b c d e→G):G:=by
 obtain⟨h0,a,b,c,d,e,h6,h7,h8,h9,oW,tY,wH⟩:=z;exact(k a b c d e h0 h6 h7 h8 h9 oW tY wH)
theorem z5{A B:Sort _}{t0:B→A}{p:Prop}{q r s:A→B→Prop}{G:Prop}(z:p∧∃a b,q a b∧r a b∧a=(t0 b)∧s a b)(k:∀b,p→q (t0 b) b→r (t0 b) b→s (t0 b) b→G):G:=by
 obtain⟨h0,a,b,h3,h4,rfl,h6⟩:=z;exact(k b h0 h3 h4 h6)
theorem iz{p q r:Prop}{G:Prop}(z:p∧q∧r)(k:p→q→r→G):G:=(k z.1 z.2.1 z.2.2)
theorem vl{A B C:Sort _}{p q r s t u:A→B→C→Prop}{G:Prop}(z:∃a b c,p a b c∧q a b c∧r a b c∧s a b c∧t a b c∧u a b c)(k:∀a b c,p a b c→q a b c→r a b c→s a b c→t a b c→u a b c→G):G:=Exists.elim z fun a z=>Exists.elim z fun b z=>Exists.elim z fun c z=>(k a b c z.1 z.2.1 z.2.2.1 z.2.2.2.1 z.2.2.2.2.1 z.2.2.2.2.2)
theorem tv{A B:Sort _}{p q r s t:A→B→Prop}{G:Prop}(z:∃a b,p a b∧q a b∧r a b∧s a b∧t a b)(k:∀a b,p a b→q a b→r a b→s a b→t a b→G):G:=Exists.elim z fun a z=>Exists.elim z fun b z=>(k a b z.1 z.2.1 z.2.2.1 z.2.2.2.1 z.2.2.2.2)
theorem q27{A:Sort _}{p:Prop}{q r s:A→Prop}{G:Prop}(z:p∧∃a,q a∧r a∧s a)(k:∀a,p→q a→r a→s a→G):G:=by
 obtain⟨h0,a,h2,h3,h4⟩:=z;exact(k a h0 h2 h3 h4)
theorem Mz{A B C:Sort _}{p q r s t u v w:A→B→C→Prop}{G:Prop}(z:∃a b c,p a b c∧q a b c∧r a b c∧s a b c∧t a b c∧u a b c∧v a b c∧w a b c)(k:∀a b c,p a b c→q a b c→r a b c→s a b c→t a b c→u a b c→v a b c→w a b c→G):G:=Exists.elim z fun a z=>Exists.elim z fun b z=>Exists.elim z fun c z=>(k a b c z.1 z.2.1 z.2.2.1 z.2.2.2.1 z.2.2.2.2.1 z.2.2.2.2.2.1 z.2.2.2.2.2.2.1 z.2.2.2.2.2.2.2)
theorem X7{A B C D:Sort _}{t0:B→C→D→A}{p:Prop}{q r:A→B→Prop}{s t:A→B→C→D→Prop}{G:Prop}(z:p∧∃a b,q a b∧r a b∧∃c d,a=(t0 b c d)∧s a b c d∧t a b c d)(k:∀b c d,p→q (t0 b c d) b→r (t0 b c d) b→s (t0 b c d) b c d→t (t0 b c d) b c d→G):G:=by
 obtain⟨h0,a,b,h3,h4,c,d,rfl,h8,h9⟩:=z;exact(k b c d h0 h3 h4 h8 h9)
theorem vk{p q r s t u:Prop}{G:Prop}(z:p∧q∧r∧s∧t∧u)(k:p→q→r→s→t→u→G):G:=(k z.1 z.2.1 z.2.2.1 z.2.2.2.1 z.2.2.2.2.1 z.2.2.2.2.2)
theorem q32{A B C:Sort _}{t0:B→C→A}{p:Prop}{q r:A→B→Prop}{s t u:A→B→C→Prop}{G:Prop}(z:p∧∃a b,q a b∧r a b∧∃c,a=(t0 b c)∧s a b c∧t a b c∧u a b c)(k:∀b c,p→q (t0 b c) b→r (t0 b c) b→s (t0 b c) b c→t (t0 b c) b c→u (t0 b c) b c→G):G:=by
 obtain⟨h0,a,b,h3,h4,c,rfl,h7,h8,h9⟩:=z;exact(k b c h0 h3 h4 h7 h8 h9)
@[elab_as_elim] theorem VY{D0:Sort _}{A:Sort _}{d0:D0}{u0:A→D0}{G:D0→Prop}(z:∃a,d0=(u0 a))(k:∀a,G (u0 a)):G d0:=Exists.elim z fun a z=>Eq.rec (motive:=fun dd _=>(G dd)) ((k a)) (z.symm)
theorem q35{A B C D:Sort _}{t0:B→C→D→A}{p:Prop}{q r:A→B→Prop}{s t u v w x:A→B→C→D→Prop}{G:Prop}(z:p∧∃a b,q a b∧r a b∧∃c d,s a b c d∧a=(t0 b c d)∧t a b c d∧u a b c d∧v a b c d∧w a b c d∧x a b c d)(k:∀b c d,p→q (t0 b c d) b→r (t0 b c d) b→s (t0 b c d) b c d→t (t0 b c d) b c d→u (t0 b c d) b c d→v (t0 b c d) b c d→w (t0 b c d) b c d→x (t0 b c d) b c d→G):G:=by
 obtain⟨h0,a,b,h3,h4,c,d,h7,rfl,h9,oW,tY,wH,GP⟩:=z;exact(k b c d h0 h3 h4 h7 h9 oW tY wH GP)
@[elab_as_elim] theorem q37{D0:Sort _}{A B C D E:Sort _}{d0:D0}{u0:A→B→C→D→D0}{p q r s t u:A→B→C→D→Prop}{v w x:A→B→C→D→E→Prop}{G:D0→Prop}(z:∃a b c d,d0=(u0 a b c d)∧p a b c d∧q a b c d∧r a b c d∧s a b c d∧t a b c d∧u a b c d∧∃e,v a b c d e∧w a b c d e∧x a b c d e)(k:∀a b c d e,p a b c d→q a b c d→r a b c d→s a b c d→t a b c d→u a b c d→v a b c d e→w a b c d e→x a b c d e→G (u0 a b c d)):G d0:=by
 obtain⟨a,b,c,d,rfl,h5,h6,h7,h8,h9,oW,e,wH,GP,h14⟩:=z;exact(k a b c d e h5 h6 h7 h8 h9 oW wH GP h14)
theorem q39{p q r s t u v w x:Prop}{G:Prop}(z:p∧q∧r∧s∧t∧u∧v∧w∧x)(k:p→q→r→s→t→u→v→w→x→G):G:=(k z.1 z.2.1 z.2.2.1 z.2.2.2.1 z.2.2.2.2.1 z.2.2.2.2.2.1 z.2.2.2.2.2.2.1 z.2.2.2.2.2.2.2.1 z.2.2.2.2.2.2.2.2)
theorem q40{A B:Sort _}{p q r s:A→B→Prop}{G:Prop}(z:∃a b,p a b∧q a b∧r a b∧s a b)(k:∀a b,p a b→q a b→r a b→s a b→G):G:=Exists.elim z fun a z=>Exists.elim z fun b z=>(k a b z.1 z.2.1 z.2.2.1 z.2.2.2)
theorem jB{A B:Sort _}{t0:B→A}{t1:B}{p:Prop}{q r:A→B→Prop}{G:Prop}(z:p∧∃a b,q a b∧r a b∧a=(t0 b)∧b=t1)(k:p→q (t0 t1) t1→r (t0 t1) t1→G):G:=by
 obtain⟨h0,a,b,h3,h4,rfl,rfl⟩:=z;exact(k h0 h3 h4)
@[elab_as_elim] theorem q42{D0:Sort _}{A B:Sort _}{d0:D0}{u0:A→B→D0}{p:A→B→Prop}{G:D0→Prop}(z:∃a b,d0=(u0 a b)∧p a b)(k:∀a b,p a b→G (u0 a b)):G d0:=Exists.elim z fun a z=>Exists.elim z fun b z=>Eq.rec (motive:=fun dd _=>(G dd)) ((k a b z.2)) (z.1.symm)
@[elab_as_elim] theorem z4{D0:Sort _}{A B:Sort _}{d0:D0}{u0:A→B→D0}{p q:A→B→Prop}{G:D0→Prop}(z:∃a b,d0=(u0 a b)∧p a b∧q a b)(k:∀a b,p a b→q a b→G (u0 a b)):G d0:=Exists.elim z fun a z=>Exists.elim z fun b z=>Eq.rec (motive:=fun dd _=>(G dd)) ((k a b z.2.1 z.2.2)) (z.1.symm)
@[elab_as_elim] theorem uC{D0:Sort _}{A B:Sort _}{d0:D0}{t1:A→B}{u0:A→B→D0}{p:A→B→Prop}{G:D0→Prop}(z:∃a b,d0=(u0 a b)∧p a b∧b=(t1 a))(k:∀a,p a (t1 a)→(G (u0 a (t1 a)))):G d0:=by
 obtain⟨a,b,rfl,h3,rfl⟩:=z;exact(k a h3)
@[elab_as_elim] theorem vh{D0:Sort _}{A B C D:Sort _}{d0:D0}{t1:A→C→D→B}{t3:A→C→D}{u0:A→B→D0}{p:A→B→Prop}{q:A→B→C→D→Prop}{G:D0→Prop}(z:∃a b,d0=(u0 a b)∧p a b∧∃c d,b=(t1 a c d)∧q a b c d∧d=(t3 a c))(k:∀a c,(p a (t1 a c (t3 a c)))→(q a (t1 a c (t3 a c)) c (t3 a c))→(G (u0 a (t1 a c (t3 a c))))):G d0:=by
 obtain⟨a,b,rfl,h3,c,d,rfl,h7,rfl⟩:=z;exact(k a c h3 h7)
theorem q48{A B C D:Sort _}{p q:A→B→Prop}{r s t:A→B→C→D→Prop}{G:Prop}(z:∃a b,p a b∧q a b∧∃c d,r a b c d∧s a b c d∧t a b c d)(k:∀a b c d,p a b→q a b→r a b c d→s a b c d→t a b c d→G):G:=by
 obtain⟨a,b,h2,h3,c,d,h6,h7,h8⟩:=z;exact(k a b c d h2 h3 h6 h7 h8)
theorem q49{A B C:Sort _}{t1:A→B}{t0:C→A}{p:Prop}{q r:A→B→Prop}{s:A→B→C→Prop}{G:Prop}(z:p∧∃a b,q a b∧r a b∧b=(t1 a)∧∃c,a=(t0 c)∧s a b c)(k:∀c,p→(q (t0 c) (t1 (t0 c)))→(r (t0 c) (t1 (t0 c)))→(s (t0 c) (t1 (t0 c)) c)→G):G:=by
 obtain⟨h0,a,b,h3,h4,rfl,c,rfl,h8⟩:=z;exact(k c h0 h3 h4 h8)
theorem q50{A B C:Sort _}{p:Prop}{q r s:A→B→Prop}{t u:A→B→C→Prop}{G:Prop}(z:p∧∃a b,q a b∧r a b∧s a b∧∃c,t a b c∧u a b c)(k:∀a b c,p→q a b→r a b→s a b→t a b c→u a b c→G):G:=by
 obtain⟨h0,a,b,h3,h4,h5,c,h7,h8⟩:=z;exact(k a b c h0 h3 h4 h5 h7 h8)
@[elab_as_elim] theorem q51{D0 D1:Sort _}{A:Sort _}{d0:D0}{d1:D1}{u0:D0}{u1:A→D1}{p q:A→Prop}{G:D0→D1→Prop}(z:d0=u0∧∃a,p a∧q a∧d1=(u1 a))(k:∀a,p a→q a→G u0 (u1 a)):G d0 d1:=by
 obtain⟨rfl,a,h2,h3,rfl⟩:=z;exact(k a h2 h3)
@[elab_as_elim] theorem q52{D0 D1 D2:Sort _}{A:Sort _}{d0:D0}{d1:D1}{d2:D2}{u0:D0}{u1:D1}{u2:A→D2}{p q:A→Prop}{G:D0→D1→D2→Prop}(z:d0=u0∧d1=u1∧∃a,p a∧q a∧d2=(u2 a))(k:∀a,p a→q a→G u0 u1 (u2 a)):G d0 d1 d2:=by
 obtain⟨rfl,rfl,a,h3,h4,rfl⟩:=z;exact(k a h3 h4)
@[elab_as_elim] theorem VX{D0:Sort _}{d0:D0}{u0:D0}{p:Prop}{G:D0→Prop}(z:d0=u0∧p)(k:p→G u0):G d0:=Eq.rec (motive:=fun dd _=>(G dd)) ((k z.2)) (z.1.symm)
theorem q55{A B C D E:Sort _}{t0:B→C→D→E→A}{p:Prop}{q r:A→B→Prop}{s t u v:A→B→C→D→E→Prop}{G:Prop}(z:p∧∃a b,q a b∧r a b∧∃c d e,s a b c d e∧a=(t0 b c d e)∧t a b c d e∧u a b c d e∧v a b c d e)(k:∀b c d e,p→q (t0 b c d e) b→r (t0 b c d e) b→s (t0 b c d e) b c d e→t (t0 b c d e) b c d e→u (t0 b c d e) b c d e→v (t0 b c d e) b c d e→G):G:=by
 obtain⟨h0,a,b,h3,h4,c,d,e,h8,rfl,oW,tY,wH⟩:=z;exact(k b c d e h0 h3 h4 h8 oW tY wH)
theorem q57{A B:Sort _}{p:A→Prop}{q:A→B→Prop}{G:Prop}(z:∃a,p a∧∃b,q a b)(k:∀a b,p a→q a b→G):G:=by
 obtain⟨a,h1,b,h3⟩:=z;exact(k a b h1 h3)
theorem X6{A B C:Sort _}{p:Prop}{q r:A→B→Prop}{s t:A→B→C→Prop}{G:Prop}(z:p∧∃a b,q a b∧r a b∧∃c,s a b c∧t a b c)(k:∀a b c,p→q a b→r a b→s a b c→t a b c→G):G:=by
 obtain⟨h0,a,b,h3,h4,c,h6,h7⟩:=z;exact(k a b c h0 h3 h4 h6 h7)
theorem q59{a0 a1 a2 a3 a4 a5 a6 a7 a8 a9 B7 a11 a12 a13 a14 a15 a16:Sort _}{p17 p18 p19 p20:a0→a1→a2→a3→a4→a5→a6→a7→a8→a9→B7→a11→a12→a13→a14→a15→a16→Prop}{G:Prop}(z:∃x0 x1 x2 x3 x4 x5 x6 x7 x8 x9 uS uR uQ uP uO uN uM,(p17 x0 x1 x2 x3 x4 x5 x6 x7 x8 x9 uS uR uQ uP uO uN uM)∧(p18 x0 x1 x2 x3 x4 x5 x6 x7 x8 x9 uS uR uQ uP uO uN uM)∧(p19 x0 x1 x2 x3 x4 x5 x6 x7 x8 x9 uS uR uQ uP uO uN uM)∧(p20 x0 x1 x2 x3 x4 x5 x6 x7 x8 x9 uS uR uQ uP uO uN uM))(k:∀x0 x1 x2 x3 x4 x5 x6 x7 x8 x9 uS uR uQ uP uO uN uM,(p17 x0 x1 x2 x3 x4 x5 x6 x7 x8 x9 uS uR uQ uP uO uN uM)→(p18 x0 x1 x2 x3 x4 x5 x6 x7 x8 x9 uS uR uQ uP uO uN uM)→(p19 x0 x1 x2 x3 x4 x5 x6 x7 x8 x9 uS uR uQ uP uO uN uM)→(p20 x0 x1 x2 x3 x4 x5 x6 x7 x8 x9 uS uR uQ uP uO uN uM)→G):G:=Exists.elim z fun x0 z=>Exists.elim z fun x1 z=>Exists.elim z fun x2 z=>Exists.elim z fun x3 z=>Exists.elim z fun x4 z=>Exists.elim z fun x5 z=>Exists.elim z fun x6 z=>Exists.elim z fun x7 z=>Exists.elim z fun x8 z=>Exists.elim z fun x9 z=>Exists.elim z fun uS z=>Exists.elim z fun uR z=>Exists.elim z fun uQ z=>Exists.elim z fun uP z=>Exists.elim z fun uO z=>Exists.elim z fun uN z=>Exists.elim z fun uM z=>(k x0 x1 x2 x3 x4 x5 x6 x7 x8 x9 uS uR uQ uP uO uN uM z.1 z.2.1 z.2.2.1 z.2.2.2)
theorem q60{A B:Sort _}{p:A→B→Prop}{G:Prop}(z:∃a b,p a b)(k:∀a b,p a b→G):G:=Exists.elim z fun a z=>Exists.elim z fun b z=>(k a b z)
theorem q61{A B C:Sort _}{p q r s t:A→B→C→Prop}{G:Prop}(z:∃a b c,p a b c∧q a b c∧r a b c∧s a b c∧t a b c)(k:∀a b c,p a b c→q a b c→r a b c→s a b c→t a b c→G):G:=Exists.elim z fun a z=>Exists.elim z fun b z=>Exists.elim z fun c z=>(k a b c z.1 z.2.1 z.2.2.1 z.2.2.2.1 z.2.2.2.2)
theorem q62{A B C D E F:Sort _}{t0:B→C→D→E→F→A}{p:Prop}{q r:A→B→Prop}{s t u v:A→B→C→D→E→F→Prop}{G:Prop}(z:p∧∃a b,q a b∧r a b∧∃c d e f,a=(t0 b c d e f)∧s a b c d e f∧t a b c d e f∧u a b c d e f∧v a b c d e f)(k:∀b c d e f,p→q (t0 b c d e f) b→r (t0 b c d e f) b→s (t0 b c d e f) b c d e f→t (t0 b c d e f) b c d e f→u (t0 b c d e f) b c d e f→v (t0 b c d e f) b c d e f→G):G:=by
 obtain⟨h0,a,b,h3,h4,c,d,e,f,rfl,oW,tY,wH,GP⟩:=z;exact(k b c d e f h0 h3 h4 oW tY wH GP)
@[elab_as_elim] theorem q64{D0:Sort _}{A:Sort _}{d0:D0}{u0:A→D0}{p:Prop}{q r:A→Prop}{G:D0→Prop}(z:p∧∃a,d0=(u0 a)∧q a∧r a)(k:∀a,p→q a→r a→G (u0 a)):G d0:=by
 obtain⟨h0,a,rfl,h3,h4⟩:=z;exact(k a h0 h3 h4)
@[elab_as_elim] theorem q65{D0:Sort _}{A:Sort _}{d0:D0}{u0:A→D0}{p q:A→Prop}{G:D0→Prop}(z:∃a,d0=(u0 a)∧p a∧q a)(k:∀a,p a→q a→G (u0 a)):G d0:=Exists.elim z fun a z=>Eq.rec (motive:=fun dd _=>(G dd)) ((k a z.2.1 z.2.2)) (z.1.symm)
theorem q66{A B C:Sort _}{t0:B→C→A}{p q r:A→B→C→Prop}{G:Prop}(z:∃a b c,p a b c∧q a b c∧a=(t0 b c)∧r a b c)(k:∀b c,p (t0 b c) b c→q (t0 b c) b c→r (t0 b c) b c→G):G:=by
 obtain⟨a,b,c,h3,h4,rfl,h6⟩:=z;exact(k b c h3 h4 h6)
theorem q67{A B C D:Sort _}{p q r s t:A→B→C→D→Prop}{G:Prop}(z:∃a b c d,p a b c d∧q a b c d∧r a b c d∧s a b c d∧t a b c d)(k:∀a b c d,p a b c d→q a b c d→r a b c d→s a b c d→t a b c d→G):G:=Exists.elim z fun a z=>Exists.elim z fun b z=>Exists.elim z fun c z=>Exists.elim z fun d z=>(k a b c d z.1 z.2.1 z.2.2.1 z.2.2.2.1 z.2.2.2.2)
@[elab_as_elim] theorem q68{D0:Sort _}{A B C D E F H I:Sort _}{d0:D0}{u0:A→B→C→D→E→F→H→I→D0}{p q r s t u v w:A→B→C→D→E→F→H→I→Prop}{G:D0→Prop}(z:∃a b c d e f g h,d0=(u0 a b c d e f g h)∧p a b c d e f g h∧q a b c d e f g h∧r a b c d e f g h∧s a b c d e f g h∧t a b c d e f g h∧u a b c d e f g h∧v a b c d e f g h∧w a b c d e f g h)(k:∀a b c d e f g h,p a b c d e f g h→q a b c d e f g h→r a b c d e f g h→s a b c d e f g h→t a b c d e f g h→u a b c d e f g h→v a b c d e f g h→w a b c d e f g h→G (u0 a b c d e f g h)):G d0:=Exists.elim z fun a z=>Exists.elim z fun b z=>Exists.elim z fun c z=>Exists.elim z fun d z=>Exists.elim z fun e z=>Exists.elim z fun f z=>Exists.elim z fun g z=>Exists.elim z fun h z=>Eq.rec (motive:=fun dd _=>(G dd)) ((k a b c d e f g h z.2.1 z.2.2.1 z.2.2.2.1 z.2.2.2.2.1 z.2.2.2.2.2.1 z.2.2.2.2.2.2.1 z.2.2.2.2.2.2.2.1 z.2.2.2.2.2.2.2.2)) (z.1.symm)
theorem VW{A B C D E F:Sort _}{t1:A→C→D→B}{t3:A→C→E→F→D}{t5:A→C→E→F}{p q:A→B→Prop}{r:A→B→C→D→Prop}{s:A→B→C→D→E→F→Prop}{G:Prop}(z:∃a b,p a b∧q a b∧∃c d,b=(t1 a c d)∧r a b c d∧∃e f,d=(t3 a c e f)∧s a b c d e f∧f=(t5 a c e))(k:∀a c e,(p a (t1 a c (t3 a c e (t5 a c e))))→(q a (t1 a c (t3 a c e (t5 a c e))))→(r a (t1 a c (t3 a c e (t5 a c e))) c (t3 a c e (t5 a c e)))→(s a (t1 a c (t3 a c e (t5 a c e))) c (t3 a c e (t5 a c e)) e (t5 a c e))→G):G:=by
 obtain⟨a,b,h2,h3,c,d,rfl,h7,e,f,rfl,tY,rfl⟩:=z;exact(k a c e h2 h3 h7 tY)
@[elab_as_elim] theorem VV{D0:Sort _}{d0:D0}{u0:D0}{p q:Prop}{G:D0→Prop}(z:p∧d0=u0∧q)(k:p→q→G u0):G d0:=Eq.rec (motive:=fun dd _=>(G dd)) ((k z.1 z.2.2)) (z.2.1.symm)
@[elab_as_elim] theorem q73{D0 D1:Sort _}{A B C D:Sort _}{d0:D0}{d1:D1}{u0:A→B→C→D→D0}{u1:A→B→C→D→D1}{p q r s t:A→B→C→D→Prop}{G:D0→D1→Prop}(z:∃a b c d,d0=(u0 a b c d)∧d1=(u1 a b c d)∧p a b c d∧q a b c d∧r a b c d∧s a b c d∧t a b c d)(k:∀a b c d,p a b c d→q a b c d→r a b c d→s a b c d→t a b c d→G (u0 a b c d) (u1 a b c d)):G d0 d1:=Exists.elim z fun a z=>Exists.elim z fun b z=>Exists.elim z fun c z=>Exists.elim z fun d z=>Eq.rec (motive:=fun dd _=>(G d0 dd)) (Eq.rec (motive:=fun dd _=>(G dd (u1 a b c d))) ((k a b c d z.2.2.1 z.2.2.2.1 z.2.2.2.2.1 z.2.2.2.2.2.1 z.2.2.2.2.2.2)) (z.1.symm)) (z.2.1.symm)
@[elab_as_elim] theorem q75{D0:Sort _}{A B C:Sort _}{d0:D0}{u0:A→B→C→D0}{p q:A→B→C→Prop}{G:D0→Prop}(z:∃a b c,d0=(u0 a b c)∧p a b c∧q a b c)(k:∀a b c,p a b c→q a b c→G (u0 a b c)):G d0:=Exists.elim z fun a z=>Exists.elim z fun b z=>Exists.elim z fun c z=>Eq.rec (motive:=fun dd _=>(G dd)) ((k a b c z.2.1 z.2.2)) (z.1.symm)
@[elab_as_elim] theorem VU{D0:Sort _}{A B:Sort _}{d0:D0}{u0:A→B→D0}{p q r:A→B→Prop}{G:D0→Prop}(z:∃a b,d0=(u0 a b)∧p a b∧q a b∧r a b)(k:∀a b,p a b→q a b→r a b→G (u0 a b)):G d0:=Exists.elim z fun a z=>Exists.elim z fun b z=>Eq.rec (motive:=fun dd _=>(G dd)) ((k a b z.2.1 z.2.2.1 z.2.2.2)) (z.1.symm)
@[elab_as_elim] theorem q77{D0 D1:Sort _}{A B:Sort _}{d0:D0}{d1:D1}{u0:D0}{u1:A→B→D1}{p q:A→B→Prop}{G:D0→D1→Prop}(z:d0=u0∧∃a b,d1=(u1 a b)∧p a b∧q a b)(k:∀a b,p a b→q a b→G u0 (u1 a b)):G d0 d1:=by
 obtain⟨rfl,a,b,rfl,h4,h5⟩:=z;exact(k a b h4 h5)
theorem q78{A:Sort _}{p q r:Prop}{s t u v w:A→Prop}{G:Prop}(z:p∧q∧r∧∃a,s a∧t a∧u a∧v a∧w a)(k:∀a,p→q→r→s a→t a→u a→v a→w a→G):G:=by
 obtain⟨h0,h1,h2,a,h4,h5,h6,h7,h8⟩:=z;exact(k a h0 h1 h2 h4 h5 h6 h7 h8)
@[elab_as_elim] theorem xX{D0 D1:Sort _}{d0:D0}{d1:D1}{u0:D0}{u1:D1}{G:D0→D1→Prop}(z:d0=u0∧d1=u1)(k:(G u0 u1)):G d0 d1:=Eq.rec (motive:=fun dd _=>(G d0 dd)) (Eq.rec (motive:=fun dd _=>(G dd u1)) (k) (z.1.symm)) (z.2.symm)
@[elab_as_elim] theorem q80{D0:Sort _}{A:Sort _}{d0:D0}{u0:D0}{p q r:A→Prop}{G:D0→Prop}(z:d0=u0∧∃a,p a∧q a∧r a)(k:∀a,p a→q a→r a→G u0):G d0:=by
 obtain⟨rfl,a,h2,h3,h4⟩:=z;exact(k a h2 h3 h4)
@[elab_as_elim] theorem oQ{D0:Sort _}{A B:Sort _}{d0:D0}{u0:A→B→D0}{p q r s:A→B→Prop}{G:D0→Prop}(z:∃a b,d0=(u0 a b)∧p a b∧q a b∧r a b∧s a b)(k:∀a b,p a b→q a b→r a b→s a b→G (u0 a b)):G d0:=Exists.elim z fun a z=>Exists.elim z fun b z=>Eq.rec (motive:=fun dd _=>(G dd)) ((k a b z.2.1 z.2.2.1 z.2.2.2.1 z.2.2.2.2)) (z.1.symm)
@[elab_as_elim] theorem nR{D0 D1:Sort _}{A B C:Sort _}{d0:D0}{d1:D1}{u0:A→B→C→D0}{u1:A→B→C→D1}{p q r:A→B→C→Prop}{G:D0→D1→Prop}(z:∃a b c,d0=(u0 a b c)∧p a b c∧d1=(u1 a b c)∧q a b c∧r a b c)(k:∀a b c,p a b c→q a b c→r a b c→G (u0 a b c) (u1 a b c)):G d0 d1:=Exists.elim z fun a z=>Exists.elim z fun b z=>Exists.elim z fun c z=>Eq.rec (motive:=fun dd _=>(G d0 dd)) (Eq.rec (motive:=fun dd _=>(G dd (u1 a b c))) ((k a b c z.2.1 z.2.2.2.1 z.2.2.2.2)) (z.1.symm)) (z.2.2.1.symm)
@[elab_as_elim] theorem q83{D0 D1:Sort _}{A B:Sort _}{d0:D0}{d1:D1}{u0:D0}{u1:A→B→D1}{p q r s t u:A→B→Prop}{G:D0→D1→Prop}(z:d0=u0∧∃a b,d1=(u1 a b)∧p a b∧q a b∧r a b∧s a b∧t a b∧u a b)(k:∀a b,p a b→q a b→r a b→s a b→t a b→u a b→G u0 (u1 a b)):G d0 d1:=by
 obtain⟨rfl,a,b,rfl,h4,h5,h6,h7,h8,h9⟩:=z;exact(k a b h4 h5 h6 h7 h8 h9)
@[elab_as_elim] theorem Ge{D0 D1:Sort _}{A B:Sort _}{d0:D0}{d1:D1}{u0:D0}{u1:A→B→D1}{p:A→B→Prop}{G:D0→D1→Prop}(z:d0=u0∧∃a b,p a b∧d1=(u1 a b))(k:∀a b,p a b→G u0 (u1 a b)):G d0 d1:=by
 obtain⟨rfl,a,b,h3,rfl⟩:=z;exact(k a b h3)
@[elab_as_elim] theorem q87{D0 D1:Sort _}{A B C:Sort _}{d0:D0}{d1:D1}{u0:A→B→C→D0}{u1:A→B→C→D1}{p q r s t:A→B→C→Prop}{G:D0→D1→Prop}(z:∃a b c,d0=(u0 a b c)∧d1=(u1 a b c)∧p a b c∧q a b c∧r a b c∧s a b c∧t a b c)(k:∀a b c,p a b c→q a b c→r a b c→s a b c→t a b c→G (u0 a b c) (u1 a b c)):G d0 d1:=Exists.elim z fun a z=>Exists.elim z fun b z=>Exists.elim z fun c z=>Eq.rec (motive:=fun dd _=>(G d0 dd)) (Eq.rec (motive:=fun dd _=>(G dd (u1 a b c))) ((k a b c z.2.2.1 z.2.2.2.1 z.2.2.2.2.1 z.2.2.2.2.2.1 z.2.2.2.2.2.2)) (z.1.symm)) (z.2.1.symm)
@[elab_as_elim] theorem q89{D0:Sort _}{A B:Sort _}{d0:D0}{u0:A→B→D0}{p q r s t u:A→B→Prop}{G:D0→Prop}(z:∃a b,d0=(u0 a b)∧p a b∧q a b∧r a b∧s a b∧t a b∧u a b)(k:∀a b,p a b→q a b→r a b→s a b→t a b→u a b→G (u0 a b)):G d0:=Exists.elim z fun a z=>Exists.elim z fun b z=>Eq.rec (motive:=fun dd _=>(G dd)) ((k a b z.2.1 z.2.2.1 z.2.2.2.1 z.2.2.2.2.1 z.2.2.2.2.2.1 z.2.2.2.2.2.2)) (z.1.symm)
@[elab_as_elim] theorem q91{D0 D1:Sort _}{A:Sort _}{d0:D0}{d1:D1}{u0:D0}{u1:A→D1}{p q:A→Prop}{G:D0→D1→Prop}(z:d0=u0∧∃a,d1=(u1 a)∧p a∧q a)(k:∀a,p a→q a→G u0 (u1 a)):G d0 d1:=by
 obtain⟨rfl,a,rfl,h3,h4⟩:=z;exact(k a h3 h4)
@[elab_as_elim] theorem Hw{D0 D1:Sort _}{A:Sort _}{d0:D0}{d1:D1}{u0:D0}{u1:A→D1}{p:A→Prop}{G:D0→D1→Prop}(z:d0=u0∧∃a,d1=(u1 a)∧p a)(k:∀a,p a→G u0 (u1 a)):G d0 d1:=by
 obtain⟨rfl,a,rfl,h3⟩:=z;exact(k a h3)
@[elab_as_elim] theorem q93{D0 D1:Sort _}{A B C:Sort _}{d0:D0}{d1:D1}{u0:D0}{u1:A→B→C→D1}{p:A→B→C→Prop}{G:D0→D1→Prop}(z:d0=u0∧∃a b c,d1=(u1 a b c)∧p a b c)(k:∀a b c,p a b c→G u0 (u1 a b c)):G d0 d1:=by
 obtain⟨rfl,a,b,c,rfl,h5⟩:=z;exact(k a b c h5)
@[elab_as_elim] theorem q95{D0:Sort _}{A B:Sort _}{d0:D0}{u0:A→B→D0}{p:Prop}{q:A→B→Prop}{G:D0→Prop}(z:p∧∃a b,q a b∧d0=(u0 a b))(k:∀a b,p→q a b→G (u0 a b)):G d0:=by
 obtain⟨h0,a,b,h3,rfl⟩:=z;exact(k a b h0 h3)
theorem q96{A:Sort _}{p q r:Prop}{s t u v:A→Prop}{G:Prop}(z:p∧q∧r∧∃a,s a∧t a∧u a∧v a)(k:∀a,p→q→r→s a→t a→u a→v a→G):G:=by
 obtain⟨h0,h1,h2,a,h4,h5,h6,h7⟩:=z;exact(k a h0 h1 h2 h4 h5 h6 h7)
@[elab_as_elim] theorem Gd{D0:Sort _}{A B:Sort _}{d0:D0}{u0:A→B→D0}{p q r s t:A→B→Prop}{G:D0→Prop}(z:∃a b,d0=(u0 a b)∧p a b∧q a b∧r a b∧s a b∧t a b)(k:∀a b,p a b→q a b→r a b→s a b→t a b→G (u0 a b)):G d0:=Exists.elim z fun a z=>Exists.elim z fun b z=>Eq.rec (motive:=fun dd _=>(G dd)) ((k a b z.2.1 z.2.2.1 z.2.2.2.1 z.2.2.2.2.1 z.2.2.2.2.2)) (z.1.symm)
theorem q99{A B C D E:Sort _}{p q r s t u:A→B→C→D→E→Prop}{G:Prop}(z:∃a b c d e,p a b c d e∧q a b c d e∧r a b c d e∧s a b c d e∧t a b c d e∧u a b c d e)(k:∀a b c d e,p a b c d e→q a b c d e→r a b c d e→s a b c d e→t a b c d e→u a b c d e→G):G:=Exists.elim z fun a z=>Exists.elim z fun b z=>Exists.elim z fun c z=>Exists.elim z fun d z=>Exists.elim z fun e z=>(k a b c d e z.1 z.2.1 z.2.2.1 z.2.2.2.1 z.2.2.2.2.1 z.2.2.2.2.2)
@[elab_as_elim] theorem Yd{D0:Sort _}{A:Sort _}{d0:D0}{u0:A→D0}{p:A→Prop}{G:D0→Prop}(z:∃a,p a∧(u0 a)=d0)(k:∀a,p a→G (u0 a)):G d0:=Exists.elim z fun a z=>Eq.rec (motive:=fun dd _=>(G dd)) ((k a z.1)) (z.2)
theorem MD{p q r s t:Prop}{G:Prop}(z:p∧q∧r∧s∧t)(k:p→q→r→s→t→G):G:=(k z.1 z.2.1 z.2.2.1 z.2.2.2.1 z.2.2.2.2)
theorem MC{A:Sort _}{p q r:Prop}{s t:A→Prop}{G:Prop}(z:p∧q∧r∧∃a,s a∧t a)(k:∀a,p→q→r→s a→t a→G):G:=by
 obtain⟨h0,h1,h2,a,h4,h5⟩:=z;exact(k a h0 h1 h2 h4 h5)
@[elab_as_elim] theorem MB{D0:Sort _}{A:Sort _}{d0:D0}{u0:A→D0}{p q r:A→Prop}{G:D0→Prop}(z:∃a,d0=(u0 a)∧p a∧q a∧r a)(k:∀a,p a→q a→r a→G (u0 a)):G d0:=Exists.elim z fun a z=>Eq.rec (motive:=fun dd _=>(G dd)) ((k a z.2.1 z.2.2.1 z.2.2.2)) (z.1.symm)
@[elab_as_elim] theorem pf{D0:Sort _}{d0:D0}{u0:D0}{p q:Prop}{G:D0→Prop}(z:d0=u0∧p∧q)(k:p→q→G u0):G d0:=Eq.rec (motive:=fun dd _=>(G dd)) ((k z.2.1 z.2.2)) (z.1.symm)
@[elab_as_elim] theorem Yc{D0:Sort _}{d0:D0}{u0:D0}{p q r s:Prop}{G:D0→Prop}(z:d0=u0∧p∧q∧r∧s)(k:p→q→r→s→G u0):G d0:=Eq.rec (motive:=fun dd _=>(G dd)) ((k z.2.1 z.2.2.1 z.2.2.2.1 z.2.2.2.2)) (z.1.symm)
@[elab_as_elim] theorem Yb{D0:Sort _}{d0:D0}{u0:D0}{p q r:Prop}{G:D0→Prop}(z:d0=u0∧p∧q∧r)(k:p→q→r→G u0):G d0:=Eq.rec (motive:=fun dd _=>(G dd)) ((k z.2.1 z.2.2.1 z.2.2.2)) (z.1.symm)
@[elab_as_elim] theorem Ya{D0 D1:Sort _}{A:Sort _}{d0:D0}{d1:D1}{u0:D0}{u1:A→D1}{p q r s:A→Prop}{G:D0→D1→Prop}(z:d0=u0∧∃a,d1=(u1 a)∧p a∧q a∧r a∧s a)(k:∀a,p a→q a→r a→s a→G u0 (u1 a)):G d0 d1:=by
 obtain⟨rfl,a,rfl,h3,h4,h5,h6⟩:=z;exact(k a h3 h4 h5 h6)
@[elab_as_elim] theorem X9{D0:Sort _}{A B C:Sort _}{d0:D0}{u0:A→B→C→D0}{p q r s t:A→B→C→Prop}{G:D0→Prop}(z:∃a b c,d0=(u0 a b c)∧p a b c∧q a b c∧r a b c∧s a b c∧t a b c)(k:∀a b c,p a b c→q a b c→r a b c→s a b c→t a b c→G (u0 a b c)):G d0:=Exists.elim z fun a z=>Exists.elim z fun b z=>Exists.elim z fun c z=>Eq.rec (motive:=fun dd _=>(G dd)) ((k a b c z.2.1 z.2.2.1 z.2.2.2.1 z.2.2.2.2.1 z.2.2.2.2.2)) (z.1.symm)
@[elab_as_elim] theorem MA{D0:Sort _}{A B:Sort _}{d0:D0}{u0:D0}{p q r s t u:A→B→Prop}{G:D0→Prop}(z:d0=u0∧∃a b,p a b∧q a b∧r a b∧s a b∧t a b∧u a b)(k:∀a b,p a b→q a b→r a b→s a b→t a b→u a b→G u0):G d0:=by
 obtain⟨rfl,a,b,h3,h4,h5,h6,h7,h8⟩:=z;exact(k a b h3 h4 h5 h6 h7 h8)
end Mine
set_option Elab.async false
set_option maxRecDepth 100000
set_option maxHeartbeats 8000000
set_option linter.unusedVariables false
namespace Mine
open PySem
inductive V where
 | int (i:Int)
 | str (s:Str)
 | tup (vs:List V)
 | raw (v:Value)
noncomputable abbrev V.none:V:=.raw .none
noncomputable abbrev V.bool(b:Bool):V:=.raw (.bool b)
noncomputable abbrev V.ref(a:Addr):V:=.raw (.ref a)
noncomputable def Vt(h:Heap)(a:Addr)(vs:List Value):Prop:=
 ∃o n,h.get? a=some o∧o.cls=.type "tuple"∧o.data=.seq vs.toArray n
mutual
noncomputable def Is(h:Heap):V→Value→Prop
 | .int i,v=>∃t,v=.int i t
 | .str s,v=>∃t,v=.str s t
 | .raw u,v=>v=u
 | .tup ds,v=>∃a vs,v=.ref a∧Vt h a vs∧aA h ds vs
noncomputable def aA(h:Heap):List V→List Value→Prop
 | [],vs=>vs=[]
 | d::ds,vs=>∃v r,vs=v::r∧Is h d v∧aA h ds r
end
noncomputable def Tk(h h':Heap):Prop:=∀b o vs n,h.get? b=some o→o.cls=.type "tuple"→o.data=.seq vs n→∃o',h'.get? b=some o'∧o'.cls=.type "tuple"∧o'.data=.seq vs n
theorem Tk.refl(h:Heap):Tk h h:=fun _ o _ _ e c d=>⟨o,e,c,d⟩
theorem Tk.trans{h h' p0:Heap}(x:Tk h h')(y:Tk h' p0):Tk h p0:=fun b o vs n e c d=>let ⟨o',e',c',d'⟩:=x b o vs n e c d;y b o' vs n e' c' d'
noncomputable def aM(h h':Heap):Prop:=∀b o,h.get? b=some o→h'.get? b=some o
theorem aM.refl(h:Heap):aM h h:=fun _ _ e=>e
theorem aM.trans{h h' p0:Heap}(x:aM h h')(y:aM h' p0):aM h p0:=fun b o e=>y b o (x b o e)
theorem aM.tk{h h':Heap}(x:aM h h'):Tk h h':=fun b o _ _ e c d=>⟨o,x b o e,c,d⟩
theorem aM.push(h:Heap)(o:Obj):aM h (h.push o):=fun _ _ e=>Heap.get?_push_of_some o e
mutual
theorem Is.tk{h h':Heap}(k:Tk h h'):∀ {d:V} {v:Value},Is h d v→Is h' d v
 | .int _,_,x=>by simpa only[Is] using x
 | .str _,_,x=>by simpa only[Is] using x
 | .raw _,_,x=>by simpa only[Is] using x
 | .tup ds,_,x=>by
  simp only[Is] at x ⊢
  refine q0 x fun a vs e rq1 r=>?_;clear x;obtain⟨o,n,g,c,dt⟩:=rq1
  refine q1 (k a o _ n g c dt) fun o' g' c' d'=>?_
  exact⟨a,vs,e,⟨o',n,g',c',d'⟩,aA.tk k r⟩
theorem aA.tk{h h':Heap}(k:Tk h h'):∀ {ds:List V} {vs:List Value},aA h ds vs→aA h' ds vs
 | [],_,x=>by simpa only[aA] using x
 | d::ds,_,x=>by
  simp only[aA] at x ⊢
  refine q0 x fun v r e y z=>?_;clear x
  exact⟨v,r,e,Is.tk k y,aA.tk k z⟩
end
theorem aA.length{h:Heap}:∀ {ds:List V} {vs:List Value},aA h ds vs→vs.length=ds.length
 | [],_,x=>by simp only[aA] at x;subst x;rfl
 | d::ds,_,x=>by
  simp only[aA] at x
  refine q0 x fun v r e _ z=>?_;clear x
  subst e;simp[aA.length z]
theorem aA.get{h:Heap}:∀ {ds:List V} {vs:List Value} {i:Nat} {d:V},aA h ds vs→ds[i]?=some d→∃v,vs[i]?=some v∧Is h d v
 | [],_,_,_,_,e=>by simp at e
 | d::ds,_,i,d',x,e=>by
  simp only[aA] at x
  refine q0 x fun v r rq4 y z=>?_;clear x;obtain rfl:=rq4
  cases i with
  | zero=>simp at e;subst e;exact⟨v,rfl,y⟩
  | succ j=>
   rw[List.getElem?_cons_succ] at e ⊢
   exact aA.get z e
theorem aA.append{h:Heap}:∀ {ds es:List V} {vs ws:List Value},aA h ds vs→aA h es ws→aA h (ds++es) (vs++ws)
 | [],_,_,_,x,y=>by simp only[aA] at x;subst x;exact y
 | d::ds,es,_,ws,x,y=>by
  simp only[aA] at x
  refine q0 x fun v r rq7 a z=>?_;clear x;obtain rfl:=rq7
  simp only[List.cons_append,aA]
  exact⟨v,r++ws,rfl,a,aA.append z y⟩
theorem dJ(h:Heap):aA h [] []:=by simp only[aA]
theorem eh{h:Heap}{d:V}{v:Value}(x:Is h d v):aA h [d] [v]:=by simp only[aA];exact⟨v,[],rfl,x,rfl⟩
theorem cZ{h:Heap}{d:V}{v:Value}{ds:List V}{vs:List Value}(x:Is h d v)(y:aA h ds vs):aA h (d::ds) (v::vs):=by
 simp only[aA];exact⟨v,vs,rfl,x,y⟩
structure Cx where
 prog:Program
 w:World
 base:Heap
 mg:Str→Option Value
 mb:Str→Option Value
 os:OsState
inductive VL where
 | list (ds:List V)
 | dict (kvs:List (Int×V))
 | inst (C dx:Addr)
 | attrs (fs:List (Str×V))
structure fc where
 o:Obj
 k:VL
noncomputable abbrev AH:=Addr→Option fc
noncomputable def AH.set(H:AH)(a:Addr)(c:fc):AH:=fun b=>if b=a then some c else H b
noncomputable def j6(c:Cx)(h:Heap)(a:Addr):VL→Prop
 | .list ds=>∃vs,PlainL h a vs.toArray∧aA h ds vs
 | .dict kvs=>∃kv:List (Int×Value),h.DictOf (intKind c.prog c.w) a kv∧kv.map (·.1)=kvs.map (·.1)∧aA h (kvs.map (·.2)) (kv.map (·.2))
 | .inst C dx=>h.get? a=some { cls:=.ref C,dict:=some dx,data:=.plain }
 | .attrs fs=>∃mv,h.Ns1 a mv∧(∀x,fs.lookup x=none→mv x=none)∧∀x d,fs.lookup x=some d→∃v,mv x=some v∧Is h d v
noncomputable def ie(c:Cx)(h:Heap)(a:Addr)(x:fc):Prop:=h.get? a=some x.o∧j6 c h a x.k
noncomputable def mw(c:Cx)(H:AH)(h:Heap):Prop:=∀a x,H a=some x→ie c h a x
theorem j6.obj{c:Cx}{h:Heap}{a:Addr}{x:VL}(k:j6 c h a x):∃o,h.get? a=some o∧(∀vs n,o.cls=.type "tuple"→o.data≠.seq vs n)∧(∀vs,o.data≠.fields vs)∧(∀v,o.data≠.cell v):=by
 cases x with
 | list ds=>
  refine q2 k fun vs X5 _=>?_;clear k;obtain⟨o,n,g,cl,_,dt⟩:=X5
  exact⟨o,g,(fun _ _ q=>by rw[cl] at q;exact absurd q (by decide)),(by rw[dt];intro vs e;cases e),(by rw[dt];intro vs e;cases e)⟩
 | dict kvs=>
  refine q2 k fun kv X1 _=>?_;clear k;obtain⟨o,es,ep,g,cl,dt,_⟩:=X1
  exact⟨o,g,(fun _ _ q=>by rw[cl.1] at q;exact absurd q (by decide)),(by rw[dt];intro vs e;cases e),(by rw[dt];intro vs e;cases e)⟩
 | inst C dx=>exact⟨_,k,(fun _ _ e=>nomatch e),(fun vs e=>nomatch e),(fun vs e=>nomatch e)⟩
 | attrs fs=>
  refine q2 k fun mv XZ _=>?_;clear k;obtain⟨o,es,ep,g,dt,_⟩:=XZ
  exact⟨o,g,(fun _ _ _ q=>by rw[dt] at q;cases q),(by rw[dt];intro vs e;cases e),(by rw[dt];intro vs e;cases e)⟩
theorem ie.obj{c:Cx}{h:Heap}{a:Addr}{x:fc}(k:ie c h a x):∃o,h.get? a=some o∧(∀vs n,o.cls=.type "tuple"→o.data≠.seq vs n)∧(∀vs,o.data≠.fields vs)∧(∀v,o.data≠.cell v):=k.2.obj
theorem ie.keep{c:Cx}{h h':Heap}{a:Addr}{x:fc}(k:ie c h a x)(t:Tk h h')(g:∀o,h.get? a=some o→h'.get? a=some o):ie c h' a x:=by
 obtain⟨o,x⟩:=x
 refine q3 k fun k0 Mt=>?_;clear k;have k:=Mt;clear Mt
 refine⟨g _ k0,?_⟩
 cases x with
 | list ds=>
  refine q2 k fun vs X4 y=>?_;clear k;obtain⟨o,n,e,r⟩:=X4
  exact⟨vs,⟨o,n,g o e,r⟩,y.tk t⟩
 | dict kvs=>
  refine q1 k fun kv X3 p y=>?_;clear k;obtain⟨o,es,ep,e,r⟩:=X3
  exact⟨kv,⟨o,es,ep,g o e,r⟩,p,y.tk t⟩
 | inst C dx=>exact g _ k
 | attrs fs=>
  refine q1 k fun mv X0 p y=>?_;clear k;obtain⟨o',es,ep,e,r⟩:=X0
  exact⟨mv,⟨o',es,ep,g o' e,r⟩,p,fun x d q=>let ⟨v,a,b⟩:=y x d q;⟨v,a,b.tk t⟩⟩
noncomputable abbrev bL:=Str→Option V
noncomputable def bL.set(m:bL)(x:Str)(d:V):bL:=fun y=>if y=x then some d else m y
structure Fx where
 A:Around
 env:Env
 bK:List Env
 hE:Heap
 HE:AH
 keep:List (Addr×Obj)
 fn:Bool
noncomputable def Fx.fs(f:Fx):List Addr:=f.bK.filterMap (·.frame)
noncomputable def sO(env:Env)(mv:Str→Option Value)(h:Heap)(x:Str)(d:V):Prop:=
 (env.kindOf x=some .local∧∃v,mv x=some v∧Is h d v)∨
 ((env.kindOf x=some .cell∨env.kindOf x=some .free)∧∃a v,env.cells.lookup x=some a∧h.IsCell a (some v)∧Is h d v)
structure St(c:Cx)(f:Fx)(m:bL)(H:AH)(s:Shared):Prop where
 rep:mw c H s.heap
 base:c.base.StaysIn s.heap
 bE:c.base.StaysIn f.hE
 hb:∀b o,c.base.get? b=some o→H b=none
 off:∀a o,f.hE.get? a=some o→f.HE a=none→(a∉f.fs→s.heap.get? a=some o)∧(a∈f.fs→∃sl,s.heap.get? a=some { o with slots:=sl })
 i6:∀a o,f.hE.get? a=some o→f.HE a=none→H a=none
 up:∀a,f.HE a≠none→H a≠none
 loc:∃mv,s.heap.Ns f.env.locals mv∧∀x d,m x=some d→sO f.env mv s.heap x d
 gU:f.fn=true→f.hE.get? f.env.locals=none
 mG:H f.env.locals=none
 jd:∀x a,f.env.cells.lookup x=some a→H a=none∧a≠f.env.locals∧(f.fn=true→f.env.kindOf x=some .cell→f.hE.get? a=none)∧∃ov,s.heap.IsCell a ov
 apart:∀x y a,f.env.cells.lookup x=some a→f.env.cells.lookup y=some a→x=y
 ff:s.heap.FunFrames c.base f.bK
 fh:∀a∈f.fs,H a=none
 big:∀a x,H a=some x→cStatics<a
 kp:∀p∈f.keep,s.heap.get? p.1=some p.2∧∃vs,p.2.data=.fields vs
 gens:s.gens=#[]
 os:s.os=c.os
theorem cm{h h' base:Heap}:∀ {l:List Env},h.FunFrames base l→(∀b∈l.filterMap (·.frame),∀o,h.get? b=some o→(∀vs,o.data≠.fields vs)→∃o',h'.get? b=some o'∧∀vs,o'.data≠.fields vs)→h'.FunFrames base l
 | [],_,_=>trivial
 | env::r,⟨hk,⟨L,o,hf,hn,ho,hd⟩,hr⟩,k=>by
  refine q2 (k L (by rw[List.filterMap_cons,hf];exact .head _) o ho hd) fun o' e' d'=>?_
  exact⟨hk,⟨L,o',hf,hn,e',d'⟩,cm hr fun b hb=>k b (by rw[List.filterMap_cons,hf];exact .tail _ hb)⟩
theorem St.old{c:Cx}{f:Fx}{m:bL}{H:AH}{s:Shared}(S:St c f m H s){a:Addr}(e:s.heap.get? a=none):f.hE.get? a=none:=by
 cases q:f.hE.get? a with
 | none=>rfl
 | some o=>
  exfalso
  cases hq:f.HE a with
  | none=>
   refine q3 (S.off a o q hq) fun k1 k2=>?_
   by_cases hm:a∈f.fs
   ·refine q4 (k2 hm) fun sl e'=>?_;rw[e] at e';cases e'
   ·rw[k1 hm] at e;cases e
  | some x=>
   have:=S.up a (by rw[hq];exact fun z=>nomatch z)
   cases hx:H a with
   | none=>exact this hx
   | some y=>refine q2 ((S.rep a y hx).obj) fun o' g _=>?_;rw[e] at g;cases g
theorem sO.mono{env:Env}{mv:Str→Option Value}{h h':Heap}{x:Str}{d:V}(k:sO env mv h x d)(t:Tk h h')
  (g:∀a v,env.cells.lookup x=some a→h.IsCell a (some v)→h'.IsCell a (some v)):sO env mv h' x d:=by
 rcases k with ⟨e,v,p,q⟩ | ⟨e,a,v,p,q,r⟩
 ·exact .inl ⟨e,v,p,q.tk t⟩
 ·exact .inr ⟨e,a,v,p,g a v p q,r.tk t⟩
theorem St.grow{c:Cx}{f:Fx}{m:bL}{H:AH}{s s':Shared}(S:St c f m H s)(g:aM s.heap s'.heap)(hg:s'.gens=s.gens)(ho:s'.os=s.os):St c f m H s' where
 rep:=fun a x e=>(S.rep a x e).keep g.tk (fun o=>g a o)
 base:=fun b o e=>g b o (S.base b o e)
 bE:=S.bE
 hb:=S.hb
 off:=fun a o e q=>⟨fun n=>g a o ((S.off a o e q).1 n),fun n=>let ⟨sl,z⟩:=(S.off a o e q).2 n;⟨sl,g _ _ z⟩⟩
 i6:=S.i6
 up:=S.up
 loc:=q2 (S.loc) fun mv n k=>⟨mv,n.keeps g,fun x d e=>(k x d e).mono g.tk fun _ _ _ z=>z.keeps g⟩
 gU:=S.gU
 mG:=S.mG
 jd:=fun x a e=>let ⟨p,q,r,ov,z⟩:=S.jd x a e;⟨p,q,r,ov,z.keeps g⟩
 apart:=S.apart
 ff:=S.ff.of_keeps fun b o e _=>⟨o,g b o e,rfl⟩
 fh:=S.fh
 big:=S.big
 kp:=fun p hp=>⟨g _ _ (S.kp p hp).1,(S.kp p hp).2⟩
 gens:=hg.trans S.gens
 os:=ho.trans S.os
theorem St.alloc{c:Cx}{f:Fx}{m:bL}{H:AH}{s s':Shared}(S:St c f m H s){a:Addr}{x:fc}(g:aM s.heap s'.heap)(hg:s'.gens=s.gens)(ho:s'.os=s.os)
  (hn:s.heap.get? a=none) (wC:cStatics<a) (hx:ie c s'.heap a x):St c f m (H.set a x) s':=by
 have S':=S.grow (s':=s') g hg ho
 have ne:∀b o,s.heap.get? b=some o→b≠a:=fun b o e q=>by rw[q,hn] at e;cases e
 have hH:∀b,b≠a→(H.set a x) b=H b:=fun b q=>if_neg q
 refine q6 (S.loc.choose_spec.1) fun oL _ _ hL _=>?_
 refine⟨fun b y e=>?_,S'.base,S.bE,fun b o e=>?_,S'.off,fun b o e q=>?_,fun b q=>?_,S'.loc,S.gU,?_,fun y b e=>?_,S.apart,S'.ff,fun b q=>?_,fun b y e=>?_,S'.kp,S'.gens,S'.os⟩
 ·by_cases q:b=a
  ·subst q;rw[AH.set,if_pos rfl] at e;cases e;exact hx
  ·rw[hH b q] at e;exact S'.rep b y e
 ·rw[hH b (ne b o (S.base b o e))];exact S.hb b o e
 ·have:b≠a:=fun z=>by rw[z,S.old hn] at e;cases e
  rw[hH b this];exact S.i6 b o e q
 ·by_cases z:b=a
  ·subst z;rw[AH.set,if_pos rfl];exact fun w=>nomatch w
  ·rw[hH b z];exact S.up b q
 ·rw[hH _ (ne _ _ hL)];exact S.mG
 ·refine q9 (S.jd y b e) fun ov oc p q r z zz=>?_
  refine uD (S'.jd y b e) fun _ _ _ z'=>?_
  exact⟨by rw[hH b (ne b _ z)];exact p,q,r,z'⟩
 ·refine xZ (S.ff.mem q) fun o _ e _=>?_
  rw[hH b (ne b o e)];exact S.fh b q
 ·by_cases q:b=a
  ·exact q▸wC
  ·rw[hH b q] at e;exact S.big b y e
theorem St.upd{c:Cx}{f:Fx}{m:bL}{H:AH}{s s':Shared}(S:St c f m H s){a:Addr}{x y:fc}(hH:H a=some x)(g:Heap.ExtBut a s.heap s'.heap)(hg:s'.gens=s.gens)(ho:s'.os=s.os)
  (hy:ie c s'.heap a y):St c f m (H.set a y) s'∧Tk s.heap s'.heap:=by
 refine q5 ((S.rep a x hH).obj) fun oa ga na nf nc=>?_
 have t:Tk s.heap s'.heap:=fun b o _ _ e cl d=>⟨o,g b o (fun q=>by rw[q,ga] at e;cases e;exact na _ _ cl d) e,cl,d⟩
 have hS:∀b,b≠a→(H.set a y) b=H b:=fun b q=>if_neg q
 have v5:∀b,H b=none→b≠a:=fun b e q=>by rw[q,hH] at e;cases e
 refine⟨⟨fun b z e=>?_,fun b o e=>?_,S.bE,fun b o e=>?_,fun b o e q=>?_,fun b o e q=>?_,fun b q=>?_,?_,S.gU,?_,fun v b e=>?_,S.apart,?_,fun b q=>?_,fun b z e=>?_,fun p hp=>?_,hg.trans S.gens,ho.trans S.os⟩,t⟩
 ·by_cases q:b=a
  ·subst q;rw[AH.set,if_pos rfl] at e;cases e;exact hy
  ·rw[hS b q] at e;exact(S.rep b z e).keep t fun o=>g b o q
 ·exact g b o (v5 b (S.hb b o e)) (S.base b o e)
 ·rw[hS b (v5 b (S.hb b o e))];exact S.hb b o e
 ·have nb:=v5 b (S.i6 b o e q)
  exact⟨fun n=>g b o nb ((S.off b o e q).1 n),fun n=>let ⟨sl,z⟩:=(S.off b o e q).2 n;⟨sl,g _ _ nb z⟩⟩
 ·have nb:=v5 b (S.i6 b o e q)
  rw[hS b nb];exact S.i6 b o e q
 ·by_cases z:b=a
  ·subst z;rw[AH.set,if_pos rfl];exact fun w=>nomatch w
  ·rw[hS b z];exact S.up b q
 ·refine q2 (S.loc) fun mv n k=>?_
  refine⟨mv,n.extBut g (v5 _ S.mG),fun v d e=>(k v d e).mono t fun b w eb z=>?_⟩
  refine q2 z fun o p q=>?_;clear z
  exact⟨o,g b o (v5 b (S.jd v b eb).1) p,q⟩
 ·rw[hS _ (v5 _ S.mG)];exact S.mG
 ·refine q9 (S.jd v b e) fun ov o p q r z zz=>?_
  exact⟨by rw[hS b (v5 b p)];exact p,q,r,ov,o,g b o (v5 b p) z,zz⟩
 ·exact cm S.ff fun b hb o e hd=>⟨o,g b o (v5 b (S.fh b hb)) e,hd⟩
 ·rw[hS b (v5 b (S.fh b q))];exact S.fh b q
 ·by_cases q:b=a
  ·exact q▸S.big a x hH
  ·rw[hS b q] at e;exact S.big b z e
 ·refine qK (S.kp p hp) fun vs k1 k2=>?_
  exact⟨g p.1 p.2 (fun q=>by rw[q,ga] at k1;cases k1;exact nf vs k2) k1,vs,k2⟩
end Mine
namespace Mine
open PySem
theorem St.store{c:Cx}{f:Fx}{m:bL}{H:AH}{s s':Shared}(S:St c f m H s){x:Str}{v:Value}{d:V}(oV:f.fn=true)(hk:f.env.kindOf x=some .local)
  (g:Heap.SameBut f.env.locals s.heap s'.heap) (hn:∀mv,s.heap.Ns f.env.locals mv→s'.heap.Ns f.env.locals (fun y=>if y=x then some v else mv y)) (hg:s'.gens=s.gens) (ho:s'.os=s.os) (hd:Is s.heap d v):St c f (m.set x d) H s'∧Tk s.heap s'.heap:=by
 refine q2 (S.loc) fun mv n k=>?_
 refine q7 (id n) fun oL es ep hL UW hLk hLm=>?_
 have n':=hn mv n
 refine q8 (id n') fun oL' U8 WL hL' aax _=>?_
 have ext:=g.extBut
 have t:Tk s.heap s'.heap:=fun b o vs n e cl dt=>by
  by_cases q:b=f.env.locals
  ·rw[q,hL] at e;cases e;rw[UW] at dt;cases dt
  ·exact⟨o,ext b o q e,cl,dt⟩
 have Zu:∀b,H b≠none→b≠f.env.locals:=fun b e q=>e (q▸S.mG)
 refine⟨⟨fun b z e=>?_,fun b o e=>?_,S.bE,S.hb,fun b o e q=>?_,S.i6,S.up,⟨_,n',fun y d' e=>?_⟩,S.gU,S.mG,fun y b e=>?_,S.apart,?_,S.fh,S.big,fun p hp=>?_,hg.trans S.gens,ho.trans S.os⟩,t⟩
 ·exact(S.rep b z e).keep t fun o=>ext b o (Zu b (by rw[e];exact fun z=>nomatch z))
 ·refine ext b o (fun q=>?_) (S.base b o e)
  have h1:=S.bE b o e
  rw[q,S.gU oV] at h1;cases h1
 ·have nb:b≠f.env.locals:=fun z=>by rw[z,S.gU oV] at e;cases e
  exact⟨fun n=>ext b o nb ((S.off b o e q).1 n),fun n=>let ⟨sl,z⟩:=(S.off b o e q).2 n;⟨sl,ext _ _ nb z⟩⟩
 ·by_cases q:y=x
  ·subst q
   rw[bL.set,if_pos rfl] at e;cases e
   exact .inl ⟨hk,v,if_pos rfl,hd.tk t⟩
  ·rw[bL.set,if_neg q] at e
   rcases k y d' e with ⟨e1,v',p,r⟩ | ⟨e1,a,v',p,r,u⟩
   ·exact .inl ⟨e1,v',by show(if y=x then some v else mv y)=_;rw[if_neg q];exact p,r.tk t⟩
   ·refine q2 r fun o z1 z2=>?_;clear r
    exact .inr ⟨e1,a,v',p,⟨o,ext a o (S.jd y a p).2.1 z1,z2⟩,u.tk t⟩
 ·refine q9 (S.jd y b e) fun ov o p q r z zz=>?_
  exact⟨p,q,r,ov,o,ext b o q z,zz⟩
 ·refine cm S.ff fun b hb o e sq=>?_
  by_cases q:b=f.env.locals
  ·subst q;exact⟨oL',hL',fun vs z=>by rw[aax] at z;cases z⟩
  ·exact⟨o,ext b o q e,sq⟩
 ·refine qK (S.kp p hp) fun vs k1 k2=>?_
  exact⟨ext p.1 p.2 (fun q=>by rw[q,hL] at k1;cases k1;rw[UW] at k2;cases k2) k1,vs,k2⟩
theorem St.Cf{c:Cx}{f:Fx}{m:bL}{H:AH}{s s':Shared}(S:St c f m H s){x:Str}{a:Addr}{v:Value}{d:V}(oV:f.fn=true)(hk:f.env.kindOf x=some .cell)(hc:f.env.cells.lookup x=some a)
  (g:Heap.SameBut a s.heap s'.heap) (hn:s'.heap.IsCell a (some v)) (hg:s'.gens=s.gens) (ho:s'.os=s.os) (hd:Is s.heap d v):St c f (m.set x d) H s'∧Tk s.heap s'.heap:=by
 refine q2 (S.loc) fun mv n k=>?_
 refine q9 (S.jd x a hc) fun ov oa Ha haL i5 ga da=>?_
 refine q2 (id hn) fun oa' ga' da'=>?_
 have ext:=g.extBut
 have t:Tk s.heap s'.heap:=fun b o vs n e cl dt=>by
  by_cases q:b=a
  ·rw[q,ga] at e;cases e;rw[da] at dt;cases dt
  ·exact⟨o,ext b o q e,cl,dt⟩
 have i5:=i5 oV hk
 have Zu:∀b,H b≠none→b≠a:=fun b e q=>e (q▸Ha)
 refine⟨⟨fun b z e=>?_,fun b o e=>?_,S.bE,S.hb,fun b o e q=>?_,S.i6,S.up,⟨_,n.sameBut g (Ne.symm haL),fun y d' e=>?_⟩,S.gU,S.mG,fun y b e=>?_,S.apart,?_,S.fh,S.big,fun p hp=>?_,hg.trans S.gens,ho.trans S.os⟩,t⟩
 ·exact(S.rep b z e).keep t fun o=>ext b o (Zu b (by rw[e];exact fun z=>nomatch z))
 ·refine ext b o (fun q=>?_) (S.base b o e)
  have h1:=S.bE b o e
  rw[q,i5] at h1;cases h1
 ·have nb:b≠a:=fun z=>by rw[z,i5] at e;cases e
  exact⟨fun n=>ext b o nb ((S.off b o e q).1 n),fun n=>let ⟨sl,z⟩:=(S.off b o e q).2 n;⟨sl,ext _ _ nb z⟩⟩
 ·by_cases q:y=x
  ·subst q
   rw[bL.set,if_pos rfl] at e;cases e
   exact .inr ⟨.inl hk,a,v,hc,hn,hd.tk t⟩
  ·rw[bL.set,if_neg q] at e
   rcases k y d' e with ⟨e1,v',p,r⟩ | ⟨e1,b,v',p,r,u⟩
   ·exact .inl ⟨e1,v',p,r.tk t⟩
   ·refine q2 r fun o z1 z2=>?_;clear r
    exact .inr ⟨e1,b,v',p,⟨o,ext b o (fun z=>q (S.apart y x a (z▸p) hc)) z1,z2⟩,u.tk t⟩
 ·refine q9 (S.jd y b e) fun ov o p q r z zz=>?_
  by_cases w:b=a
  ·subst w;exact⟨p,q,r,_,oa',ga',da'⟩
  ·exact⟨p,q,r,ov,o,ext b o w z,zz⟩
 ·refine cm S.ff fun b hb o e sq=>?_
  by_cases q:b=a
  ·subst q;exact⟨oa',ga',fun vs z=>by rw[da'] at z;cases z⟩
  ·exact⟨o,ext b o q e,sq⟩
 ·refine qK (S.kp p hp) fun vs k1 k2=>?_
  exact⟨ext p.1 p.2 (fun q=>by rw[q,ga] at k1;cases k1;rw[da] at k2;cases k2) k1,vs,k2⟩
theorem St.slots{c:Cx}{f:Fx}{m:bL}{H:AH}{s s':Shared}(S:St c f m H s)(g:Heap.SlotsOnly f.fs s.heap s'.heap)(hg:s'.gens=s.gens)(ho:s'.os=s.os):St c f m H s'∧Tk s.heap s'.heap:=by
 have ne:∀b,H b≠none→b∉f.fs:=fun b e q=>e (S.fh b q)
 have t:Tk s.heap s'.heap:=fun b o vs n e cl dt=>let ⟨sl,z⟩:=g.2.2 b o e;⟨_,z,cl,dt⟩
 refine⟨⟨fun b z e=>?_,fun b o e=>?_,S.bE,S.hb,fun b o e q=>?_,S.i6,S.up,?_,S.gU,S.mG,fun y b e=>?_,S.apart,S.ff.of_slotsOnly g,S.fh,S.big,fun p hp=>?_,hg.trans S.gens,ho.trans S.os⟩,t⟩
 ·exact(S.rep b z e).keep t fun o w=>(g.2.1 b (ne b (by rw[e];exact fun z=>nomatch z))).trans w
 ·exact(g.2.1 b fun q=>by have:=(S.ff.mem q).1;rw[e] at this;cases this).trans (S.base b o e)
 ·refine⟨fun n=>(g.2.1 b n).trans ((S.off b o e q).1 n),fun n=>?_⟩
  refine q4 ((S.off b o e q).2 n) fun sl z=>?_
  refine q4 (g.2.2 b _ z) fun Xc z'=>?_
  exact⟨Xc,z'⟩
 ·refine q2 (S.loc) fun mv XY k=>?_;obtain⟨oL,es,ep,hL,r⟩:=XY
  refine q4 (g.2.2 _ _ hL) fun sl z=>?_
  refine⟨mv,⟨_,es,ep,z,r⟩,fun y d e=>(k y d e).mono t fun b v _ w=>?_⟩
  refine q2 w fun o w1 w2=>?_;clear w
  refine q4 (g.2.2 _ _ w1) fun sl z=>?_
  exact⟨_,z,w2⟩
 ·refine q9 (S.jd y b e) fun ov o p q r z zz=>?_
  refine q4 (g.2.2 _ _ z) fun sl z'=>?_
  exact⟨p,q,r,ov,_,z',zz⟩
 ·refine qK (S.kp p hp) fun vs k1 k2=>?_
  refine⟨(g.2.1 p.1 fun q=>?_).trans k1,vs,k2⟩
  refine xZ (S.ff.mem q) fun o _ ho UA=>?_
  rw[k1] at ho;cases ho;exact UA vs k2
theorem St.other{c:Cx}{f:Fx}{m:bL}{H:AH}{s s':Shared}(S:St c f m H s){a:Addr}(hH:H a=none)(i5:f.hE.get? a=none)(hL:a≠f.env.locals)(fS:∀x b,f.env.cells.lookup x=some b→b≠a)
  (HN:a∉f.fs) (GG:∀p∈f.keep,a≠p.1) (Uy:∀o vs n,s.heap.get? a=some o→o.cls=.type "tuple"→o.data≠.seq vs n)
  (ext:Heap.ExtBut a s.heap s'.heap) (hg:s'.gens=s.gens) (ho:s'.os=s.os):St c f m H s'∧Tk s.heap s'.heap:=by
 have t:Tk s.heap s'.heap:=fun b o vs n e cl dt=>by
  by_cases q:b=a
  ·subst q;exact absurd dt (Uy o vs n e cl)
  ·exact⟨o,ext b o q e,cl,dt⟩
 have Zv:∀b,H b≠none→b≠a:=fun b e q=>e (q▸hH)
 refine⟨⟨fun b z e=>?_,fun b o e=>?_,S.bE,S.hb,fun b o e q=>?_,S.i6,S.up,?_,S.gU,S.mG,fun y b e=>?_,S.apart,?_,S.fh,S.big,fun p hp=>?_,hg.trans S.gens,ho.trans S.os⟩,t⟩
 ·exact(S.rep b z e).keep t fun o=>ext b o (Zv b (by rw[e];exact fun z=>nomatch z))
 ·refine ext b o (fun q=>?_) (S.base b o e)
  have h1:=S.bE b o e
  rw[q,i5] at h1;cases h1
 ·have nb:b≠a:=fun z=>by rw[z,i5] at e;cases e
  exact⟨fun n=>ext b o nb ((S.off b o e q).1 n),fun n=>let ⟨sl,z⟩:=(S.off b o e q).2 n;⟨sl,ext _ _ nb z⟩⟩
 ·refine q2 (S.loc) fun mv n k=>?_
  refine⟨mv,n.extBut ext (Ne.symm hL),fun y d e=>(k y d e).mono t fun b v eb w=>?_⟩
  refine q2 w fun o w1 w2=>?_;clear w
  exact⟨o,ext b o (fS y b eb) w1,w2⟩
 ·refine q9 (S.jd y b e) fun ov o p q r z zz=>?_
  exact⟨p,q,r,ov,o,ext b o (fS y b e) z,zz⟩
 ·refine cm S.ff fun b hb o e sq=>?_
  exact⟨o,ext b o (fun q=>HN (q▸hb)) e,sq⟩
 ·refine qK (S.kp p hp) fun vs k1 k2=>?_
  exact⟨ext p.1 p.2 (Ne.symm (GG p hp)) k1,vs,k2⟩
theorem St.qJ{c:Cx}{f:Fx}{m:bL}{H:AH}{s s':Shared}(S:St c f m H s){a:Addr}{oa:Obj}{vs:Array Value}(ga:s.heap.get? a=some oa)(da:oa.data=.fields vs)(i5:f.hE.get? a=none)
  (GG:∀p∈f.keep,a≠p.1) (ext:Heap.ExtBut a s.heap s'.heap) (hg:s'.gens=s.gens) (ho:s'.os=s.os):St c f m H s'∧Tk s.heap s'.heap:=by
 have t:Tk s.heap s'.heap:=fun b o vs n e cl dt=>by
  by_cases q:b=a
  ·rw[q,ga] at e;cases e;rw[da] at dt;cases dt
  ·exact⟨o,ext b o q e,cl,dt⟩
 have Zv:∀b,H b≠none→b≠a:=fun b e q=>by
  cases hx:H b with
  | none=>exact e hx
  | some y=>refine q5 ((S.rep b y hx).obj) fun o' g' _ nf _=>?_;rw[q,ga] at g';cases g';exact nf _ da
 refine⟨⟨fun b z e=>?_,fun b o e=>?_,S.bE,S.hb,fun b o e q=>?_,S.i6,S.up,?_,S.gU,S.mG,fun y b e=>?_,S.apart,?_,S.fh,S.big,fun p hp=>?_,hg.trans S.gens,ho.trans S.os⟩,t⟩
 ·exact(S.rep b z e).keep t fun o=>ext b o (Zv b (by rw[e];exact fun z=>nomatch z))
 ·refine ext b o (fun q=>?_) (S.base b o e)
  have h1:=S.bE b o e
  rw[q,i5] at h1;cases h1
 ·have nb:b≠a:=fun z=>by rw[z,i5] at e;cases e
  exact⟨fun n=>ext b o nb ((S.off b o e q).1 n),fun n=>let ⟨sl,z⟩:=(S.off b o e q).2 n;⟨sl,ext _ _ nb z⟩⟩
 ·refine q2 (S.loc) fun mv n k=>?_
  refine q8 (id n) fun oL es ep hL UW _=>?_
  refine⟨mv,n.extBut ext (fun q=>?_),fun y d e=>(k y d e).mono t fun b v _ w=>?_⟩
  ·rw[q,ga] at hL;cases hL;rw[da] at UW;cases UW
  ·refine q2 w fun o w1 w2=>?_;clear w
   exact⟨o,ext b o (fun q=>by rw[q,ga] at w1;cases w1;rw[da] at w2;cases w2) w1,w2⟩
 ·refine q9 (S.jd y b e) fun ov o p q r z zz=>?_
  exact⟨p,q,r,ov,o,ext b o (fun q=>by rw[q,ga] at z;cases z;rw[da] at zz;cases zz) z,zz⟩
 ·refine cm S.ff fun b hb o e sq=>?_
  exact⟨o,ext b o (fun q=>by rw[q,ga] at e;cases e;exact sq _ da) e,sq⟩
 ·refine qK (S.kp p hp) fun vs k1 k2=>?_
  exact⟨ext p.1 p.2 (Ne.symm (GG p hp)) k1,vs,k2⟩
end Mine
namespace Mine
open PySem
noncomputable abbrev Cx.M(c:Cx):Model:=model c.prog c.w
noncomputable def VD(C:Value):Prop:=C=.ref 56
noncomputable def Sz(C:Value)(vs:Array Value):Prop:=1<vs.size∧(vs[2]?=some .none∨VD C)
noncomputable def xg(f:Fx)(e:Addr)(C:Value)(h:Heap):Prop:=
 (f.hE.get? e=none∧∀p∈f.keep,e≠p.1)∧∃oe vs,h.get? e=some oe∧oe.cls=C∧oe.data=.fields vs∧Sz C vs∧
  (vs[1]?=some .none∨∃T oT ts fl,vs[1]?=some (.ref T)∧(f.hE.get? T=none∧∀p∈f.keep,T≠p.1)∧T≠e∧h.get? T=some oT∧oT.data=.fields ts∧ts[3]?=some fl∧
   (fl=.none∨∃L,f.env.frame=some L∧fl=rawInt L))
noncomputable def iY(c:Cx)(f:Fx)(m:bL)(X:Value→AH→Prop)(x:Value)(s':Shared):Prop:=
 ∃C H' e,x=.ref e∧St c f m H' s'∧xg f e C s'.heap∧X C H'
noncomputable def hA(c:Cx)(f:Fx)(m:bL)(Q:V→AH→Prop)(s:Shared)(v:Value)(s':Shared):Prop:=
 Tk s.heap s'.heap∧∃d H',Is s'.heap d v∧St c f m H' s'∧Q d H'
structure Ev(c:Cx)(f:Fx)(e:Expr)(m:bL)(H:AH)(Q:V→AH→Prop)(X:Value→AH→Prop):Prop where
 mk::
 run :
  ∀s,St c f m H s→wpAny c.M f.A (eval e f.env) (hA c f m Q s) (iY c f m X) s
noncomputable instance {c:Cx} {f:Fx} {e:Expr} {m:bL} {H:AH} {Q:V→AH→Prop} {X:Value→AH→Prop}:CoeFun (Ev c f e m H Q X) (fun _=>
  ∀s,St c f m H s→wpAny c.M f.A (eval e f.env) (hA c f m Q s) (iY c f m X) s):=⟨Ev.run⟩
structure Op1(c:Cx)(f:Fx)(t:Value→Sem Value)(d:V)(m:bL)(H:AH)(Q:V→AH→Prop)(X:Value→AH→Prop):Prop where
 mk::
 run :
  ∀s v,St c f m H s→Is s.heap d v→wpAny c.M f.A (t v) (hA c f m Q s) (iY c f m X) s
noncomputable instance {c:Cx} {f:Fx} {t:Value→Sem Value} {d:V} {m:bL} {H:AH} {Q:V→AH→Prop} {X:Value→AH→Prop}:CoeFun (Op1 c f t d m H Q X) (fun _=>
  ∀s v,St c f m H s→Is s.heap d v→wpAny c.M f.A (t v) (hA c f m Q s) (iY c f m X) s):=⟨Op1.run⟩
structure Hb(c:Cx)(f:Fx)(t:Value→Value→Sem Value)(d₁ d₂:V)(m:bL)(H:AH)(Q:V→AH→Prop)(X:Value→AH→Prop):Prop where
 mk::
 run :
  ∀s v₁ v₂,St c f m H s→Is s.heap d₁ v₁→Is s.heap d₂ v₂→wpAny c.M f.A (t v₁ v₂) (hA c f m Q s) (iY c f m X) s
noncomputable instance {c:Cx} {f:Fx} {t:Value→Value→Sem Value} {d₁ d₂:V} {m:bL} {H:AH} {Q:V→AH→Prop} {X:Value→AH→Prop}:CoeFun (Hb c f t d₁ d₂ m H Q X) (fun _=>
  ∀s v₁ v₂,St c f m H s→Is s.heap d₁ v₁→Is s.heap d₂ v₂→wpAny c.M f.A (t v₁ v₂) (hA c f m Q s) (iY c f m X) s):=⟨Hb.run⟩
structure qk(c:Cx)(f:Fx)(t:List Value→Sem Value)(ds:List V)(m:bL)(H:AH)(Q:V→AH→Prop)(X:Value→AH→Prop):Prop where
 mk::
 run :
  ∀s vs,St c f m H s→aA s.heap ds vs→wpAny c.M f.A (t vs) (hA c f m Q s) (iY c f m X) s
noncomputable instance {c:Cx} {f:Fx} {t:List Value→Sem Value} {ds:List V} {m:bL} {H:AH} {Q:V→AH→Prop} {X:Value→AH→Prop}:CoeFun (qk c f t ds m H Q X) (fun _=>
  ∀s vs,St c f m H s→aA s.heap ds vs→wpAny c.M f.A (t vs) (hA c f m Q s) (iY c f m X) s):=⟨qk.run⟩
noncomputable def kH(c:Cx)(A:Around)(t:Sem Value)(s:Shared)(d:V):Prop:=
 wpAny c.M A t (fun v s'=>aM s.heap s'.heap∧s'.gens=s.gens∧s'.os=s.os∧Is s'.heap d v) (fun _ _=>False) s
section
variable {c:Cx} {f:Fx} {m:bL} {H:AH} {Q Q':V→AH→Prop} {X X':Value→AH→Prop}
theorem hA.mono{s:Shared}{v:Value}{s':Shared}(h:hA c f m Q s v s')(k:∀d H,Q d H→Q' d H):hA c f m Q' s v s':=
 mL h fun d H' t i S q=>⟨t,d,H',i,S,k d H' q⟩
theorem iY.mono{x:Value}{s':Shared}(h:iY c f m X x s')(k:∀C H,X C H→X' C H):iY c f m X' x s':=
 q7 h fun C H' e p S F q=>⟨C,H',e,p,S,F,k C H' q⟩
theorem Ev.mono{e:Expr}(h:Ev c f e m H Q X)(k:∀d H,Q d H→Q' d H)(kx:∀C H,X C H→X' C H):Ev c f e m H Q' X':=
 .mk fun s S=>wpAny_mono (h s S) (fun _ _ g=>g.mono k) fun _ _ g=>g.mono kx
theorem kH.good{t:Sem Value}{s:Shared}{d:V}(h:kH c f.A t s d)(S:St c f m H s)(q:Q d H):wpAny c.M f.A t (hA c f m Q s) (iY c f m X) s:=
 wpAny_mono h (fun _ _ DJ=>uD DJ fun g hg ho i=>⟨g.tk,d,H,i,S.grow g hg ho,q⟩) fun _ _ z=>z.elim
noncomputable def Pe(c:Cx)(f:Fx)(e:Expr)(m:bL)(H:AH)(d:V):Prop:=Ev c f e m H (fun d' H'=>d'=d∧H'=H) (fun _ _=>False)
noncomputable instance {c:Cx} {f:Fx} {e:Expr} {m:bL} {H:AH} {d:V}:CoeFun (Pe c f e m H d) (fun _=>∀s,St c f m H s→wpAny c.M f.A (eval e f.env) (hA c f m (fun d' H'=>d'=d∧H'=H) s) (iY c f m (fun _ _=>False)) s):=⟨fun h=>Ev.run h⟩
theorem Pe.ev{e:Expr}{d:V}(h:Pe c f e m H d)(q:Q d H):Ev c f e m H Q X:=
 Ev.mono h (fun _ _ DI=>q3 DI fun a b=>by subst a;subst b;exact q) fun _ _ z=>z.elim
theorem xr{l r:Expr}{op:Operator}{p:Pos}(h:Ev c f l m H (fun d₁ H₁=>Ev c f r m H₁ (fun d₂ H₂=>Hb c f (binaryOp op) d₁ d₂ m H₂ Q X) X) X):Ev c f (.BinOp l op r p) m H Q X:=.mk fun s S=>
 wpAny_BinOp (wpAny_mono (h s S) (fun v₁ s₁ DH=>mL DH fun d₁ H₁ t₁ i₁ S₁ q₁=>wpAny_mono (q₁ s₁ S₁) (fun v₂ s₂ ⟨t₂,d₂,H₂,i₂,S₂,q₂⟩=>
  wpAny_mono (q₂ s₂ v₁ v₂ S₂ (i₁.tk t₂) i₂) (fun v s₃ DG=>q3 DG fun t₃ r=>⟨t₁.trans (t₂.trans t₃),r⟩) fun _ _ x=>x) fun _ _ x=>x) fun _ _ x=>x)
theorem Hr{l r:Expr}{op:CmpOp}{p:Pos}(h:Ev c f l m H (fun d₁ H₁=>Ev c f r m H₁ (fun d₂ H₂=>Hb c f (compareOp op) d₁ d₂ m H₂ Q X) X) X)
  (hm:behindInMarks op r=false:=by with_unfolding_all rfl):Ev c f (.Compare l [op] [r] p) m H Q X:=.mk fun s S=>
 wpAny_Compare1 (wpAny_mono (h s S) (fun v₁ s₁ DF=>mL DF fun d₁ H₁ t₁ i₁ S₁ q₁=>wpAny_mono (q₁ s₁ S₁) (fun v₂ s₂ ⟨t₂,d₂,H₂,i₂,S₂,q₂⟩=>
  wpAny_mono (q₂ s₂ v₁ v₂ S₂ (i₁.tk t₂) i₂) (fun v s₃ DE=>q3 DE fun t₃ r=>⟨t₁.trans (t₂.trans t₃),r⟩) fun _ _ x=>x) fun _ _ x=>x) fun _ _ x=>x) hm
theorem xq{i:Int}{k:Nat}{p:Pos}(q:Q (.int i) H):Ev c f (.Constant (.int i) k p) m H Q X:=.mk fun s S=>
 wpAny_Constant_int ⟨Tk.refl _,.int i,H,⟨_,rfl⟩,S.grow (s':={ s with toks:=s.toks+1 }) (aM.refl _) rfl rfl,q⟩
theorem Hq{x:Str}{k:Nat}{p:Pos}(q:Q (.str x) H):Ev c f (.Constant (.str x) k p) m H Q X:=.mk fun s S=>
 wpAny_Constant_str ⟨Tk.refl _,.str x,H,⟨_,rfl⟩,S.grow (s':={ s with toks:=s.toks+1 }) (aM.refl _) rfl rfl,q⟩
theorem zh{k:Nat}{p:Pos}(q:Q .none H):Ev c f (.Constant .none k p) m H Q X:=.mk fun s S=>
 wpAny_Constant_none ⟨Tk.refl _,.none,H,rfl,S,q⟩
theorem zk{b:Bool}{k:Nat}{p:Pos}(q:Q (.bool b) H):Ev c f (.Constant (.bool b) k p) m H Q X:=.mk fun s S=>
 wpAny_Constant_bool ⟨Tk.refl _,.bool b,H,rfl,S,q⟩
theorem Hp{x:Str}{p:Pos}{d:V}(hx:m x=some d)(q:Q d H)(hk:autoParam (f.env.scope.kind=.function) aR._auto_1)(hd:autoParam ((x == ("__debug__":Str))=false) aD._auto_1)
  (hn:autoParam ((x == ("__classdict__":Str))=false) aD._auto_1):Ev c f (.Name x p) m H Q X:=.mk fun s S=>by
 refine q2 (S.loc) fun mv n k=>?_
 rcases k x d hx with ⟨e,v,a,b⟩ | ⟨e | e,a,v,b,r,u⟩
 ·exact wpAny_Name (wpAny_loadName_local hk e n a ⟨Tk.refl _,d,H,b,S,q⟩) hd
 ·exact wpAny_Name (wpAny_loadName_cell hk e b r ⟨Tk.refl _,d,H,u,S,q⟩) hd
 ·exact wpAny_Name (wpAny_loadName_free hk e b r ⟨Tk.refl _,d,H,u,S,q⟩ hn) hd
end
end Mine
namespace Mine
open PySem
structure iw(f:Fx):Prop where
 frames:f.A.frames=some f.bK
 head:∃r,f.bK=f.env::r
 frame:f.env.frame=some f.env.locals
 kind:f.env.scope.kind=.function
noncomputable def mS(f:Fx)(e:Addr)(C:Value)(fl:Value)(h:Heap):Prop:=
 (f.hE.get? e=none∧∀p∈f.keep,e≠p.1)∧∃oe vs T oT ts,h.get? e=some oe∧oe.cls=C∧oe.data=.fields vs∧Sz C vs∧
  vs[1]?=some (.ref T)∧(f.hE.get? T=none∧∀p∈f.keep,T≠p.1)∧T≠e∧h.get? T=some oT∧oT.data=.fields ts∧ts[3]?=some fl
theorem mS.fly_here{f:Fx}{e:Addr}{C:Value}{h:Heap}{L:Addr}(hL:f.env.frame=some L)(k:mS f e C (rawInt L) h):xg f e C h:=by
 refine X8 k fun oe vs T oT ts n a1 a2 a3 a4 a5 a6 a7 a8 a9 B7=>?_;clear k
 exact⟨n,oe,vs,a1,a2,a3,a4,.inr ⟨T,oT,ts,_,a5,a6,a7,a8,a9,B7,.inr ⟨L,hL,rfl⟩⟩⟩
section
variable {c:Cx} {f:Fx} {m:bL} {H:AH} {E:Value→Shared→Prop} {s:Shared} {e:Addr} {C:Value} {Q:Unit→Shared→Prop}
theorem mO(S:St c f m H s){oe:Obj}{vs:Array Value}(he:s.heap.get? e=some oe)(hd:oe.data=.fields vs):e∉f.fs:=fun hm=>by
 refine xZ (S.ff.mem hm) fun o _ ho UA=>?_
 rw[he] at ho;cases ho;exact UA vs hd
theorem p8(O:iw f)(S:St c f m H s){oe:Obj}{vs:Array Value}{head:Value}{yG:Bool}(hn:f.hE.get? e=none∧∀p∈f.keep,e≠p.1)(he:s.heap.get? e=some oe)(hd:oe.data=.fields vs)(hsz:Sz C vs)(hC:oe.cls=C)
  (hQ:∀s',St c f m H s'→mS f e C (rawInt f.env.locals) s'.heap→Q () s') :
  wpAny c.M f.A (do let a ← frameOf f.env;let pl ← entryPlaceOf f.env.locals yG;let b ← EntryCells.newEntry head a .none (rawInt f.env.locals) .none pl;setField (.ref e) 1 b) Q E s:=by
 refine q4 (O.head) fun r hr=>?_
 have ff:=S.ff
 rw[hr] at ff
 refine wpAny_bind (wpAny_frameOf_fun (O.frames.trans (by rw[hr])) ff O.frame fun h₁ Z3=>?_)
 refine wpAny_bind (wpAny_entryPlaceOf fun pl Z9=>?_)
 unfold EntryCells.newEntry newFields
 refine wpAny_bind (wpAny_newObj_type ?_ (Z9.sizeOk5 _ _ _ _ _))
 rw[← hr] at Z3
 refine q3 (S.slots (s':={ s with heap:=h₁ }) Z3 rfl rfl) fun S₁ _=>?_
 have aan:=mO S he hd
 have UN:h₁.get? e=some oe:=(Z3.2.1 e aan).trans he
 refine wpAny_setField (Heap.get?_push_of_some _ UN) hd hsz.1 ?_
 have B0:h₁.objs.size≠e:=Nat.ne_of_gt (Heap.lt_size UN)
 have xG:h₁.get? h₁.objs.size=none:=by
  cases q:h₁.get? h₁.objs.size with
  | none=>rfl
  | some o=>exact absurd (Heap.lt_size q) (Nat.lt_irrefl _)
 have S₂:=S₁.grow (s':={ s with heap:=h₁.push { cls:=.type "traceback",dict:=none,data:=.fields ([head,.ref f.env.locals,.none,rawInt f.env.locals,.none]++(if pl.isEmpty then List.replicate 6 Value.none else pl)).toArray } }) (aM.push _ _) rfl rfl
 have GI:=Heap.get?_push_of_some { cls:=.type "traceback",dict:=none,data:=.fields ([head,.ref f.env.locals,.none,rawInt f.env.locals,.none]++(if pl.isEmpty then List.replicate 6 Value.none else pl)).toArray } UN
 obtain⟨S₃,_⟩:=S₂.qJ (s':={ s with heap:=(h₁.push { cls:=.type "traceback",dict:=none,data:=.fields ([head,.ref f.env.locals,.none,rawInt f.env.locals,.none]++(if pl.isEmpty then List.replicate 6 Value.none else pl)).toArray }).update e (Obj.mapFields (·.setIfInBounds 1 (Value.ref h₁.objs.size))) })
  GI hd hn.1 hn.2 (Heap.SameBut.update ..).extBut rfl rfl
 have UO:=Obj.data_mapFields hd (·.setIfInBounds 1 (Value.ref h₁.objs.size))
 have he₃:=Heap.get?_update_self (Obj.mapFields (·.setIfInBounds 1 (Value.ref h₁.objs.size))) GI (Obj.isFreed_of_fields UO)
 have hT₃:=(Heap.get?_update_other (h₁.push { cls:=.type "traceback",dict:=none,data:=.fields ([head,.ref f.env.locals,.none,rawInt f.env.locals,.none]++(if pl.isEmpty then List.replicate 6 Value.none else pl)).toArray })
  (Obj.mapFields (·.setIfInBounds 1 (Value.ref h₁.objs.size))) (Ne.symm B0)).trans (Heap.get?_push_size h₁ rfl)
 exact hQ _ S₃ ⟨hn,_,_,h₁.objs.size,_,_,he₃,(Obj.cls_mapFields _ _).trans hC,UO,⟨by simpa using hsz.1,hsz.2.imp (fun h=>by rw[Array.getElem?_setIfInBounds_ne (by decide)];exact h) id⟩,by simp[hsz.1],⟨S₁.old xG,fun p hp q=>by have:=(S₁.kp p hp).1;rw[← q] at this;exact absurd (xG.symm.trans this) (fun z=>nomatch z)⟩,B0,hT₃,rfl,by simp⟩
theorem nU(O:iw f)(S:St c f m H s)(F:xg f e C s.heap)(hQ:∀s',St c f m H s'→mS f e C (rawInt f.env.locals) s'.heap→Q () s'):wpAny c.M f.A (noteFrame (.ref e) f.env) Q E s:=by
 refine q14 F fun oe vs hn he hC hd hsz h1=>?_;clear F
 unfold noteFrame
 simp only[O.frame]
 rcases h1 with h1 | ⟨T,oT,ts,fl,h1,xG,B0,hT,B1,h3,hfl⟩
 ·refine wpAny_bind (wpAny_field he hd h1 ?_)
  rw[if_neg (by decide)]
  exact p8 O S hn he hd hsz hC hQ
 ·refine wpAny_bind (wpAny_field he hd h1 ?_)
  rw[if_pos (show(Value.ref T != Value.none)=true from by simp)]
  refine wpAny_bind (wpAny_field hT B1 h3 ?_)
  by_cases hh:(fl == rawInt f.env.locals)=true
  ·rw[if_pos hh]
   refine wpAny_pure (hQ s S ⟨hn,oe,vs,T,oT,ts,he,hC,hd,hsz,h1,xG,B0,hT,B1,?_⟩)
   rw[h3,beq_iff_eq.mp hh]
  ·rw[if_neg hh]
   refine wpAny_bind (wpAny_setField hT B1 (Array.getElem?_eq_some_iff.mp h3).1 ?_)
   refine q3 (S.qJ (s':={ s with heap:=s.heap.update T (Obj.mapFields (·.setIfInBounds 3 Value.none)) }) hT B1 xG.1 xG.2 (Heap.SameBut.update ..).extBut rfl rfl) fun S₁ _=>?_
   have UN:(s.heap.update T (Obj.mapFields (·.setIfInBounds 3 Value.none))).get? e=some oe:=(Heap.get?_update_other _ _ B0).trans he
   exact p8 O S₁ hn UN hd hsz hC hQ
theorem jX(S:St c f m H s){fl:Value}{fr:Option Addr}(F:mS f e C fl s.heap)(hQ:∀s',St c f m H s'→mS f e C (fr.elim .none fun x=>rawInt x) s'.heap→Q () s'):wpAny c.M f.A (setFlight (.ref e) fr) Q E s:=by
 refine X8 F fun oe vs T oT ts hn he hC hd hsz h1 xG B0 hT B1 h3=>?_;clear F
 unfold setFlight
 refine wpAny_bind (wpAny_field he hd h1 ?_)
 rw[if_pos (show(Value.ref T != Value.none)=true from by simp)]
 have hs3:=(Array.getElem?_eq_some_iff.mp h3).1
 refine wpAny_setField hT B1 hs3 ?_
 refine q3 (S.qJ (s':={ s with heap:=s.heap.update T (Obj.mapFields (·.setIfInBounds 3 (fr.elim .none fun x=>rawInt x))) }) hT B1 xG.1 xG.2 (Heap.SameBut.update ..).extBut rfl rfl) fun S₁ _=>?_
 have UO:=Obj.data_mapFields B1 (·.setIfInBounds 3 (fr.elim Value.none fun x=>rawInt x))
 exact hQ _ S₁ ⟨hn,oe,vs,T,_,_,(Heap.get?_update_other _ _ B0).trans he,hC,hd,hsz,h1,xG,B0,Heap.get?_update_self _ hT (Obj.isFreed_of_fields UO),UO,by simp[hs3]⟩
theorem qQ(O:iw f)(S:St c f m H s)(F:xg f e C s.heap)(hQ:∀s',St c f m H s'→mS f e C .none s'.heap→Q () s'):wpAny c.M f.A (leaving f.env (.ref e)) Q E s:=by
 unfold leaving
 exact wpAny_bind (nU O S F fun s₁ S₁ F₁=>jX S₁ F₁ hQ)
theorem pI(O:iw f)(S:St c f m H s)(F:xg f e C s.heap)(hE:∀s',St c f m H s'→mS f e C (rawInt f.env.locals) s'.heap→E (.ref e) s'):notedBy c.M f.A f.env E (.ref e) s:=by
 unfold notedBy
 exact nU O S F hE
theorem kB(O:iw f)(S:St c f m H s){fl:Value}(F:mS f e C fl s.heap)(hE:∀s',St c f m H s'→xg f e C s'.heap→E (.ref e) s'):cameBackBy c.M f.A f.env E (.ref e) s:=by
 unfold cameBackBy
 refine q15 (id F) fun oe vs T oT ts hn he hC hd hsz h1 r=>?_
 refine wpAny_bind (wpAny_field he hd h1 ?_)
 rw[if_neg (by simp)]
 rw[O.frame]
 exact jX (fr:=some f.env.locals) S F fun s' S' F'=>hE s' S' (F'.fly_here O.frame)
end
end Mine
namespace Mine
open PySem
structure bw(k:Nat)(A:Around):Prop where
 handled:A.handled=none
 depth:A.depth+3*k+10<recursionLimit
 units:A.units+12*k+200<cLine
theorem bw.deeper{k:Nat}{A:Around}(h:bw (k+1) A)(env:Env):bw k (A.deeper env):=
 ⟨h.handled,by show A.depth+1+3*k+10<_;have:=h.depth;exact om0 this,by show A.units+3+12*k+200<_;have:=h.units;exact om2 this⟩
theorem bw.le{k j:Nat}{A:Around}(h:bw k A)(hj:j≤k):bw j A:=
 ⟨h.handled,by have:=h.depth;exact om1 hj this,by have:=h.units;exact om3 hj this⟩
structure HZ(c:Cx)(bK:List Env)(H:AH)(s:Shared):Prop where
 rep:mw c H s.heap
 base:c.base.StaysIn s.heap
 hb:∀b o,c.base.get? b=some o→H b=none
 ff:s.heap.FunFrames c.base bK
 fh:∀a∈bK.filterMap (·.frame),H a=none
 big:∀a x,H a=some x→cStatics<a
 gens:s.gens=#[]
 os:s.os=c.os
structure uJ(c:Cx)(bK:List Env)(H:AH)(s:Shared)(H':AH)(s':Shared):Prop where
 rep:mw c H' s'.heap
 off:∀a o,s.heap.get? a=some o→H a=none→(a∉bK.filterMap (·.frame)→s'.heap.get? a=some o)∧(a∈bK.filterMap (·.frame)→∃sl,s'.heap.get? a=some { o with slots:=sl })
 i6:∀a o,s.heap.get? a=some o→H a=none→H' a=none
 up:∀a,H a≠none→H' a≠none
 big:∀a x,H' a=some x→cStatics<a
 gens:s'.gens=#[]
 os:s'.os=c.os
noncomputable def zb(h:Heap)(e:Addr)(C:Value)(h':Heap):Prop:=
 h.get? e=none∧∃oe vs T oT ts,h'.get? e=some oe∧oe.cls=C∧oe.data=.fields vs∧Sz C vs∧
  vs[1]?=some (.ref T)∧h.get? T=none∧T≠e∧h'.get? T=some oT∧oT.data=.fields ts∧ts[3]?=some .none
structure Fn(c:Cx)(k:Nat)(fv:Value)(args:List V)(H:AH)(Q:V→AH→Prop)(X:Value→AH→Prop):Prop where
 mk::
 run :
  ∀A bK s vs,bw k A→A.frames=some bK→HZ c bK H s→aA s.heap args vs→
   codeAny c.M A (.call fv ⟨vs,[]⟩) (fun r s'=>∃H',uJ c bK H s H' s'∧
    match r with
    | .ok (.ret v)=>∃d,Is s'.heap d v∧Q d H'
    | .ok _=>False
    | .error x=>∃C e,x=.ref e∧zb s.heap e C s'.heap∧X C H') s
noncomputable instance {c:Cx} {k:Nat} {fv:Value} {args:List V} {H:AH} {Q:V→AH→Prop} {X:Value→AH→Prop}:CoeFun (Fn c k fv args H Q X) (fun _=>
  ∀A bK s vs,bw k A→A.frames=some bK→HZ c bK H s→aA s.heap args vs→
   codeAny c.M A (.call fv ⟨vs,[]⟩) (fun r s'=>∃H',uJ c bK H s H' s'∧
    match r with
    | .ok (.ret v)=>∃d,Is s'.heap d v∧Q d H'
    | .ok _=>False
    | .error x=>∃C e,x=.ref e∧zb s.heap e C s'.heap∧X C H') s):=⟨Fn.run⟩
section
variable {c:Cx} {f:Fx} {m:bL} {H:AH} {s:Shared}
theorem St.ent(S:St c f m H s):HZ c f.bK H s:=⟨S.rep,S.base,S.hb,S.ff,S.fh,S.big,S.gens,S.os⟩
theorem HZ.tk{bK:List Env}{H':AH}{s':Shared}(E:HZ c bK H s)(L:uJ c bK H s H' s'):Tk s.heap s'.heap:=fun b o vs n e cl dt=>by
 have hb:H b=none:=by
  cases q:H b with
  | none=>rfl
  | some x=>refine q1 ((E.rep b x q).obj) fun o' g nt _=>?_;rw[e] at g;cases g;exact absurd dt (nt _ _ cl)
 by_cases q:b∈bK.filterMap (·.frame)
 ·refine q4 ((L.off b o e hb).2 q) fun sl z=>?_;exact⟨_,z,cl,dt⟩
 ·exact⟨o,(L.off b o e hb).1 q,cl,dt⟩
theorem uJ.data{bK:List Env}{H':AH}{s':Shared}(L:uJ c bK H s H' s'){a:Addr}{o:Obj}(e:s.heap.get? a=some o)(h:H a=none):∃sl,s'.heap.get? a=some { o with slots:=sl }:=by
 by_cases q:a∈bK.filterMap (·.frame)
 ·exact(L.off a o e h).2 q
 ·exact⟨o.slots,(L.off a o e h).1 q⟩
theorem St.back(S:St c f m H s){H':AH}{s':Shared}(L:uJ c f.bK H s H' s'):St c f m H' s'∧Tk s.heap s'.heap:=by
 have t:=S.ent.tk L
 refine⟨⟨L.rep,fun b o e=>?_,S.bE,fun b o e=>?_,fun a o e q=>?_,fun a o e q=>?_,fun a q=>L.up a (S.up a q),?_,S.gU,?_,fun x a e=>?_,S.apart,?_,fun a q=>?_,L.big,fun p hp=>?_,L.gens,L.os⟩,t⟩
 ·refine(L.off b o (S.base b o e) (S.hb b o e)).1 fun q=>?_
  have:=(S.ff.mem q).1;rw[e] at this;cases this
 ·exact L.i6 b o (S.base b o e) (S.hb b o e)
 ·have hH:=S.i6 a o e q
  refine q3 (S.off a o e q) fun k1 k2=>?_
  refine⟨fun n=>(L.off a o (k1 n) hH).1 n,fun n=>?_⟩
  refine q4 (k2 n) fun sl z=>?_
  refine q4 ((L.off a _ z hH).2 n) fun Xc z'=>?_
  exact⟨Xc,z'⟩
 ·refine q3 (S.off a o e q) fun k1 k2=>?_
  by_cases n:a∈f.fs
  ·refine q4 (k2 n) fun sl z=>?_;exact L.i6 a _ z (S.i6 a o e q)
  ·exact L.i6 a _ (k1 n) (S.i6 a o e q)
 ·refine q2 (S.loc) fun mv XW k=>?_;obtain⟨oL,es,ep,hL,r⟩:=XW
  refine q4 (L.data hL S.mG) fun sl z=>?_
  refine⟨mv,⟨_,es,ep,z,r⟩,fun x d e=>(k x d e).mono t fun a v ea w=>?_⟩
  refine q2 w fun o w1 w2=>?_;clear w
  refine q4 (L.data w1 (S.jd x a ea).1) fun sl z=>?_
  exact⟨_,z,w2⟩
 ·refine q2 (S.loc) fun mv XV k=>?_;obtain⟨oL,es,ep,hL,r⟩:=XV
  exact L.i6 _ _ hL S.mG
 ·refine q9 (S.jd x a e) fun ov o p q r z zz=>?_
  refine q4 (L.data z p) fun sl z'=>?_
  exact⟨L.i6 a o z p,q,r,ov,_,z',zz⟩
 ·refine cm S.ff fun b hb o e hd=>?_
  refine q4 (L.data e (S.fh b hb)) fun sl z=>?_
  exact⟨_,z,hd⟩
 ·refine xZ (S.ff.mem q) fun o _ e _=>?_
  exact L.i6 a o e (S.fh a q)
 ·refine qK (S.kp p hp) fun vs k1 k2=>?_
  have hH:H p.1=none:=by
   cases z:H p.1 with
   | none=>rfl
   | some y=>refine q5 ((S.rep p.1 y z).obj) fun o' g' _ nf _=>?_;rw[k1] at g';cases g';exact absurd k2 (nf vs)
  refine⟨(L.off p.1 p.2 k1 hH).1 fun q=>?_,vs,k2⟩
  refine xZ (S.ff.mem q) fun o _ ho UA=>?_
  rw[k1] at ho;cases ho;exact UA vs k2
theorem zb.fly(S:St c f m H s){e:Addr}{C:Value}{h':Heap}(k:zb s.heap e C h'):xg f e C h':=by
 refine X8 k fun oe vs T oT ts n a1 a2 a3 a4 a5 a6 a7 a8 a9 B7=>?_;clear k
 have kk:∀b,s.heap.get? b=none→∀p∈f.keep,b≠p.1:=fun b hb p hp q=>by have:=(S.kp p hp).1;rw[← q,hb] at this;cases this
 exact⟨⟨S.old n,kk e n⟩,oe,vs,a1,a2,a3,a4,.inr ⟨T,oT,ts,.none,a5,⟨S.old a6,kk T a6⟩,a7,a8,a9,B7,.inl rfl⟩⟩
theorem Fn.op{k:Nat}{fv:Value}{args:List V}{Q:V→AH→Prop}{X:Value→AH→Prop}(h:Fn c k fv args H Q X)(R:bw k f.A)(hf:f.A.frames=some f.bK){vs:List Value}(S:St c f m H s)(i:aA s.heap args vs):
  wpAny c.M f.A (call fv vs) (hA c f m Q s) (iY c f m X) s:=by
 refine wpAny_call (codeAny_mono (h f.A f.bK s vs R hf S.ent i) fun r s' z=>?_)
 refine q2 z fun H' L Lm=>?_;clear z;have z:=Lm;clear Lm
 refine q3 (S.back L) fun S' t=>?_
 cases r with
 | error x=>refine q0 z fun C e XX g q=>?_;clear z;obtain rfl:=XX;exact⟨C,H',e,rfl,S',g.fly S,q⟩
 | ok fl=>cases fl with
  | ret v=>refine q2 z fun d i' q=>?_;clear z;exact⟨t,d,H',i',S',q⟩
  | _=>exact z.elim
end
inductive Out where
 | next | brk | cont
 | ret (d:V)
 | exc (C:Value)
noncomputable def Hl(h:Heap):Flow→Out→Prop
 | .next,o=>o=.next
 | .brk,o=>o=.brk
 | .cont,o=>o=.cont
 | .ret v,o=>∃d,o=.ret d∧Is h d v
noncomputable abbrev Ko:=Out→bL→AH→Prop
noncomputable def xo(c:Cx)(f:Fx)(Q:Ko)(fl:Flow)(s':Shared):Prop:=∃o m' H',Hl s'.heap fl o∧St c f m' H' s'∧Q o m' H'
noncomputable def iT(c:Cx)(f:Fx)(Q:Ko)(x:Value)(s':Shared):Prop:=∃C m' H' e,x=.ref e∧St c f m' H' s'∧xg f e C s'.heap∧Q (.exc C) m' H'
structure Ex(c:Cx)(f:Fx)(xC:List Stmt)(m:bL)(H:AH)(Q:Ko):Prop where
 mk::
 run :
  ∀s,St c f m H s→wpAny c.M f.A (execs xC f.env) (xo c f Q) (iT c f Q) s
noncomputable instance {c:Cx} {f:Fx} {xC:List Stmt} {m:bL} {H:AH} {Q:Ko}:CoeFun (Ex c f xC m H Q) (fun _=>
  ∀s,St c f m H s→wpAny c.M f.A (execs xC f.env) (xo c f Q) (iT c f Q) s):=⟨Ex.run⟩
structure HY(c:Cx)(f:Fx)(st:Stmt)(m:bL)(H:AH)(Q:Ko):Prop where
 mk::
 run :
  ∀s,St c f m H s→wpAny c.M f.A (exec st f.env) (xo c f Q) (iT c f Q) s
noncomputable instance {c:Cx} {f:Fx} {st:Stmt} {m:bL} {H:AH} {Q:Ko}:CoeFun (HY c f st m H Q) (fun _=>
  ∀s,St c f m H s→wpAny c.M f.A (exec st f.env) (xo c f Q) (iT c f Q) s):=⟨HY.run⟩
noncomputable def Fin(Q:V→AH→Prop)(X:Value→AH→Prop):Ko:=fun o _ H=>match o with
 | .ret d=>Q d H
 | .next=>Q .none H
 | .exc C=>X C H
 | _=>False
section
variable {c:Cx} {f:Fx} {m:bL} {H:AH}
theorem iY.ex{X:Value→AH→Prop}{Q:Ko}{x:Value}{s':Shared}(h:iY c f m X x s')(k:∀C H',X C H'→Q (.exc C) m H'):iT c f Q x s':=
 q7 h fun C H' e p S F q=>⟨C,m,H',e,p,S,F,k C H' q⟩
theorem iT.mono{Q Q':Ko}{x:Value}{s':Shared}(h:iT c f Q x s')(k:∀C m H,Q (.exc C) m H→Q' (.exc C) m H):iT c f Q' x s':=
 Hx h fun C m' H' e p S F q=>⟨C,m',H',e,p,S,F,k C m' H' q⟩
theorem aO{Q:Ko}(q:Q .next m H):Ex c f [] m H Q:=.mk fun s S=>wpAny_execs_nil ⟨.next,m,H,rfl,S,q⟩
theorem sY{st:Stmt}{rest:List Stmt}{Q Q₁:Ko}(h:HY c f st m H Q₁)(hn:∀m' H',Q₁ .next m' H'→Ex c f rest m' H' Q)(hb:∀m' H',Q₁ .brk m' H'→Q .brk m' H')(hc:∀m' H',Q₁ .cont m' H'→Q .cont m' H')
  (hr:∀d m' H',Q₁ (.ret d) m' H'→Q (.ret d) m' H') (hx:∀C m' H',Q₁ (.exc C) m' H'→Q (.exc C) m' H'):Ex c f (st::rest) m H Q:=.mk fun s S=>by
 refine wpAny_execs_cons (wpAny_mono (h s S) (fun fl s' z=>?_) fun x s' z=>z.mono hx)
 refine q8 z fun o m' H' fi S' q=>?_;clear z
 cases fl with
 | next=>cases fi;exact hn m' H' q s' S'
 | brk=>cases fi;exact⟨_,m',H',rfl,S',hb m' H' q⟩
 | cont=>cases fi;exact⟨_,m',H',rfl,S',hc m' H' q⟩
 | ret v=>refine q2 fi fun d XU i=>?_;clear fi;obtain rfl:=XU;exact⟨_,m',H',⟨d,rfl,i⟩,S',hr d m' H' q⟩
noncomputable def aa7(c:Cx)(f:Fx)(rest:List Stmt)(Q:Ko):Ko:=fun o m H=>match o with
 | .next=>Ex c f rest m H Q
 | o=>Q o m H
theorem Hn{st:Stmt}{rest:List Stmt}{Q:Ko}(h:HY c f st m H (aa7 c f rest Q)):Ex c f (st::rest) m H Q:=
 sY h (fun _ _ z=>z) (fun _ _ z=>z) (fun _ _ z=>z) (fun _ _ _ z=>z) (fun _ _ _ z=>z)
theorem iD{x:Str}{v:Value}{d:V}{s:Shared}{E:Value→Shared→Prop}{Q:Unit→Shared→Prop}(S:St c f m H s)(i:Is s.heap d v)(hx:(f.env.kindOf x=some .local)∨(f.env.kindOf x=some .cell∧(f.env.cells.lookup x).isSome=true))
  (oV:f.fn=true) (hk:f.env.scope.kind=.function) (hQ:∀s',St c f (m.set x d) H s'→Tk s.heap s'.heap→(∀b o,b≠f.env.locals→(∀x a,f.env.cells.lookup x=some a→b≠a)→s.heap.get? b=some o→s'.heap.get? b=some o)→Q () s'):wpAny c.M f.A (storeName f.env x v) Q E s:=by
 rcases hx with hl | ⟨hl,hs⟩
 ·refine q2 (S.loc) fun mv n k=>?_
  refine wpAny_storeName_local hl n (fun h' hn hs=>?_) (by rw[hk];rfl)
  have:∀mv,s.heap.Ns f.env.locals mv→h'.Ns f.env.locals (fun y=>if y=x then some v else mv y):=fun mv' n'=>by
   have e:mv=mv':=by
    refine q7 n fun o1 es1 ep1 g1 d1 _ e1=>?_;clear n
    refine q7 n' fun o2 es2 ep2 g2 d2 _ e2=>?_;clear n'
    rw[g1] at g2;cases g2;rw[d1] at d2;cases d2
    funext y;rw[← e1 y,← e2 y]
   rw[← e];exact hn
  refine q3 (S.store (s':={ s with heap:=h',toks:=s.toks+1 }) oV hl hs this rfl rfl i) fun S' t=>?_
  exact hQ _ S' t fun b o n _ e=>hs.extBut b o n e
 ·refine q4 (Option.isSome_iff_exists.mp hs) fun a ha=>?_
  refine q16 (S.jd x a ha) fun ov _ _ _ hc=>?_
  refine wpAny_storeName_cell hk hl ha hc fun h' hn hs=>?_
  refine q3 (S.Cf (s':={ s with heap:=h' }) oV hl ha hs hn rfl rfl i) fun S' t=>?_
  exact hQ _ S' t fun b o _ n e=>hs.extBut b o (n x a ha) e
theorem ag{x:Str}{p q:Pos}{e:Expr}{rest:List Stmt}{Q:Ko}(h:Ev c f e m H (fun d H'=>Ex c f rest (m.set x d) H' Q) (fun C H'=>Q (.exc C) m H'))
  (hx:(f.env.kindOf x=some .local)∨(f.env.kindOf x=some .cell∧(f.env.cells.lookup x).isSome=true)) (oV:autoParam (f.fn=true) aR._auto_1) (hk:autoParam (f.env.scope.kind=.function) aR._auto_1)
  (hs:autoParam (swapsWith e (some (.Name x p)) q.line f.env=pure false) aR._auto_1):Ex c f (.Assign [.Name x p] e q::rest) m H Q:=.mk fun s S=>by
 refine wpAny_execs_cons (wpAny_Assign_Name (wpAny_mono (h s S) (fun v s₁ z=>?_) fun x s' z=>z.ex fun _ _ y=>y) hs)
 refine mL z fun d H' t i S₁ q=>?_;clear z
 exact iD S₁ i hx oV hk fun s' S' _ _=>q s' S'
theorem aK{e:Expr}{p:Pos}{rest:List Stmt}{Q:Ko}(h:Ev c f e m H (fun d H'=>Q (.ret d) m H') (fun C H'=>Q (.exc C) m H')):Ex c f (.Return (some e) p::rest) m H Q:=.mk fun s S=>by
 refine wpAny_execs_cons (wpAny_Return_some (wpAny_mono (h s S) (fun v s₁ z=>?_) fun x s' z=>z.ex fun _ _ y=>y))
 refine mL z fun d H' t i S₁ q=>?_;clear z
 exact⟨_,m,H',⟨d,rfl,i⟩,S₁,q⟩
theorem xn{p:Pos}{rest:List Stmt}{Q:Ko}(q:Q .brk m H):Ex c f (.Break p::rest) m H Q:=.mk fun s S=>wpAny_execs_cons (wpAny_Break ⟨_,m,H,rfl,S,q⟩)
theorem cv{e:Expr}{p:Pos}{rest:List Stmt}{Q:Ko}(h:Ev c f e m H (fun d H'=>(∀h v,Is h d v→∀a,v≠.ref a)∧Ex c f rest m H' Q) (fun C H'=>Q (.exc C) m H'))
  (hi:autoParam (interactive f.env=false) aR._auto_1) (hs:autoParam (swapsWith e none p.line f.env=pure false) aR._auto_1):Ex c f (.Expr e p::rest) m H Q:=.mk fun s S=>by
 refine wpAny_execs_cons (wpAny_Expr (wpAny_mono (h s S) (fun v s₁ z=>?_) fun x s' z=>z.ex fun _ _ y=>y) hi hs)
 refine xY z fun d H' t i S₁ n q=>?_;clear z
 have:=n _ v i
 cases v <;> first | exact q s₁ S₁ | exact absurd rfl (this _)
end
end Mine
namespace Mine
open PySem
noncomputable abbrev yi(A:Around)(L:Addr)(fd:FuncData)(fa:Addr)(bK:List Env)(hE:Heap)(H:AH):Fx:=
 { A:=A,env:=callEnvC fd L fa,bK:=callEnvC fd L fa::bK,hE:=hE,HE:=H,keep:=[],fn:=true }
noncomputable def r0(names:List Str)(args:List V):bL:=fun x=>(names.zip args).lookup x
theorem fD{α:Type}:∀ {l:List (Str×α)} {x:Str} {a:α},l.lookup x=some a→(x,a)∈l
 | [],_,_,e=>by cases e
 | (y,b)::r,x,a,e=>by
  rw[List.lookup_cons] at e
  by_cases q:x == y
  ·simp only[q] at e;cases e;rw[beq_iff_eq.mp q];exact .head _
  ·simp only[q] at e;exact .tail _ (fD e)
theorem uL{h:Heap}:∀ {names:List Str} {ds:List V} {vs:List Value} {x:Str} {d:V},aA h ds vs→(names.zip ds).lookup x=some d→∃v,(x,v)∈names.zip vs∧Is h d v
 | [],_,_,_,_,_,e=>by cases e
 | n::ns,[],_,_,_,_,e=>by cases e
 | n::ns,d::ds,_,x,d',i,e=>by
  simp only[aA] at i
  refine q0 i fun v r XT i1 i2=>?_;clear i;obtain rfl:=XT
  rw[List.zip_cons_cons,List.lookup_cons] at e
  by_cases q:x == n
  ·simp only[q] at e;cases e;exact⟨v,by rw[beq_iff_eq.mp q];exact .head _,i1⟩
  ·simp only[q] at e
   refine q2 (uL i2 e) fun w a b=>?_
   exact⟨w,.tail _ a,b⟩
theorem nB{K:Str→Option NameKind}:∀ {binds:List (Str×Value)} {m0:Str→Option Value} {x:Str},x∉binds.map (·.1)→bindL K binds m0 x=m0 x
 | [],_,_,_=>rfl
 | (n,v)::r,m0,x,h=>by
  simp only[List.map_cons,List.mem_cons,not_or] at h
  unfold bindL
  rw[nB h.2]
  split
  ·exact if_neg h.1
  ·rfl
theorem wX{K:Str→Option NameKind}:∀ {binds:List (Str×Value)} {m0:Str→Option Value} {x:Str} {v:Value},(binds.map (·.1)).Nodup→(x,v)∈binds→K x=some .local→bindL K binds m0 x=some v:=by
 intro binds;induction binds with
 | nil=>intro m0 x v nd h;cases h
 | cons p r ih=>
  intro m0 x v nd h hk;obtain⟨n,u⟩:=p;rw[List.map_cons,List.nodup_cons] at nd;unfold bindL;cases h with
  | head=>rw[nB nd.1,if_pos hk,if_pos rfl]
  | tail _ h=>exact ih nd.2 h hk
theorem nC{K:Str→Option NameKind}:∀ {binds:List (Str×Value)} {m0:Str→Option Value} {x:Str},x∉binds.map (·.1)→bindC K binds m0 x=m0 x
 | [],_,_,_=>rfl
 | (n,v)::r,m0,x,h=>by
  simp only[List.map_cons,List.mem_cons,not_or] at h
  unfold bindC
  rw[nC h.2]
  split
  ·rfl
  ·exact if_neg h.1
theorem wY{K:Str→Option NameKind}:∀ {binds:List (Str×Value)} {m0:Str→Option Value} {x:Str} {v:Value},(binds.map (·.1)).Nodup→(x,v)∈binds→K x≠some .local→bindC K binds m0 x=some v:=by
 intro binds;induction binds with
 | nil=>intro m0 x v nd h;cases h
 | cons p r ih=>
  intro m0 x v nd h hk;obtain⟨n,u⟩:=p;rw[List.map_cons,List.nodup_cons] at nd;unfold bindC;cases h with
  | head=>rw[nC nd.1,if_neg hk,if_pos rfl]
  | tail _ h=>exact ih nd.2 h hk
theorem kg{α β:Type}:∀ {l:List α} {r:List β},l.length=r.length→(l.zip r).map (·.1)=l
 | [],[],_=>rfl
 | a::l,b::r,h=>by simp only[List.zip_cons_cons,List.map_cons];rw[kg (by simpa using h)]
 | [],_::_,h=>by simp at h
 | _::_,[],h=>by simp at h
theorem qL:∀ {l:List (Str×Addr)} {x y:Str} {a:Addr},l.Pairwise (fun x y=>x.2≠y.2)→(x,a)∈l→(y,a)∈l→x=y:=by
 intro l;induction l with
 | nil=>intro x y a p hx;cases hx
 | cons q r ih=>
  intro x y a p hx hy;obtain⟨n,b⟩:=q;rw[List.pairwise_cons] at p
  cases hx with
  | head=>cases hy with
   | head=>rfl
   | tail _ hy=>exact absurd rfl (p.1 (y,_) hy)
  | tail _ hx=>cases hy with
   | head=>exact absurd rfl (p.1 (x,_) hx)
   | tail _ hy=>exact ih p.2 hx hy
theorem sX{c:Cx}{k:Nat}{fa:Addr}{o:Obj}{fd:FuncData}{body:List Stmt}{names:List Str}{args:List V}{H:AH}{Q:V→AH→Prop}{X:Value→AH→Prop}
  (GF:c.base.NoLimit) (ho:c.base.get? fa=some o) (hd:o.data=.func fd) (wA:fd.body=.stmts body) (wy:c.base.CodeRec fd.code fd.qualname) (GJ:fd.closure=[])
  (wB:∀vs,vs.length=args.length→bindArgs fd ⟨vs,[]⟩=pure (names.zip vs)) (hlen:names.length=args.length) (Ws:names.Nodup)
  (gY:∀n,∀x∈names,fd.scope.names.lookup x=some .local∨(fd.scope.names.lookup x=some .cell∧((cellsFrom n fd.scope.names []).lookup x).isSome=true))
  (hco:fd.scope.isCoroutine=false) (GH:fd.scope.isGenerator=false) (hk:fd.scope.kind=.function)
  (h:∀A L bK hE,mw c H hE→bw k A→iw (yi A L fd fa bK hE H)→Ex c (yi A L fd fa bK hE H) body (r0 names args) H (Fin Q X)):Fn c (k+1) (.ref fa) args H Q X:=by
 refine .mk ?_
 intro A bK s vs R hf E i
 have HG:=i.length
 have Wi:(names.zip vs).map (·.1)=names:=kg (hlen.trans HG.symm)
 refine codeAny_call_cells (by have:=R.depth;exact om4 this) (E.base _ _ ho) hd (GF.keeps E.base) (wy.keeps E.base) wA (wB vs HG) GJ
  (fun x hx=>gY _ x.1 (by rw[← Wi];exact List.mem_map_of_mem hx)) (fun s₁ x=>?_) hco GH hk
 have hL:s.heap.get? s.heap.objs.size=none:=by
  cases q:s.heap.get? s.heap.objs.size with
  | none=>rfl
  | some o=>exact absurd (Heap.lt_size q) (Nat.lt_irrefl _)
 have pV:∀a,s.heap.objs.size≤a→s.heap.get? a=none:=fun a q=>by
  cases z:s.heap.get? a with
  | none=>rfl
  | some o=>exact absurd (Heap.lt_size z) (Nat.not_lt.mpr q)
 have hH:∀a,s.heap.get? a=none→H a=none:=fun a q=>by
  cases z:H a with
  | none=>rfl
  | some y=>refine q2 ((E.rep a y z).obj) fun o' g _=>?_;rw[q] at g;cases g
 refine i4 (x.done) fun h₁ tk XS _=>?_;obtain rfl:=XS
 have g:aM s.heap h₁:=x.toInCall.keep
 have ix:=i.tk g.tk
 have hff:h₁.FunFrames c.base (callEnvC fd s.heap.objs.size fa::bK):=by
  refine .cons (by show fd.scope.kind≠.module;rw[hk];decide) rfl x.toInCall.ns ?_ (E.ff.of_keeps fun b o e _=>⟨o,g b o e,rfl⟩)
  show c.base.get? s.heap.objs.size=none
  cases q:c.base.get? s.heap.objs.size with
  | none=>rfl
  | some o=>
   have h2:s.heap.get? s.heap.objs.size=some o:=E.base _ _ q
   rw[hL] at h2;cases h2
 have S:St c (yi (A.deeper (callEnvC fd s.heap.objs.size fa)) s.heap.objs.size fd fa bK s.heap H) (r0 names args) H { s with heap:=h₁,toks:=tk }:=by
  refine⟨fun a y e=>(E.rep a y e).keep g.tk (fun o=>g a o),fun b o e=>g b o (E.base b o e),E.base,E.hb,fun a o e q=>⟨fun _=>g a o e,fun _=>⟨o.slots,g a o e⟩⟩,fun a o e q=>q,fun a q=>q,
   ⟨_,x.toInCall.ns,fun y d e=>?_⟩,(fun _=>hL),hH _ hL,fun y a e=>?_,fun y z a ey ez=>qL x.apart (fD ey) (fD ez),hff,fun a q=>?_,E.big,(fun p hp=>nomatch hp),E.gens,E.os⟩
  ·refine q2 (uL ix e) fun v hm iv=>?_
   have hy:y∈names:=by rw[← Wi];exact List.mem_map_of_mem (f:=(·.1)) hm
   rcases gY (s.heap.objs.size+1) y hy with q | ⟨q,qs⟩
   ·exact .inl ⟨q,v,wX (by rw[Wi];exact Ws) hm q,iv⟩
   ·refine q4 (Option.isSome_iff_exists.mp qs) fun a ha=>?_
    have hc:=x.cell y a ha
    rw[wY (v:=v) (by rw[Wi];exact Ws) hm (by show fd.scope.names.lookup y≠_;rw[q];exact fun z=>nomatch z)] at hc
    exact .inr ⟨.inl q,a,v,ha,hc,iv⟩
  ·have jy:s.heap.objs.size<a:=x.above y a (fD e)
   exact⟨hH a (pV a (Nat.le_of_lt jy)),Nat.ne_of_gt jy,fun _ _=>pV a (Nat.le_of_lt jy),_,x.cell y a e⟩
  ·have q':a∈s.heap.objs.size::bK.filterMap (·.frame):=by simpa only[Fx.fs,yi,callEnvC,newEnv,List.filterMap_cons] using q
   cases q' with
   | head=>exact hH _ hL
   | tail _ q'=>exact E.fh a q'
 have O:iw (yi (A.deeper (callEnvC fd s.heap.objs.size fa)) s.heap.objs.size fd fa bK s.heap H):=⟨Around.frames_deeper hf,⟨_,rfl⟩,rfl,hk⟩
 have lft:∀ {m':bL} {H':AH} {s':Shared},St c (yi (A.deeper (callEnvC fd s.heap.objs.size fa)) s.heap.objs.size fd fa bK s.heap H) m' H' s'→uJ c bK H s H' s':=fun S'=>by
  refine⟨S'.rep,fun a o e q=>?_,S'.i6,S'.up,S'.big,S'.gens,S'.os⟩
  have ne:a≠s.heap.objs.size:=fun z=>by rw[z,hL] at e;cases e
  have fsx:∀b,b∈(yi (A.deeper (callEnvC fd s.heap.objs.size fa)) s.heap.objs.size fd fa bK s.heap H).fs↔b=s.heap.objs.size∨b∈bK.filterMap (·.frame):=fun b=>by
   simp only[Fx.fs,callEnvC,newEnv,List.filterMap_cons,List.mem_cons]
  refine q3 (S'.off a o e q) fun k1 k2=>?_
  exact⟨fun n=>k1 fun z=>((fsx a).mp z).elim ne n,fun n=>k2 ((fsx a).mpr (.inr n))⟩
 refine wpAny_mono (h _ _ _ _ E.rep (R.deeper _) O _ S) (fun fl s' z=>?_) fun y s' z=>?_
 ·refine q8 z fun o' m' H' fi S' q=>?_;clear z
  refine⟨H',lft S',?_⟩
  cases fl with
  | next=>cases fi;exact⟨.none,rfl,q⟩
  | brk=>cases fi;exact q.elim
  | cont=>cases fi;exact q.elim
  | ret v=>refine q2 fi fun d XR iv=>?_;clear fi;obtain rfl:=XR;exact⟨d,iv,q⟩
 ·refine q20 (d0:=y) z fun C m' H' e S' F q=>?_;clear z
  refine qQ O S' F fun VT G9 HX=>⟨H',lft G9,C,e,rfl,?_,q⟩
  refine q22 HX fun oe vs T oT ts n a1 a2 a3 a4 a5 a6 r=>?_;clear HX
  exact⟨n.1,oe,vs,T,oT,ts,a1,a2,a3,a4,a5,a6.1,r⟩
theorem aV{c:Cx}{k:Nat}{fa:Addr}{o:Obj}{fd:FuncData}{body:List Stmt}{names:List Str}{args:List V}{H:AH}{Q:V→AH→Prop}{X:Value→AH→Prop}
  (GF:c.base.NoLimit) (ho:c.base.get? fa=some o) (hd:o.data=.func fd) (wA:fd.body=.stmts body) (wy:c.base.CodeRec fd.code fd.qualname) (GJ:fd.closure=[])
  (wB:∀vs,vs.length=args.length→bindArgs fd ⟨vs,[]⟩=pure (names.zip vs)) (hlen:names.length=args.length) (Ws:names.Nodup)
  (gY:∀n,∀x∈names,fd.scope.names.lookup x=some .local∨(fd.scope.names.lookup x=some .cell∧((cellsFrom n fd.scope.names []).lookup x).isSome=true))
  (hco:fd.scope.isCoroutine=false) (GH:fd.scope.isGenerator=false) (hk:fd.scope.kind=.function)
  (h:∀A L bK hE,bw k A→iw (yi A L fd fa bK hE H)→Ex c (yi A L fd fa bK hE H) body (r0 names args) H (Fin Q X)):Fn c (k+1) (.ref fa) args H Q X:=
 sX GF ho hd wA wy GJ wB hlen Ws gY hco GH hk fun A L bK hE _=>h A L bK hE
noncomputable def GN(c:Cx)(x:Str)(v:Value):Prop:=c.mg x=some v∨(c.mg x=none∧c.mb x=some v)
structure cV(c:Cx):Prop where
 g:c.base.Ns mainGlobals c.mg
 b:c.base.Ns builtinsNs c.mb
 lim:c.base.NoLimit
section
variable {c:Cx} {f:Fx} {m:bL} {H:AH} {X:Value→AH→Prop}
theorem zj{x:Str}{p:Pos}{v:Value}{Q:V→AH→Prop}(K:cV c)(hx:GN c x v)(q:Q (.raw v) H)(hg:autoParam (f.env.globals=mainGlobals) aR._auto_1)(hb:autoParam (f.env.builtins=builtinsNs) aR._auto_1)
  (hk:autoParam (f.env.scope.kind=.function) aR._auto_1) (hn:autoParam (f.env.kindOf x=some .globalImplicit) aR._auto_1) (hd:autoParam ((x == ("__debug__":Str))=false) aD._auto_1):Ev c f (.Name x p) m H Q X:=.mk fun s S=>by
 refine Calls.Name_function_global hk hn ?_ hd
 rcases hx with e | ⟨e1,e2⟩
 ·exact Calls.loadGlobal_global (by rw[hg];exact K.g.keeps S.base) e ⟨Tk.refl _,.raw v,H,rfl,S,q⟩
 ·exact Calls.loadGlobal_builtin (by rw[hg];exact K.g.keeps S.base) e1 (by rw[hb];exact K.b.keeps S.base) e2 ⟨Tk.refl _,.raw v,H,rfl,S,q⟩
structure oJ(c:Cx)(f:Fx)(es:List Expr)(p:Pos)(m:bL)(H:AH)(Q:List V→AH→Prop)(X:Value→AH→Prop):Prop where
 mk::
 run :
  ∀s,St c f m H s→wpAny c.M f.A (spliced (backTo p (starEach es f.env))) (fun vs s'=>Tk s.heap s'.heap∧∃ds H',aA s'.heap ds vs∧St c f m H' s'∧Q ds H') (iY c f m X) s
noncomputable instance {c:Cx} {f:Fx} {es:List Expr} {p:Pos} {m:bL} {H:AH} {Q:List V→AH→Prop} {X:Value→AH→Prop}:CoeFun (oJ c f es p m H Q X) (fun _=>
  ∀s,St c f m H s→wpAny c.M f.A (spliced (backTo p (starEach es f.env))) (fun vs s'=>Tk s.heap s'.heap∧∃ds H',aA s'.heap ds vs∧St c f m H' s'∧Q ds H') (iY c f m X) s):=⟨oJ.run⟩
theorem bk{p:Pos}{Q:List V→AH→Prop}(q:Q [] H):oJ c f [] p m H Q X:=.mk fun s S=>wpAny_items_nil ⟨Tk.refl _,[],H,dJ _,S,q⟩
theorem az{p:Pos}{e:Expr}{es:List Expr}{Q:List V→AH→Prop}(h:Ev c f e m H (fun d H₁=>oJ c f es p m H₁ (fun ds H₂=>Q (d::ds) H₂) X) X)
  (he:autoParam (starEach (e::es) f.env=(false,eval e f.env)::starEach es f.env) aR._auto_1):oJ c f (e::es) p m H Q X:=.mk fun s S=>
 wpAny_items_cons (wpAny_mono (h s S) (fun v s₁ DC=>mL DC fun d H₁ t₁ i₁ S₁ q₁=>wpAny_mono (q₁ s₁ S₁) (fun vs s₂ DB=>mL DB fun ds H₂ t₂ i₂ S₂ q₂=>⟨t₁.trans t₂,d::ds,H₂,cZ (i₁.tk t₂) i₂,S₂,q₂⟩) fun _ _ x=>x) fun _ _ x=>x) he
theorem gA{x:Str}{p₁ p:Pos}{e:Expr}{es:List Expr}{k:Nat}{fa:Addr}{o:Obj}{fd:FuncData}{Q:V→AH→Prop}(ho:c.base.get? fa=some o)(hd:o.data=.func fd)(R:bw k f.A)(hf:f.A.frames=some f.bK)
  (h:Ev c f (.Name x p₁) m H (fun d H'=>d=.ref fa∧oJ c f (e::es) p m H' (fun ds d8=>Fn c k (.ref fa) ds d8 Q X) X) X)
  (he:autoParam (starEach (e::es) f.env=(false,eval e f.env)::starEach es f.env) aR._auto_1):Ev c f (.Call (.Name x p₁) (e::es) [] p) m H Q X:=.mk fun s S=>by
 refine PyProof.Rows.Call_ (wpAny_mono (h s S) (fun v s₁ z=>?_) fun _ _ x=>x)
 refine z5 z fun H₁ t₁ i₁ S₁ q₁=>?_;clear z
 obtain rfl:v=.ref fa:=i₁
 refine PyProof.Rows.callWith_def hd (wpAny_mono (q₁ s₁ S₁) (fun vs s₂ z=>?_) fun _ _ x=>x) he
 refine mL z fun ds H₂ t₂ i₂ S₂ q₂=>?_;clear z
 exact⟨S₂.base _ _ ho,wpAny_mono (q₂.op R hf S₂ i₂) (fun v s₃ DA=>q3 DA fun t₃ r=>⟨t₁.trans (t₂.trans t₃),r⟩) fun _ _ x=>x⟩
end
end Mine
namespace Mine
open PySem
section
variable {c:Cx} {f:Fx} {m:bL} {H:AH}
structure Ts(c:Cx)(f:Fx)(e:Expr)(m:bL)(H:AH)(Q:Bool→AH→Prop)(X:Value→AH→Prop):Prop where
 mk::
 run :
  ∀s,St c f m H s→wpAny c.M f.A (isTrue e f.env (eval e f.env)) (fun b s'=>∃H',St c f m H' s'∧Q b H') (iY c f m X) s
noncomputable instance {c:Cx} {f:Fx} {e:Expr} {m:bL} {H:AH} {Q:Bool→AH→Prop} {X:Value→AH→Prop}:CoeFun (Ts c f e m H Q X) (fun _=>
  ∀s,St c f m H s→wpAny c.M f.A (isTrue e f.env (eval e f.env)) (fun b s'=>∃H',St c f m H' s'∧Q b H') (iY c f m X) s):=⟨Ts.run⟩
structure Tl(c:Cx)(f:Fx)(op:BoolOp)(es:List Expr)(m:bL)(H:AH)(Q:Bool→AH→Prop)(X:Value→AH→Prop):Prop where
 mk::
 run :
  ∀s,St c f m H s→wpAny c.M f.A (allTrue op es f.env) (fun b s'=>∃H',St c f m H' s'∧Q b H') (iY c f m X) s
noncomputable instance {c:Cx} {f:Fx} {op:BoolOp} {es:List Expr} {m:bL} {H:AH} {Q:Bool→AH→Prop} {X:Value→AH→Prop}:CoeFun (Tl c f op es m H Q X) (fun _=>
  ∀s,St c f m H s→wpAny c.M f.A (allTrue op es f.env) (fun b s'=>∃H',St c f m H' s'∧Q b H') (iY c f m X) s):=⟨Tl.run⟩
variable {Q:Bool→AH→Prop} {X:Value→AH→Prop}
theorem Ts.mono{e:Expr}{Q':Bool→AH→Prop}{X':Value→AH→Prop}(h:Ts c f e m H Q X)(k:∀b H,Q b H→Q' b H)(kx:∀C H,X C H→X' C H):Ts c f e m H Q' X':=
 .mk fun s S=>wpAny_mono (h s S) (fun _ _ Dz=>q2 Dz fun H' S' q=>⟨H',S',k _ _ q⟩) fun _ _ g=>g.mono kx
theorem eS{l r:Expr}{op:CmpOp}{p:Pos}(h:Ev c f l m H (fun d₁ H₁=>Ev c f r m H₁ (fun d₂ H₂=>Hb c f (compareOp op) d₁ d₂ m H₂ (fun d H₃=>∃b,d=.bool b∧Q b H₃) X) X) X)
  (hm:behindInMarks op r=false:=by with_unfolding_all rfl):Ts c f (.Compare l [op] [r] p) m H Q X:=.mk fun s S=>
 wpAny_isTrue_Compare1 (wpAny_mono (h s S) (fun v₁ s₁ Dy=>mL Dy fun d₁ H₁ t₁ i₁ S₁ q₁=>wpAny_mono (q₁ s₁ S₁) (fun v₂ s₂ ⟨t₂,d₂,H₂,i₂,S₂,q₂⟩=>
  wpAny_mono (q₂ s₂ v₁ v₂ S₂ (i₁.tk t₂) i₂) (fun v s₃ Dx=>X6 Dx fun d H₃ b t₃ i₃ S₃ e q₃=>by
   subst e;obtain rfl:v=.bool b:=i₃;exact wpAny_truthy_bool ⟨H₃,S₃,q₃⟩) fun _ _ x=>x) fun _ _ x=>x) fun _ _ x=>x) hm
theorem w4{e:Expr}{p:Pos}(h:Ts c f e m H (fun b H'=>Q (!b) H') X):Ts c f (.UnaryOp .Not e p) m H Q X:=.mk fun s S=>
 wpAny_isTrue_Not (wpAny_mono (h s S) (fun b s' z=>z) fun _ _ x=>x)
theorem sP{op:BoolOp}{es:List Expr}{p:Pos}(h:Tl c f op es m H Q X):Ts c f (.BoolOp op es p) m H Q X:=.mk fun s S=>wpAny_isTrue_BoolOp (h s S)
theorem rj(q:Q true H):Tl c f .And [] m H Q X:=.mk fun s S=>wpAny_allTrue_And_nil ⟨H,S,q⟩
theorem uq(q:Q false H):Tl c f .Or [] m H Q X:=.mk fun s S=>wpAny_allTrue_Or_nil ⟨H,S,q⟩
theorem G8{e:Expr}{es:List Expr}(h:Ts c f e m H (fun b H'=>(b=true→Tl c f .And es m H' Q X)∧(b=false→Q false H')) X):Tl c f .And (e::es) m H Q X:=.mk fun s S=>
 wpAny_allTrue_And_cons (wpAny_mono (h s S) (fun b s₁ Dw=>q1 Dw fun H₁ S₁ q₁ q₂=>by
  cases b with
  | true=>exact q₁ rfl s₁ S₁
  | false=>exact⟨H₁,S₁,q₂ rfl⟩) fun _ _ x=>x)
theorem Vu{e:Expr}{es:List Expr}(h:Ts c f e m H (fun b H'=>(b=false→Tl c f .Or es m H' Q X)∧(b=true→Q true H')) X):Tl c f .Or (e::es) m H Q X:=.mk fun s S=>
 wpAny_allTrue_Or_cons (wpAny_mono (h s S) (fun b s₁ Dv=>q1 Dv fun H₁ S₁ q₁ q₂=>by
  cases b with
  | false=>exact q₁ rfl s₁ S₁
  | true=>exact⟨H₁,S₁,q₂ rfl⟩) fun _ _ x=>x)
theorem ri{e:Expr}(h:Ev c f e m H (fun d H'=>∃b,d=.bool b∧Q b H') X)
  (he:∀w,isTrue e f.env w=(do let v ← w;standAt e.pos;holding [v] (truthy v)):=by intro _;rfl):Ts c f e m H Q X:=.mk fun s S=>
 wpAny_isTrue_value (wpAny_mono (h s S) (fun v s₁ Du=>X6 Du fun d H₁ b t₁ i₁ S₁ e q₁=>by
  subst e;obtain rfl:v=.bool b:=i₁;exact wpAny_truthy_bool ⟨H₁,S₁,q₁⟩) fun _ _ x=>x) (he _)
noncomputable def Tp(c:Cx)(f:Fx)(e:Expr)(m:bL)(H:AH)(P:Prop):Prop:=Ts c f e m H (fun b H'=>H'=H∧(b=true↔P)) (fun _ _=>False)
theorem ij{M:Model}{Γ:Ctx}{env:Env}{E:Value→Pos→Shared→Prop}:∀(a b:List Stmt) (Q:Flow→Pos→Shared→Prop) (p:Pos) (s:Shared),
  Sem.wp M Γ (execs (a++b) env) Q E p s=Sem.wp M Γ (execs a env) (fun fl p' s'=>match fl with | .next=>Sem.wp M Γ (execs b env) Q E p' s' | fl=>Q fl p' s') E p s
 | [],b,Q,p,s=>rfl
 | st::a,b,Q,p,s=>by
  rw[List.cons_append,execs_cons,execs_cons,Sem.wp_bind',Sem.wp_bind']
  congr 1
  funext fl p' s'
  cases fl <;> first | exact ij a b Q p' s' | rfl
theorem eJ{M:Model}{A:Around}{env:Env}{a b:List Stmt}{Q:Flow→Shared→Prop}{E:Value→Shared→Prop}{s:Shared}(Γ:Ctx)(p:Pos)(hΓ:Γ.In A)(h:wpAny M A (execs (a++b) env) Q E s):
  Sem.wp M Γ (execs a env) (fun fl p' s'=>match fl with | .next=>Sem.wp M Γ (execs b env) (fun x _ s'=>Q x s') (fun e _ s'=>E e s') p' s' | fl=>Q fl s') (fun e _ s'=>E e s') p s:=by
 have:=h Γ p hΓ
 rw[ij] at this
 exact this
theorem xm{t:Expr}{body orelse rest:List Stmt}{p:Pos}{Q:Ko}(h:Ts c f t m H (fun b H'=>(b=true→Ex c f (body++rest) m H' Q)∧(b=false→Ex c f (orelse++rest) m H' Q)) (fun C H'=>Q (.exc C) m H')):
  Ex c f (.If t body orelse p::rest) m H Q:=.mk fun s S Γ pp hΓ=>by
 rw[execs_cons,Sem.wp_bind',exec_If]
 rw[Sem.wp_bind',Sem.wp_cmd_standAt,Sem.wp_bind']
 refine Sem.wp_mono c.M Γ _ (fun b p₂ s₂ h₂=>?_) (fun x _ s' h'=>?_) _ _ (h s S Γ _ hΓ)
 ·refine q1 h₂ fun H' S' q₁ q₂=>?_;clear h₂
  cases b with
  | true=>
   refine Sem.wp_mono c.M Γ _ (fun fl p₃ s₃ h₃=>?_) (fun _ _ _ h'=>h') _ _ (eJ Γ p₂ hΓ (q₁ rfl s₂ S'))
   cases fl <;> exact h₃
  | false=>
   refine Sem.wp_mono c.M Γ _ (fun fl p₃ s₃ h₃=>?_) (fun _ _ _ h'=>h') _ _ (eJ Γ p₂ hΓ (q₂ rfl s₂ S'))
   cases fl <;> exact h₃
 ·exact iY.ex h' fun _ _ z=>z
theorem aL{t:Expr}{body orelse rest:List Stmt}{p:Pos}{Q:Ko}{P:Prop}(h:Tp c f t m H P)(h1:P→Ex c f (body++rest) m H Q)(h2:¬P→Ex c f (orelse++rest) m H Q):Ex c f (.If t body orelse p::rest) m H Q:=
 xm (Ts.mono h (fun b H' Dt=>q3 Dt fun e q=>by subst e;exact⟨fun z=>h1 (q.mp z),fun z=>h2 fun y=>by rw[q.mpr y] at z;cases z⟩) fun _ _ z=>z.elim)
theorem hB(O:iw f){t:Expr}{body rest:List Stmt}{p:Pos}{Q:Ko}(I:Nat→bL→AH→Prop)(n:Nat)(h0:I n m H)
  (turn:∀n m' H',I n m' H'→Ts c f t m' H' (fun b d8=>(b=true→Ex c f body m' d8 (fun o m₂ H₂=>match o with | .next=>∃k,k<n∧I k m₂ H₂ | .cont=>∃k,k<n∧I k m₂ H₂ | .brk=>Ex c f rest m₂ H₂ Q | o=>Q o m₂ H₂))∧
   (b=false→Ex c f rest m' d8 Q)) (fun C d8=>Q (.exc C) m' d8)):Ex c f (.While t body [] p::rest) m H Q:=.mk fun s S=>by
 refine wpAny_execs_cons (wpAny_While (codeAny_whileLoop (fun n s=>∃m' H',St c f m' H' s∧I n m' H') (fun n s₁ z=>?_) n ⟨m,H,S,h0⟩))
 refine i4 z fun m₁ H₁ S₁ i₁=>?_;clear z
 have VP:∀ {Q':Ko} {x:Value} {s':Shared},(∀C m' H',Q' (.exc C) m' H'→Q (.exc C) m' H')→iT c f Q' x s'→notedBy c.M f.A f.env (fun e s'=>cameBackBy c.M f.A f.env (iT c f Q) e s') x s':=fun k z=>by
  refine Hx z fun C m' H' e XQ S' F q=>?_;clear z;obtain rfl:=XQ
  exact pI O S' F fun VT G9 HX=>kB O G9 HX fun s₃ S₃ F₃=>⟨C,m',H',e,rfl,S₃,F₃,k C m' H' q⟩
 refine wpAny_mono (turn n m₁ H₁ i₁ s₁ S₁) (fun b s₂ z=>?_) fun x s' z=>VP (Q':=Q) (fun _ _ _ y=>y) (z.ex fun _ _ y=>y)
 refine q1 z fun H₂ S₂ q₁ q₂=>?_;clear z
 cases b with
 | true=>
  refine wpAny_mono (q₁ rfl s₂ S₂) (fun fl s₃ z=>?_) fun x s' z=>VP (fun _ _ _ y=>y) z
  refine q8 z fun o m₃ H₃ fi S₃ q₃=>?_;clear z
  cases fl with
  | next=>cases fi;refine q2 q₃ fun k hk i=>?_;clear q₃;exact⟨k,hk,m₃,H₃,S₃,i⟩
  | cont=>cases fi;refine q2 q₃ fun k hk i=>?_;clear q₃;exact⟨k,hk,m₃,H₃,S₃,i⟩
  | brk=>cases fi;exact q₃ s₃ S₃
  | ret v=>refine q2 fi fun d XP i=>?_;clear fi;obtain rfl:=XP;exact⟨_,m₃,H₃,⟨d,rfl,i⟩,S₃,q₃⟩
 | false=>exact wpAny_execs_nil (q₂ rfl s₂ S₂)
end
end Mine
namespace Mine
open PySem
noncomputable abbrev Fx.kept(f:Fx)(kp:List (Addr×Obj)):Fx:={ f with keep:=kp }
noncomputable def sW(c:Cx)(A:Around)(I:Addr)(ds:List V)(tr:List Addr)(H₁:AH)(h:Heap):Prop:=
 ∃fp P sQ,Walks c.prog c.w A I fp [I] ds.length P sQ∧sQ 0 h∧(∀i h,sQ i h→∃o vs,h.get? I=some o∧o.data=.fields vs)∧
  (∀b∈fp,b=I∨b∈tr∨∃o,c.base.get? b=some o)∧(∀b∈tr,∃x,H₁ b=some x)∧
  (∀i v d H' h,P i v→ds[i]?=some d→mw c H' h→c.base.StaysIn h→(∀b∈tr,H' b=H₁ b)→Is h d v)
structure mT(c:Cx)(f:Fx)(iter:Expr)(m:bL)(H:AH)(Q:List V→List Addr→AH→Prop)(X:Value→AH→Prop):Prop where
 mk::
 run :
  ∀s,St c f m H s→wpAny c.M f.A (eval iter f.env) (fun xv s₁=>wpAny c.M f.A (pyIter xv) (fun it s₂=>∃I ds tr H₁,it=.ref I∧Tk s.heap s₂.heap∧St c f m H₁ s₂∧f.hE.get? I=none∧(∀p∈f.keep,I≠p.1)∧sW c f.A I ds tr H₁ s₂.heap∧Q ds tr H₁) (iY c f m X) s₁) (iY c f m X) s
noncomputable instance {c:Cx} {f:Fx} {iter:Expr} {m:bL} {H:AH} {Q:List V→List Addr→AH→Prop} {X:Value→AH→Prop}:CoeFun (mT c f iter m H Q X) (fun _=>
  ∀s,St c f m H s→wpAny c.M f.A (eval iter f.env) (fun xv s₁=>wpAny c.M f.A (pyIter xv) (fun it s₂=>∃I ds tr H₁,it=.ref I∧Tk s.heap s₂.heap∧St c f m H₁ s₂∧f.hE.get? I=none∧(∀p∈f.keep,I≠p.1)∧sW c f.A I ds tr H₁ s₂.heap∧Q ds tr H₁) (iY c f m X) s₁) (iY c f m X) s):=⟨mT.run⟩
section
variable {c:Cx} {f:Fx} {m:bL} {H:AH}
theorem iw.kept(O:iw f)(kp:List (Addr×Obj)):iw (f.kept kp):=⟨O.frames,O.head,O.frame,O.kind⟩
theorem St.Ce{s:Shared}(S:St c f m H s){kp:List (Addr×Obj)}(k:∀p∈kp,s.heap.get? p.1=some p.2∧∃vs,p.2.data=.fields vs):St c (f.kept kp) m H s:=
 ⟨S.rep,S.base,S.bE,S.hb,S.off,S.i6,S.up,S.loc,S.gU,S.mG,S.jd,S.apart,S.ff,S.fh,S.big,k,S.gens,S.os⟩
theorem St.jO{s:Shared}{I:Addr}{o:Obj}(S:St c (f.kept ((I,o)::f.keep)) m H s):St c f m H s∧s.heap.get? I=some o:=
 ⟨⟨S.rep,S.base,S.bE,S.hb,S.off,S.i6,S.up,S.loc,S.gU,S.mG,S.jd,S.apart,S.ff,S.fh,S.big,fun p hp=>S.kp p (.tail _ hp),S.gens,S.os⟩,(S.kp _ (.head _)).1⟩
theorem xg.jO{e:Addr}{C:Value}{h:Heap}{I:Addr}{o:Obj}(F:xg (f.kept ((I,o)::f.keep)) e C h):xg f e C h:=by
 refine q14 F fun oe vs XO a1 a2 a3 a4 r=>?_;clear F;obtain⟨n1,n2⟩:=XO
 refine⟨⟨n1,fun p hp=>n2 p (.tail _ hp)⟩,oe,vs,a1,a2,a3,a4,?_⟩
 rcases r with r | ⟨T,oT,ts,fl,b1,⟨b2,b3⟩,b4⟩
 ·exact .inl r
 ·exact .inr ⟨T,oT,ts,fl,b1,⟨b2,fun p hp=>b3 p (.tail _ hp)⟩,b4⟩
theorem ou{fp:List Addr}{tr:List Addr}{I:Addr}{H₁ H₂:AH}{h h':Heap}(sj:∀b∈fp,b=I∨b∈tr∨∃o,c.base.get? b=some o)(yz:∀b∈tr,∃x,H₁ b=some x)
  (R:mw c H₁ h) (R':mw c H₂ h') (B:c.base.StaysIn h) (B':c.base.StaysIn h') (e:∀b∈tr,H₂ b=H₁ b) (hI:∀o,h.get? I=some o→h'.get? I=some o):∀b∈fp,∀o,h.get? b=some o→h'.get? b=some o:=fun b hb o q=>by
 rcases sj b hb with rfl | h1 | ⟨o',h1⟩
 ·exact hI o q
 ·refine q4 (yz b h1) fun x hx=>?_
  have k1:=(R b x hx).1
  have k2:=(R' b x ((e b h1).trans hx)).1
  rw[q] at k1;rw[k1];exact k2
 ·have:=B b o' h1;rw[q] at this;rw[this];exact B' b o' h1
theorem iT.jO{Q Q':Ko}{x:Value}{s':Shared}{I:Addr}{o:Obj}(h:iT c (f.kept ((I,o)::f.keep)) Q x s')(k:∀C m H,Q (.exc C) m H→Q' (.exc C) m H):iT c f Q' x s':=
 Hx h fun C m' H' e p S F q=>⟨C,m',H',e,p,S.jO.1,F.jO,k C m' H' q⟩
noncomputable def zc(c:Cx)(f:Fx)(rest:List Stmt)(Q:Ko)(J:Nat→bL→AH→Prop)(i:Nat)(tr:List Addr)(H₁:AH):Ko:=fun o m₂ H₂=>match o with
 | .next=>J (i+1) m₂ H₂∧∀b∈tr,H₂ b=H₁ b
 | .cont=>J (i+1) m₂ H₂∧∀b∈tr,H₂ b=H₁ b
 | .brk=>Ex c f rest m₂ H₂ Q
 | .ret d=>Q (.ret d) m₂ H₂
 | .exc C=>Q (.exc C) m₂ H₂
inductive VB(c:Cx)(f:Fx)(x:Str)(body rest:List Stmt)(m:bL)(Q:Ko)(ds:List V)(tr:List Addr)(H₁:AH):Prop | mk (J:Nat→bL→AH→Prop):J 0 m H₁→(∀i d m' H' kp,ds[i]?=some d→J i m' H'→(∀b∈tr,H' b=H₁ b)→Ex c (f.kept kp) body (m'.set x d) H' (zc c f rest Q J i tr H₁))→(∀m' H',J ds.length m' H'→(∀b∈tr,H' b=H₁ b)→Ex c f rest m' H' Q)→VB c f x body rest m Q ds tr H₁
theorem ct(O:iw f){x:Str}{p q:Pos}{iter:Expr}{body rest:List Stmt}{Q:Ko}
  (h:mT c f iter m H
   (VB c f x body rest m Q) (fun C H₁=>Q (.exc C) m H₁))
  (hx:(f.env.kindOf x=some .local)∨(f.env.kindOf x=some .cell∧(f.env.cells.lookup x).isSome=true)) (oV:autoParam (f.fn=true) aR._auto_1)
  (hs:∀x,foldedSetIterable iter f.env x=pure x:=by intro _;rfl):Ex c f (.For (.Name x p) iter body [] q::rest) m H Q:=.mk fun s S=>by
 have VP:∀ {Q':Ko} {x:Value} {s':Shared},(∀C m' H',Q' (.exc C) m' H'→Q (.exc C) m' H')→iT c f Q' x s'→notedBy c.M f.A f.env (fun e s'=>cameBackBy c.M f.A f.env (iT c f Q) e s') x s':=fun k z=>by
  refine Hx z fun C m' H' e XN S' F q=>?_;clear z;obtain rfl:=XN
  exact pI O S' F fun VT G9 HX=>kB O G9 HX fun s₃ S₃ F₃=>⟨C,m',H',e,rfl,S₃,F₃,k C m' H' q⟩
 refine wpAny_execs_cons (wpAny_For (wpAny_mono (h s S) (fun xv s₁ z=>wpAny_mono z (fun it s₂ z=>?_) fun x s' z=>z.ex fun _ _ y=>y) fun x s' z=>z.ex fun _ _ y=>y) hs)
 obtain⟨I,ds,tr,H₁,rfl,_,S₂,hIn,yL,⟨fp,P,sQ,W,st,tP,sj,yz,hit⟩,J,j0,turn,done⟩:=z
 refine codeAny_forLoop (fun n s'=>∃i m' H',n+i=ds.length+1∧i≤ds.length∧St c f m' H' s'∧sQ i s'.heap∧J i m' H'∧∀b∈tr,H' b=H₁ b) (fun n s₃ z=>?_) (ds.length+1) ⟨0,m,H₁,rfl,Nat.zero_le _,S₂,st,j0,fun _ _=>rfl⟩
 refine vl z fun i m₃ H₃ hn hle S₃ W9 j₃ e₃=>?_;clear z
 refine i4 (tP i _ W9) fun oI vI gI dI=>?_
 by_cases cA:i<ds.length
 ·refine W.item i _ _ _ cA W9 fun v h' tk hP uB kp=>?_
  refine q3 (S₃.qJ (s':={ s₃ with heap:=h',toks:=tk }) gI dI hIn yL (fun b o hb e=>kp b o (by simpa using hb) e) rfl rfl) fun S₄ _=>?_
  have hd:ds[i]?=some ds[i]:=List.getElem?_eq_getElem cA
  have iv:=hit i v _ H₃ h' hP hd S₄.rep S₄.base e₃
  refine i4 (tP (i+1) _ uB) fun BJ vI' U3 dI'=>?_
  have S₅:=S₄.Ce (kp:=(I,BJ)::f.keep) fun p hp=>by
   cases hp with
   | head=>exact⟨U3,vI',dI'⟩
   | tail _ hp=>exact S₄.kp p hp
  refine wpAny_assign_Name (iD (f:=f.kept ((I,BJ)::f.keep)) S₅ iv hx oV O.kind fun s₅ S₆ _ _=>?_)
  refine wpAny_mono (turn i ds[i] m₃ H₃ ((I,BJ)::f.keep) hd j₃ e₃ s₅ S₆) (fun fl s₆ z=>?_) fun x s' z=>VP (Q':=Q) (fun _ _ _ y=>y) (z.jO fun _ _ _ y=>y)
  refine q8 z fun o m₆ H₆ fi S₇ q₆=>?_;clear z
  refine q3 (S₇.jO) fun S₈ gI₈=>?_
  have Ie:(∀b∈tr,H₆ b=H₁ b)→sQ (i+1) s₆.heap:=fun e₆=>W.frame _ _ _ uB (ou (H₁:=H₃) (H₂:=H₆) (tr:=tr) sj (fun b hb=>by rw[e₃ b hb];exact yz b hb) S₄.rep S₈.rep S₄.base S₈.base
   (fun b hb=>(e₆ b hb).trans (e₃ b hb).symm) fun o q=>by rw[U3] at q;cases q;exact gI₈)
  cases fl with
  | next=>cases fi;exact⟨n-1,by exact MK hn cA,i+1,m₆,H₆,by exact vZ hn cA,cA,S₈,Ie q₆.2,q₆.1,q₆.2⟩
  | cont=>cases fi;exact⟨n-1,by exact MK hn cA,i+1,m₆,H₆,by exact vZ hn cA,cA,S₈,Ie q₆.2,q₆.1,q₆.2⟩
  | brk=>cases fi;exact(show Ex c f rest m₆ H₆ Q from q₆).run s₆ S₈
  | ret v=>refine q2 fi fun d Ms iv=>?_;clear fi;obtain rfl:=Ms;exact⟨_,m₆,H₆,⟨d,rfl,iv⟩,S₈,q₆⟩
 ·obtain rfl:i=ds.length:=by exact Gj hle cA
  refine W.done _ _ _ W9 fun h' tk kp=>?_
  refine q3 (S₃.qJ (s':={ s₃ with heap:=h',toks:=tk }) gI dI hIn yL (fun b o hb e=>kp b o (by simpa using hb) e) rfl rfl) fun S₄ _=>?_
  exact wpAny_execs_nil (done m₃ H₃ j₃ e₃ _ S₄)
end
end Mine
namespace Mine
open PySem
noncomputable abbrev kA(f:Fx)(scope:Scope)(cl:List (Str×Addr))(C:Addr)(hE:Heap)(H:AH):Fx:=
 { A:=f.A,env:=compEnvC scope cl C f.env,bK:=f.bK,hE:=hE,HE:=H,keep:=[],fn:=false }
noncomputable def jJ(m:bL)(cl:List (Str×Addr))(x:Str)(d:V):bL:=fun y=>if y=x then some d else if(cl.lookup y).isSome then m y else none
noncomputable def Cd(c:Cx)(fC:Fx)(elt:Expr)(ifs:List Expr)(mC:bL)(H:AH)(Qy:V→AH→Prop)(Qn:AH→Prop):Prop:=match ifs with
 | []=>Ev c fC elt mC H Qy (fun _ _=>False)
 | [t]=>Ts c fC t mC H (fun b H'=>(b=true→Ev c fC elt mC H' Qy (fun _ _=>False))∧(b=false→Qn H')) (fun _ _=>False)
 | _=>False
section
variable {c:Cx} {f:Fx} {m:bL} {H:AH}
theorem eM(h:Heap):h.get? h.objs.size=none:=by
 cases q:h.get? h.objs.size with
 | none=>rfl
 | some o=>exact absurd (Heap.lt_size q) (Nat.lt_irrefl _)
theorem St.c6{s:Shared}(S:St c f m H s){a:Addr}(e:s.heap.get? a=none):H a=none∧f.hE.get? a=none∧a≠f.env.locals∧(∀x b,f.env.cells.lookup x=some b→b≠a)∧a∉f.fs∧(∀p∈f.keep,a≠p.1):=by
 refine⟨?_,S.old e,fun q=>?_,fun x b hb q=>?_,fun q=>?_,fun p hp q=>?_⟩
 ·cases z:H a with
  | none=>rfl
  | some y=>refine q2 ((S.rep a y z).obj) fun o' g _=>?_;rw[e] at g;cases g
 ·refine q2 (S.loc) fun mv XM _=>?_;obtain⟨o,_,_,g,_⟩:=XM;rw[← q,e] at g;cases g
 ·refine q9 (S.jd x b hb) fun ov o _ _ _ g _=>?_;rw[q,e] at g;cases g
 ·refine xZ (S.ff.mem q) fun o _ g _=>?_;rw[e] at g;cases g
 ·have:=(S.kp p hp).1;rw[← q,e] at this;cases this
theorem St.zp{s:Shared}(S:St c f m H s){a:Addr}{x:fc}(hH:H a=none)(i5:f.hE.get? a=none)(hL:a≠f.env.locals)(fS:∀x b,f.env.cells.lookup x=some b→b≠a)
  (HN:a∉f.fs) (wC:cStatics<a) (hx:ie c s.heap a x):St c f m (H.set a x) s:=by
 have hS:∀b,b≠a→(H.set a x) b=H b:=fun b q=>if_neg q
 refine⟨fun b y e=>?_,S.base,S.bE,fun b o e=>?_,S.off,fun b o e q=>?_,fun b q=>?_,S.loc,S.gU,?_,fun y b e=>?_,S.apart,S.ff,fun b q=>?_,fun b y e=>?_,S.kp,S.gens,S.os⟩
 ·by_cases q:b=a
  ·subst q;rw[AH.set,if_pos rfl] at e;cases e;exact hx
  ·rw[hS b q] at e;exact S.rep b y e
 ·rw[hS b (fun q=>by have:=S.bE b o e;rw[q,i5] at this;cases this)];exact S.hb b o e
 ·rw[hS b (fun z=>by rw[z,i5] at e;cases e)];exact S.i6 b o e q
 ·by_cases z:b=a
  ·subst z;rw[AH.set,if_pos rfl];exact fun w=>nomatch w
  ·rw[hS b z];exact S.up b q
 ·rw[hS _ (Ne.symm hL)];exact S.mG
 ·refine q3 (S.jd y b e) fun p q=>?_
  exact⟨by rw[hS b (fS y b e)];exact p,q⟩
 ·rw[hS b (fun z=>HN (z▸q))];exact S.fh b q
 ·by_cases q:b=a
  ·exact q▸wC
  ·rw[hS b q] at e;exact S.big b y e
theorem St.comp{s:Shared}(S:St c f m H s){scope:Scope}{cl:List (Str×Addr)}{C:Addr}{mv:Str→Option Value}{x:Str}{v:Value}{d:V}
  (fS:∀y a,cl.lookup y=some a→f.env.cells.lookup y=some a∧f.env.kindOf y=some .cell∧(relabel scope f.env).names.lookup y=some .cell) (hx:(relabel scope f.env).names.lookup x=some .local)
  (hn:s.heap.Ns C mv) (hv:mv x=some v) (i:Is s.heap d v) (hC:H C=none) (hCc:∀y a,f.env.cells.lookup y=some a→a≠C):St c (kA f scope cl C s.heap H) (jJ m cl x d) H s:=by
 refine q2 (S.loc) fun mvo no ko=>?_
 refine⟨S.rep,S.base,S.base,S.hb,fun a o e q=>⟨fun _=>e,fun _=>⟨o.slots,e⟩⟩,fun a o e q=>q,fun a q=>q,⟨mv,hn,fun y d' e=>?_⟩,(fun z=>nomatch z),hC,fun y a e=>?_,fun y z a ey ez=>?_,S.ff,S.fh,S.big,(fun p hp=>nomatch hp),S.gens,S.os⟩
 ·by_cases q:y=x
  ·subst q
   rw[jJ,if_pos rfl] at e;cases e
   exact .inl ⟨hx,v,hv,i⟩
  ·rw[jJ,if_neg q] at e
   cases z:cl.lookup y with
   | none=>rw[z] at e;cases e
   | some a=>
    rw[z] at e
    refine iz (fS y a z) fun k1 k2 k3=>?_
    rcases ko y d' (by simpa using e) with ⟨e1,_⟩ | ⟨_,a',v',p,r,u⟩
    ·rw[k2] at e1;cases e1
    ·rw[k1] at p;cases p
     exact .inr ⟨.inl k3,a,v',z,r,u⟩
 ·refine iz (fS y a e) fun k1 k2 k3=>?_
  refine uD (S.jd y a k1) fun p q r z=>?_
  exact⟨p,hCc y a k1,(fun w=>nomatch w),z⟩
 ·exact S.apart y z a (fS y a ey).1 (fS z a ez).1
theorem St.oy{s s':Shared}{H':AH}{m':bL}{scope:Scope}{cl:List (Str×Addr)}{C:Addr}(S:St c (kA f scope cl C s.heap H) m' H' s'):uJ c f.bK H s H' s':=
 ⟨S.rep,S.off,S.i6,S.up,S.big,S.gens,S.os⟩
theorem s5{env:Env}{t:Expr}{A:Around}{Q:Bool→Shared→Prop}{E:Value→Shared→Prop}{s:Shared}(h:wpAny c.M A (isTrue t env (eval t env)) Q E s):
  wpAny c.M A (forIn [t] true fun c r=>if r=true then do let ok ← isTrue c env (eval c env);pure (ForInStep.yield ok) else pure (ForInStep.yield r)) Q E s:=wpAny_tests_one h
inductive CoI(c:Cx)(f:Fx)(m:bL)(H₁:AH)(h₂:Heap)(D C:Addr)(ds:List V)(tr:List Addr)(J:Nat→List V→AH→Prop)(sQ:Nat→Heap→Prop)(n:Nat)(s':Shared):Prop | mk (i:Nat) (acc:List V) (H':AH) (vs:List Value) (mv:Str→Option Value):n+i=ds.length+1→i≤ds.length→St c f m H' s'→Tk h₂ s'.heap→sQ i s'.heap→PlainL s'.heap D vs.toArray→aA s'.heap acc vs→s'.heap.Ns C mv→H' D=none→H' C=none→vs.length≤i→J i acc H'→(∀b∈tr,H' b=H₁ b)→CoI c f m H₁ h₂ D C ds tr J sQ n s'
theorem nA{x:Str}{px pos:Pos}{iter elt:Expr}{ifs:List Expr}{scope:Scope}{cl:List (Str×Addr)}{I:Addr}{ds:List V}{tr:List Addr}{H₁:AH}{s₂:Shared}{E:Value→Shared→Prop}{RR:Value→Addr→Result→Shared→Prop}
  (S₂:St c f m H₁ s₂) (hIn:f.hE.get? I=none) (yL:∀p∈f.keep,I≠p.1) (hI:sW c f.A I ds tr H₁ s₂.heap) (hsz:ds.length≤sizeLine) (hbg:cStatics<s₂.heap.objs.size) (J:Nat→List V→AH→Prop) (j0:J 0 [] H₁)
  (pY:∀y∈scope.names,y.2≠.cell) (gY:scope.kind=.function) (hx:scope.names.lookup x=some .local)
  (fS:∀y a,cl.lookup y=some a→f.env.cells.lookup y=some a∧f.env.kindOf y=some .cell∧(relabel scope f.env).names.lookup y=some .cell)
  (turn:∀i d acc H' C hE,ds[i]?=some d→J i acc H'→(∀b∈tr,H' b=H₁ b)→
   Cd c (kA f scope cl C hE H') elt ifs (jJ m cl x d) H' (fun e d8=>J (i+1) (acc++[e]) d8∧∀b∈tr,d8 b=H₁ b) (fun d8=>J (i+1) acc d8∧∀b∈tr,d8 b=H₁ b))
  (done:∀D C s' acc vs H' mv,cStatics<D→St c f m H' s'→Tk s₂.heap s'.heap→PlainL s'.heap D vs.toArray→aA s'.heap acc vs→s'.heap.Ns C mv→H' D=none→H' C=none→s₂.heap.get? D=none→s₂.heap.get? C=none→D≠C→J ds.length acc H'→(∀b∈tr,H' b=H₁ b)→
   RR (.ref D) C (.ok .next) s') :
  wpAny c.M f.A (newList []) (fun acc s₃=>wpAny c.M f.A (newFunctionEnv scope f.env.globals cl [] f.env.qual none .none (some f.env)) (fun Vh s₄=>
   codeAny c.M f.A (.compStart (.ListComp elt [⟨.Name x px,iter,ifs,0⟩] scope pos) 0 (.ref I) acc { Vh with scope:=relabel scope f.env }) (RR acc Vh.locals) s₄) E s₃) E s₂:=by
 refine vl hI fun fp P sQ W st tP sj yz hit=>?_;clear hI
 refine wpAny_newObj_type (wpAny_newFunctionEnv pY (by intro y hy;simp at hy) (fun h₁ yA wt=>?_) gY)
 dsimp only at yA wt ⊢
 generalize hH2:s₂.heap.push { cls:=.type "list",dict:=none,data:=.seq ([]:List Value).toArray }=H2 at yA wt ⊢
 generalize UX:s₂.heap.objs.size=D
 generalize hCd:H2.objs.size=C at yA wt ⊢
 have hC:C=D+1:=by rw[← hCd,← hH2,Heap.size_push,UX]
 have B3:D≠C:=by exact om5 hC
 have pV:∀a,D≤a→s₂.heap.get? a=none:=fun a ha=>by
  cases e:s₂.heap.get? a with
  | none=>rfl
  | some o'=>exact absurd (Heap.lt_size e) (Nat.not_lt.mpr (UX▸ha))
 have WC:=pV D (Nat.le_refl _)
 have WE:=pV C (om6 hC)
 refine vk (S₂.c6 WC) fun aD1 Vq Vp Vo HQ aD6=>?_
 refine vk (S₂.c6 WE) fun aC1 Vs HT G7 HS Vr=>?_
 refine i4 (tP 0 _ st) fun oI₀ vI₀ gI₀ dI₀=>?_
 have hDI:D≠I:=fun q=>by rw[q,gI₀] at WC;cases WC
 have WD:C≠I:=fun q=>by rw[q,gI₀] at WE;cases WE
 have grow:aM s₂.heap h₁:=fun b o e=>by
  have:b<D:=UX▸Heap.lt_size e
  exact wt.extBut b o (fun(q:b=C)=>by rw[q,hC] at this;exact absurd this (Nat.not_lt.mpr (Nat.le_succ D))) (Heap.get?_push_of_some _ (hH2▸Heap.get?_push_of_some _ e))
 have aat:PlainL h₁ D ([]:List Value).toArray:=⟨_,0,wt.extBut _ _ B3 (Heap.get?_push_of_some _ (hH2▸UX▸Heap.get?_push_size _ rfl)),rfl,rfl,rfl⟩
 have loop:∀s₃:Shared,s₃={ s₂ with heap:=h₁,toks:=s₂.toks+([]:List (Str×Value)).length }→
   codeAny c.M f.A (.compLoop (.ListComp elt [⟨.Name x px,iter,ifs,0⟩] scope pos) 0 (.ref I) (.ref D) (compEnvC scope cl C f.env)) (RR (.ref D) C) s₃:=by
  rintro s₃ rfl
  have S₃:=S₂.grow (s':={ s₂ with heap:=h₁,toks:=s₂.toks+([]:List (Str×Value)).length }) grow rfl rfl
  refine codeAny_compLoop_tests (CoI c f m H₁ s₂.heap D C ds tr J sQ)
   (fun n s' z=>?_) (ds.length+1) ⟨0,[],H₁,[],_,rfl,Nat.zero_le _,S₃,grow.tk,W.frame _ _ _ st fun b _ o e=>grow b o e,aat,dJ _,yA,aD1,aC1,Nat.le_refl _,j0,fun _ _=>rfl⟩
  obtain⟨i,acc,H',vs,mv,hn,hle,S',tk',uB,vn,jM,v3,D',C',HG,j',e'⟩:=z
  refine i4 (tP i _ uB) fun oI vI gI dI=>?_
  have hIH:H' I=none:=by
   cases z:H' I with
   | none=>rfl
   | some y=>refine q5 ((S'.rep I y z).obj) fun o' g _ nf _=>?_;rw[gI] at g;cases g;exact absurd dI (nf _)
  have aay:I∉f.fs:=fun q=>by refine xZ (S'.ff.mem q) fun o _ g nf=>?_;rw[gI] at g;cases g;exact nf _ dI
  by_cases cA:i<ds.length
  ·refine W.item i _ _ _ cA uB fun v h' tk hP st₄ kp=>?_
   have p6:Heap.ExtBut I s'.heap h':=fun b o hb e=>kp b o (by simpa using hb) e
   refine q3 (S'.qJ (s':={ s' with heap:=h',toks:=tk }) gI dI hIn yL p6 rfl rfl) fun S₄ t₄=>?_
   have hd:ds[i]?=some ds[i]:=List.getElem?_eq_getElem cA
   have iv:=hit i v _ H' h' hP hd S₄.rep S₄.base e'
   have oS:=lookup_relabel_local (env:=f.env) hx
   refine wpAny_assign_Name (wpAny_storeName_local (env:=compEnvC scope cl C f.env) oS (v3.extBut p6 WD) (fun h₅ Zp Xf=>?_) (by simp[compEnvC,relabel,gY]))
   refine q8 (v3.extBut p6 WD) fun oC esC epC gC dC _=>?_
   obtain⟨S₅,t₅⟩:=S₄.other (s':={ s' with heap:=h₅,toks:=tk+1 }) C' Vs HT G7 HS Vr (fun o vs n e mP dt=>by
    have:oC=o:=Option.some.inj (gC.symm.trans e)
    subst this;rw[dC] at dt;cases dt) Xf.extBut rfl rfl
   have iv₅:=iv.tk t₅
   have S₆:=S₅.comp (scope:=scope) (cl:=cl) (x:=x) (d:=ds[i]) (v:=v) fS oS Zp (if_pos rfl) iv₅ C' G7
   have ME:PlainL h₅ D vs.toArray:=(vn.extBut p6 hDI).extBut Xf.extBut B3
   have ZV:aA h₅ acc vs:=(jM.tk t₄).tk t₅
   refine i4 (tP (i+1) _ st₄) fun BJ vI' U3 dI'=>?_
   have gI₅:h₅.get? I=some BJ:=Xf.extBut I BJ (Ne.symm WD) U3
   have tk₅:Tk s₂.heap h₅:=tk'.trans (t₄.trans t₅)
   have back:∀ {d8:AH} {s₇:Shared},uJ c f.bK H' { s' with heap:=h₅,toks:=tk+1 } d8 s₇→(∀b∈tr,d8 b=H₁ b)→St c f m d8 s₇∧Tk s₂.heap s₇.heap∧sQ (i+1) s₇.heap∧PlainL s₇.heap D vs.toArray∧aA s₇.heap acc vs∧(∃mv,s₇.heap.Ns C mv)∧d8 D=none∧d8 C=none∧s₇.heap.get? I=some BJ:=fun L e''=>by
    refine q3 (S₅.back L) fun S₇ t₇=>?_
    have un:∀a o,h₅.get? a=some o→H' a=none→a∉f.fs→_:=fun a o e q n=>(L.off a o e q).1 n
    refine i4 ME fun oD nD gD rD=>?_;clear ME
    refine q6 Zp fun Zn U8 WL gC' rC'=>?_;clear Zp
    have gI₇:=un I BJ gI₅ hIH aay
    refine⟨S₇,tk₅.trans t₇,?_,⟨oD,nD,un D oD gD D' HQ,rD⟩,ZV.tk t₇,⟨_,Zn,U8,WL,un C Zn gC' C' HS,rC'⟩,L.i6 D oD gD D',L.i6 C Zn gC' C',gI₇⟩
    exact W.frame _ _ _ st₄ (ou (H₁:=H') (tr:=tr) sj (fun b hb=>by rw[e' b hb];exact yz b hb) S₄.rep S₇.rep S₄.base S₇.base (fun b hb=>(e'' b hb).trans (e' b hb).symm) fun o q=>by rw[U3] at q;cases q;exact gI₇)
   have ended:∀ {y:Value} {e:V} {d8:AH} {s₇:Shared},uJ c f.bK H' { s' with heap:=h₅,toks:=tk+1 } d8 s₇→Is s₇.heap e y→J (i+1) (acc++[e]) d8→(∀b∈tr,d8 b=H₁ b)→
     wpAny c.M f.A (call (.builtin "list.append") [.ref D,y]) (fun _ s₅=>∃k,k<n∧CoI c f m H₁ s₂.heap D C ds tr J sQ k s₅)
      (notedBy c.M f.A (compEnvC scope cl C f.env) fun e s'=>RR (.ref D) C (.error e) s') s₇:=fun {y e d8 s₇} L iy jj ee=>by
    refine q39 (back L ee) fun S₇ t₇ st₇ Yh ia₇ Mq D₇ C₇ gI₇=>?_;obtain⟨mv₇,ns₇⟩:=Mq
    refine list_append_plainL Yh (fun h₈ Yg Xe=>?_) (by rw[List.size_toArray];exact Zh hsz HG cA)
    refine q40 Yh fun oD nD gD cD ddD dD=>?_;clear Yh
    refine q3 (S₇.other (s':={ s₇ with heap:=h₈ }) D₇ Vq Vp Vo HQ aD6 (fun o vs n e mP dt=>by rw[gD] at e;cases e;rw[cD] at mP;exact absurd mP (by decide)) Xe.extBut rfl rfl) fun S₈ t₈=>?_
    refine⟨n-1,by exact MK hn cA,i+1,acc++[e],d8,vs++[y],mv₇,by exact vZ hn cA,cA,S₈,t₇.trans t₈,?_,by simpa using Yg,(ia₇.append (eh iy)).tk t₈,ns₇.extBut Xe.extBut (Ne.symm B3),D₇,C₇,by simp;exact Tt HG,jj,ee⟩
    exact W.frame _ _ _ st₇ (ou (H₁:=d8) (tr:=tr) sj (fun b hb=>by rw[ee b hb];exact yz b hb) S₇.rep S₈.rep S₇.base S₈.base (fun b hb=>rfl) fun o q=>Xe.extBut I o (Ne.symm hDI) q)
   have T:=turn i ds[i] acc H' C h₅ hd j' e'
   match ifs,T with
   | [],T=>
    refine wpAny_tests_nil ?_
    rw[if_pos rfl]
    refine wpAny_mono (Ev.run T _ S₆) (fun y s₇ z=>?_) fun _ _ z=>?_
    ·refine xY z fun e d8 _ iy S₇ jj ee=>?_;clear z
     exact ended S₇.oy iy jj ee
    ·refine q7 z fun _ _ _ _ _ _ zX=>?_;clear z;have z:=zX;clear zX;exact z.elim
   | [t],T=>
    refine s5 (wpAny_mono (Ts.run T _ S₆) (fun b s₇ z=>?_) fun _ _ z=>?_)
    ·refine q1 z fun d8 S₇ q1 q2=>?_;clear z
     cases b with
     | true=>
      rw[if_pos rfl]
      refine wpAny_mono (q1 rfl s₇ S₇) (fun y s₈ z=>?_) fun _ _ z=>?_
      ·refine xY z fun e H₃ _ iy S₈ jj ee=>?_;clear z
       exact ended S₈.oy iy jj ee
      ·refine q7 z fun _ _ _ _ _ _ zW=>?_;clear z;have z:=zW;clear zW;exact z.elim
     | false=>
      rw[if_neg (by decide)]
      refine q3 (q2 rfl) fun jj ee=>?_
      refine q39 (back S₇.oy ee) fun S₈ t₈ st₈ Yg ia₈ Mo D₈ C₈ _=>?_;obtain⟨mv₈,ns₈⟩:=Mo
      exact⟨n-1,by exact MK hn cA,i+1,acc,d8,vs,mv₈,by exact vZ hn cA,cA,S₈,t₈,st₈,Yg,ia₈,ns₈,D₈,C₈,by exact qO HG,jj,ee⟩
    ·refine q7 z fun _ _ _ _ _ _ zV=>?_;clear z;have z:=zV;clear zV;exact z.elim
   | _::_::_,T=>exact T.elim
  ·obtain rfl:i=ds.length:=by exact Gj hle cA
   refine W.done _ _ _ uB fun h' tk kp=>?_
   have p6:Heap.ExtBut I s'.heap h':=fun b o hb e=>kp b o (by simpa using hb) e
   refine q3 (S'.qJ (s':={ s' with heap:=h',toks:=tk }) gI dI hIn yL p6 rfl rfl) fun S₄ t₄=>?_
   exact done D C _ acc vs H' mv (UX▸hbg) S₄ (tk'.trans t₄) (vn.extBut p6 hDI) (jM.tk t₄) (v3.extBut p6 WD) D' C' WC WE B3 j' e'
 exact codeAny_compStart_list (loop _ rfl) (W.self 0 _ _ _ (W.frame _ _ _ st fun b _ o e=>grow b o e) (loop _ rfl))
end
end Mine
namespace Mine
open PySem
noncomputable def ai(H:AH)(a:Addr)(ds:List V):Prop:=∃o,H a=some ⟨o,.list ds⟩
noncomputable def ax(H:AH)(a:Addr)(kvs:List (Int×V)):Prop:=∃o,H a=some ⟨o,.dict kvs⟩
section
variable {c:Cx} {f:Fx} {m:bL} {H:AH} {X:Value→AH→Prop}
theorem AH.set_other(H:AH){a b:Addr}(x:fc)(h:b≠a):(H.set a x) b=H b:=if_neg h
theorem St.d5{s:Shared}(K:cV c)(S:St c f m H s):cStatics<s.heap.objs.size:=by
 refine q2 (K.lim) fun mc XK _=>?_;obtain⟨o,_,_,g,_⟩:=XK
 exact Heap.lt_size (S.base _ _ g)
theorem mw.list{a:Addr}{o:Obj}{ds:List V}{h:Heap}(R:mw c H h)(e:H a=some ⟨o,.list ds⟩):∃vs n,h.get? a=some o∧o.cls=.type "list"∧o.dict=none∧o.data=.seq vs.toArray n∧aA h ds vs:=by
 refine xZ (R a _ e) fun vs g XJ i=>?_;obtain⟨o',n,g',r1,r2,r3⟩:=XJ
 rw[g'] at g;cases g
 exact⟨vs,n,g',r1,r2,r3,i⟩
theorem mw.plain{a:Addr}{ds:List V}{h:Heap}(R:mw c H h)(e:ai H a ds):∃vs,PlainL h a vs.toArray∧aA h ds vs:=by
 refine q4 e fun o Jv=>?_;clear e;have e:=Jv;clear Jv
 refine tv (R.list e) fun vs n g r1 r2 r3 i=>?_
 exact⟨vs,⟨o,n,g,r1,r2,r3⟩,i⟩
theorem mw.dict{a:Addr}{o:Obj}{kvs:List (Int×V)}{h:Heap}(R:mw c H h)(e:H a=some ⟨o,.dict kvs⟩):∃kv es ep,h.get? a=some o∧o.ExactDict∧o.data=.dict es ep∧KeysOf (intKind c.prog c.w) es∧Pairs (intKind c.prog c.w) es.toList kv∧(kv.map (·.1)).Nodup∧
  kv.map (·.1)=kvs.map (·.1)∧aA h (kvs.map (·.2)) (kv.map (·.2)):=by
 refine q27 (R a _ e) fun kv g XI p i=>?_;obtain⟨o',es,ep,g',r1,r2,r3,r4,r5⟩:=XI
 rw[g'] at g;cases g
 exact⟨kv,es,ep,g',r1,r2,r3,r4,r5,p,i⟩
theorem mw.dictOf{a:Addr}{kvs:List (Int×V)}{h:Heap}(R:mw c H h)(e:ax H a kvs):∃kv:List (Int×Value),h.DictOf (intKind c.prog c.w) a kv∧kv.map (·.1)=kvs.map (·.1)∧aA h (kvs.map (·.2)) (kv.map (·.2)):=by
 refine q4 e fun o Jf=>?_;clear e;have e:=Jf;clear Jf
 refine Mz (R.dict e) fun kv es ep g r1 r2 r3 r4 r5 p i=>?_
 exact⟨kv,⟨o,es,ep,g,r1,r2,r3,r4,r5⟩,p,i⟩
theorem jT{s:Shared}(S:St c f m H s){a:Addr}{x:fc}(e:H a=some x):(a == sysModules)=false:=by
 have:=S.big a x e
 exact beq_eq_false_iff_ne.mpr fun q=>by rw[q] at this;exact absurd this (by decide)
theorem bD{iter:Expr}{Q:List V→List Addr→AH→Prop}(hh:f.A.handled=none)(h:Ev c f iter m H (fun d H₁=>∃a ds,d=.ref a∧ai H₁ a ds∧Q ds [a] H₁) X):mT c f iter m H Q X:=.mk fun s S=>by
 refine wpAny_mono (h s S) (fun v s₁ z=>?_) fun _ _ x=>x
 refine X7 z fun H₁ a ds t₁ i₁ S₁ XH q=>?_;clear z;obtain⟨o,ha⟩:=XH
 obtain rfl:v=.ref a:=i₁
 refine tv (S₁.rep.list ha) fun vs n g c1 c2 c3 ia=>?_
 have hl:s₁.heap.IsList a vs.toArray:=⟨o,g,c1,n,c3⟩
 have hI:=eM s₁.heap
 refine vk (S₁.c6 hI) fun _ b2 _ _ _ b6=>?_
 have de:a≠s₁.heap.objs.size:=Nat.ne_of_lt (Heap.lt_size g)
 refine wpAny_pyIter_list hl ⟨_,ds,[a],H₁,rfl,t₁.trans (aM.push _ _).tk,S₁.grow (aM.push _ _) rfl rfl,b2,b6,?_,q⟩
 have W:=Walks.list (prog:=c.prog) (w:=c.w) hh s₁.heap.objs.size a de vs.toArray
 have hsz:vs.toArray.size=ds.length:=by rw[List.size_toArray];exact ia.length
 rw[hsz] at W
 refine⟨_,_,_,W,⟨⟨_,Heap.get?_push_size _ rfl,rfl,rfl⟩,hl.push _⟩,fun i h st=>?_,fun b hb=>?_,fun b hb=>?_,fun i v d H' h hP hd R B e=>?_⟩
 ·refine q3 st fun Mw _=>?_;clear st;obtain⟨o,g,_,d⟩:=Mw;exact⟨o,_,g,d⟩
 ·simp only[List.mem_cons,List.not_mem_nil,or_false] at hb
  rcases hb with rfl | rfl
  ·exact .inl rfl
  ·exact .inr (.inl (.head _))
 ·simp only[List.mem_cons,List.not_mem_nil,or_false] at hb;subst hb;exact⟨_,ha⟩
 ·refine tv (R.list ((e a (.head _)).trans ha)) fun WZ n' g' _ _ Vi jM=>?_
  rw[c3] at Vi
  injection Vi with hv _
  have:vs=WZ:=by simpa using hv
  subst this
  refine q2 (jM.get hd) fun v' e1 e2=>?_
  have:vs[i]?=some v:=by simpa using hP
  rw[this] at e1;cases e1;exact e2
theorem dc{iter:Expr}{Q:List V→List Addr→AH→Prop}(hh:f.A.handled=none)(h:Ev c f iter m H (fun d H₁=>∃a kvs,d=.ref a∧ax H₁ a kvs∧Q (kvs.map fun p=>.int p.1) [a] H₁) X):mT c f iter m H Q X:=.mk fun s S=>by
 refine wpAny_mono (h s S) (fun v s₁ z=>?_) fun _ _ x=>x
 refine X7 z fun H₁ a kvs t₁ i₁ S₁ XG q=>?_;clear z;obtain⟨o,ha⟩:=XG
 obtain rfl:v=.ref a:=i₁
 refine Mz (S₁.rep.dict ha) fun kv es ep g c1 c2 c3 c4 c5 p ia=>?_
 have hm:s₁.heap.DictAt (intKind c.prog c.w) a kv ep:=⟨o,es,g,c1,c2,c3,c4,c5⟩
 have hI:=eM s₁.heap
 refine vk (S₁.c6 hI) fun _ b2 _ _ _ b6=>?_
 have de:a≠s₁.heap.objs.size:=Nat.ne_of_lt (Heap.lt_size g)
 have hlen:kv.length=(kvs.map fun p=>V.int p.1).length:=by have:=congrArg List.length p;simpa using this
 refine wpAny_pyIter_dict (jT S₁ ha) hm ⟨_,kvs.map fun p=>.int p.1,[a],H₁,rfl,t₁.trans (aM.push _ _).tk,S₁.grow (aM.push _ _) rfl rfl,b2,b6,?_,q⟩
 have W:=Walks.dictKeys (knd:=intKind c.prog c.w) hh s₁.heap.objs.size a de kv ep
 have W':=W
 rw[hlen] at W'
 refine⟨_,_,_,W',⟨⟨_,Heap.get?_push_size _ rfl,rfl,(by rw[← hlen];rfl)⟩,hm.push _⟩,fun i h st=>?_,fun b hb=>?_,fun b hb=>?_,fun i v d H' h hP hd R B e=>?_⟩
 ·refine q3 st fun XF _=>?_;clear st;obtain⟨o,g,_,d⟩:=XF;exact⟨o,_,g,d⟩
 ·simp only[List.mem_cons,List.not_mem_nil,or_false] at hb
  rcases hb with rfl | rfl
  ·exact .inl rfl
  ·exact .inr (.inl (.head _))
 ·simp only[List.mem_cons,List.not_mem_nil,or_false] at hb;subst hb;exact⟨_,ha⟩
 ·refine i4 hP fun k x hk hv=>?_;clear hP
  have h1:(kv.map (·.1))[i]?=some k:=by rw[List.getElem?_map,hk];rfl
  rw[p,List.getElem?_map] at h1
  rw[List.getElem?_map] at hd
  cases hq:kvs[i]? with
  | none=>rw[hq] at hd;cases hd
  | some pr=>
   rw[hq] at hd h1
   cases hd
   cases h1
   refine q4 (Value.isInt_shape hv) fun t Mv=>?_;obtain rfl:=Mv
   simp only[Is]
   exact⟨t,rfl⟩
theorem du:∀ {vs:List Value} {ns:List Int},PyProof.Rows.IntsAre vs ns→vs.length=ns.length:=by
 intro vs ns h;induction h with
 | nil=>rfl
 | cons _ _ _ ih=>simp[ih]
theorem iJ:∀ {vs:List Value} {ns:List Int} {i:Nat} {k:Int},PyProof.Rows.IntsAre vs ns→ns[i]?=some k→∃t,vs[i]?=some (.int k t):=by
 intro vs ns i k h;induction h generalizing i with
 | nil=>intro e;simp at e
 | cons n t h ih=>intro e;cases i with
  | zero=>simp at e;subst e;exact⟨t,rfl⟩
  | succ i=>simpa using ih (by simpa using e)
theorem nv(a:Int)(n:Nat):((List.range n).map fun i:Nat=>V.int (a+i)).length=n:=by simp
theorem pR{s₁:Shared}{s₀:Heap}{a b:Int}{t u v:Tok}{r:Addr}{Q:List V→List Addr→AH→Prop}(hh:f.A.handled=none)(S₁:St c f m H s₁)(tk:Tk s₀ s₁.heap)(hr:IsRange s₁.heap r a b 1 t u v)
  (ha:-(2 ^ 62)≤a) (ha':a<2 ^ 62) (hb:-(2 ^ 62)≤b) (iL:b<2 ^ 62) (q:Q ((List.range (b-a).toNat).map fun i:Nat=>.int (a+i)) [] H) {E:Value→Shared→Prop} :
  wpAny c.M f.A (pyIter (.ref r)) (fun it s₂=>∃I ds tr H₁,it=.ref I∧Tk s₀ s₂.heap∧St c f m H₁ s₂∧f.hE.get? I=none∧(∀p∈f.keep,I≠p.1)∧sW c f.A I ds tr H₁ s₂.heap∧Q ds tr H₁) E s₁:=by
 have hI:=eM s₁.heap
 refine vk (S₁.c6 hI) fun _ b2 _ _ _ b6=>?_
 refine wpAny_pyIter_range hr (small_one ha ha' hb iL) ⟨_,_,[],H,rfl,tk.trans (aM.push _ _).tk,S₁.grow (aM.push _ _) rfl rfl,b2,b6,?_,q⟩
 have W:=Walks.range (prog:=c.prog) (w:=c.w) hh s₁.heap.objs.size a 1 (b-a).toNat
 rw[← nv a (b-a).toNat] at W
 refine⟨_,_,_,W,?_,fun i h st=>⟨_,_,st,rfl⟩,fun b hb=>.inl (by simpa using hb),fun b hb=>(nomatch hb),fun i v d H' h hP hd R B e=>?_⟩
 ·rw[nv]
  have h1:Builtin.Range.rangeSize a b 1=((b-a).toNat:Int)-((0:Nat):Int):=by rw[rangeSize_one];split <;> first | exact om7 (by assumption) | exact om8 (by assumption)
  have h2:a+((0:Nat):Int)*1=a:=by simp
  show(s₁.heap.push _).get? _=_
  rw[Heap.get?_push_size _ rfl,h1,h2]
 ·refine VY (d0:=v) hP fun t=>?_;clear hP
  rw[List.getElem?_map] at hd
  cases hq:(List.range (b-a).toNat)[i]? with
  | none=>rw[hq] at hd;cases hd
  | some k=>
   rw[hq] at hd;cases hd
   have:k=i:=by
    rw[List.getElem?_eq_some_iff] at hq
    refine q4 hq fun _ zY=>?_;clear hq;have hq:=zY;clear zY
    simpa using hq.symm
   subst this
   simp only[Is]
   exact⟨t,by rw[Int.mul_one]⟩
theorem cW{x:Str}{p₁ p:Pos}{e:Expr}{Q:List V→List Addr→AH→Prop}(hh:f.A.handled=none)
  (h:Ev c f (.Name x p₁) m H (fun d H'=>d=.raw (.type "range")∧Ev c f e m H' (fun d H₁=>∃n:Int,d=.int n∧n<2 ^ 62∧-(2 ^ 62)≤n∧Q ((List.range n.toNat).map fun i:Nat=>.int i) [] H₁) X) X)
  (he:autoParam (starEach [e] f.env=[(false,eval e f.env)]) aR._auto_1):mT c f (.Call (.Name x p₁) [e] [] p) m H Q X:=.mk fun s S=>by
 refine PyProof.Rows.Call_ (wpAny_mono (h s S) (fun v s₁ z=>?_) fun _ _ x=>x)
 refine z5 z fun H₁ t₁ i₁ S₁ q₁=>?_;clear z
 obtain rfl:v=.type "range":=i₁
 refine PyProof.Rows.callWith_type1 (PyProof.Rows.args_cons (wpAny_mono (q₁ s₁ S₁) (fun v s₂ z=>?_) fun _ _ x=>x) he) he rfl
 refine q32 z fun H₂ n t₂ i₂ S₂ hn yC q₂=>?_;clear z
 simp only[Is] at i₂
 refine VY (d0:=v) i₂ fun t=>?_;clear i₂
 refine PyProof.Rows.args_nil (call_range_1 ?_)
 have S₃:=S₂.grow (s':={ s₂ with heap:=s₂.heap.push { cls:=.type "range",data:=.fields #[.int 0 s₂.toks,.int n t,.int 1 (s₂.toks+1)] },toks:=s₂.toks+1+1 }) (aM.push _ _) rfl rfl
 refine pR (a:=0) (b:=n) hh S₃ (t₁.trans (t₂.trans (aM.push _ _).tk)) (IsRange.new ..) (by decide) (by decide) yC hn ?_
 rw[Int.sub_zero]
 have:((List.range n.toNat).map fun i:Nat=>V.int (0+(i:Int)))=(List.range n.toNat).map fun i:Nat=>.int i:=by simp
 rw[this];exact q₂
theorem qt{x:Str}{p₁ p:Pos}{e₁ e₂:Expr}{Q:List V→List Addr→AH→Prop}(hh:f.A.handled=none)
  (h:Ev c f (.Name x p₁) m H (fun d H'=>d=.raw (.type "range")∧Ev c f e₁ m H' (fun d₁ H₁=>Ev c f e₂ m H₁ (fun d₂ H₂=>∃a b:Int,d₁=.int a∧d₂=.int b∧a<2 ^ 62∧-(2 ^ 62)≤a∧b<2 ^ 62∧-(2 ^ 62)≤b∧
   Q ((List.range (b-a).toNat).map fun i:Nat=>.int (a+i)) [] H₂) X) X) X)
  (he:autoParam (starEach [e₁,e₂] f.env=[(false,eval e₁ f.env),(false,eval e₂ f.env)]) aR._auto_1) (GI:autoParam (starEach [e₂] f.env=[(false,eval e₂ f.env)]) aR._auto_1):mT c f (.Call (.Name x p₁) [e₁,e₂] [] p) m H Q X:=.mk fun s S=>by
 refine PyProof.Rows.Call_ (wpAny_mono (h s S) (fun v s₁ z=>?_) fun _ _ x=>x)
 refine z5 z fun H₁ t₁ i₁ S₁ q₁=>?_;clear z
 obtain rfl:v=.type "range":=i₁
 refine PyProof.Rows.callWith_type1 (PyProof.Rows.args_cons (wpAny_mono (q₁ s₁ S₁) (fun v s₂ z=>?_) fun _ _ x=>x) (by rw[he,GI])) (by rw[he,GI]) (by rw[GI];rfl)
 refine mL z fun d₁ H₂ t₂ i₂ S₂ q₂=>?_;clear z
 refine PyProof.Rows.args_cons (wpAny_mono (q₂ s₂ S₂) (fun v₂ s₃ z=>?_) fun _ _ x=>x) GI
 refine q35 z fun H₃ a b t₃ i₃ S₃ Mu h1 h2 h3 h4 q₃=>?_;clear z;obtain rfl:=Mu
 simp only[Is] at i₂ i₃
 refine VY (d0:=v) i₂ fun t=>?_;clear i₂
 refine VY (d0:=v₂) i₃ fun u=>?_;clear i₃
 refine PyProof.Rows.args_nil (call_range_2 ?_)
 have S₄:=S₃.grow (s':={ s₃ with heap:=s₃.heap.push { cls:=.type "range",data:=.fields #[.int a t,.int b u,.int 1 s₃.toks] },toks:=s₃.toks+1 }) (aM.push _ _) rfl rfl
 exact pR (a:=a) (b:=b) hh S₄ (t₁.trans (t₂.trans (t₃.trans (aM.push _ _).tk))) (IsRange.new ..) h2 h1 h4 h3 q₃
end
end Mine
namespace Mine
open PySem
section
variable {c:Cx} {f:Fx} {m:bL} {H:AH} {X:Value→AH→Prop}
noncomputable def mF(c:Cx)(f:Fx)(m:bL)(scope:Scope)(cl:List (Str×Addr))(x:Str)(elt:Expr)(ifs:List Expr)(Q:V→AH→Prop)(ds:List V)(tr:List Addr)(H₁:AH):Prop:=
 ds.length≤sizeLine∧∃J:Nat→List V→AH→Prop,J 0 [] H₁∧
  (∀i d acc H' C hE,ds[i]?=some d→J i acc H'→(∀b∈tr,H' b=H₁ b)→
   Cd c (kA f scope cl C hE H') elt ifs (jJ m cl x d) H' (fun e d8=>J (i+1) (acc++[e]) d8∧∀b∈tr,d8 b=H₁ b) (fun d8=>J (i+1) acc d8∧∀b∈tr,d8 b=H₁ b))∧
  (∀acc H' a o,J ds.length acc H'→(∀b∈tr,H' b=H₁ b)→H' a=none→Q (.ref a) (H'.set a ⟨o,.list acc⟩))
theorem eV{x:Str}{px pos:Pos}{iter elt:Expr}{ifs:List Expr}{scope:Scope}{cl:List (Str×Addr)}{Q:V→AH→Prop}(K:cV c)
  (h:mT c f iter m H (mF c f m scope cl x elt ifs Q) X) (wz:closureFor scope f.env=pure cl)
  (pY:∀y∈scope.names,y.2≠.cell) (gY:scope.kind=.function) (qW:∀y∈scope.names,y.2=.local→scope.names.lookup y.1=some .local) (hx:scope.names.lookup x=some .local)
  (fS:∀y a,cl.lookup y=some a→f.env.cells.lookup y=some a∧f.env.kindOf y=some .cell∧(relabel scope f.env).names.lookup y=some .cell)
  (hs:∀x,foldedSetIterable iter f.env x=pure x:=by intro _;rfl):Ev c f (.ListComp elt [⟨.Name x px,iter,ifs,0⟩] scope pos) m H Q X:=.mk fun s S=>by
 rw[eval_ListComp]
 refine wpAny_comprehension_free (use:=none) rfl hs wz gY qW (wpAny_mono (h s S) (fun xv s₁ z=>wpAny_mono z (fun it s₂ z=>?_) fun _ _ e=>e) fun _ _ e=>e)
 refine q37 (d0:=it) z fun I ds tr H₁ J t₂ S₂ hIn yL hI hsz j0 turn fin=>?_;clear z
 refine nA (RR:=fun acc C=>compPost c.M f.A (iY c f m X) none (hA c f m Q s) acc C) S₂ hIn yL hI hsz (S₂.d5 K) J j0 pY gY hx fS turn ?_
 intro D C s' acc vs H' mv hb S' t' pl ia ns D' C' hD hC B3 jj ee
 refine vk (S₂.c6 hD) fun _ Vq Vp Vo HQ aD6=>?_
 refine vk (S₂.c6 hC) fun _ Vs HT G7 HS Vr=>?_
 refine⟨mv,ns,fun h' sb=>?_⟩
 refine q8 ns fun oC esC epC gC dC _=>?_;clear ns
 refine q3 (S'.other (s':={ s' with heap:=h' }) C' Vs HT G7 HS Vr (fun o vs n e mP dt=>by rw[gC] at e;cases e;rw[dC] at dt;cases dt) sb.extBut rfl rfl) fun S₃ t₃=>?_
 refine i4 (pl.extBut sb.extBut B3) fun oD nD gD r=>?_
 exact⟨t₂.trans (t'.trans t₃),.ref D,_,rfl,S₃.zp (x:=⟨oD,.list acc⟩) D' Vq Vp Vo HQ hb ⟨gD,vs,⟨oD,nD,gD,r⟩,ia.tk t₃⟩,fin acc H' D oD jj ee D'⟩
theorem cU{x y:Str}{px py pos q:Pos}{iter elt:Expr}{ifs:List Expr}{scope:Scope}{cl:List (Str×Addr)}{rest:List Stmt}{Q:Ko}(K:cV c)
  (h:mT c f iter m H (mF c f m scope cl x elt ifs (fun d H'=>Ex c f rest (m.set y d) H' Q)) (fun C H'=>Q (.exc C) m H'))
  (Gz:swapsWith (.ListComp elt [⟨.Name x px,iter,ifs,0⟩] scope pos) (some (.Name y py)) q.line f.env=pure true) (wz:closureFor scope f.env=pure cl)
  (pY:∀y∈scope.names,y.2≠.cell) (gY:scope.kind=.function) (qW:∀y∈scope.names,y.2=.local→scope.names.lookup y.1=some .local) (hx:scope.names.lookup x=some .local)
  (fS:∀y a,cl.lookup y=some a→f.env.cells.lookup y=some a∧f.env.kindOf y=some .cell∧(relabel scope f.env).names.lookup y=some .cell)
  (hy:(f.env.kindOf y=some .local)∨(f.env.kindOf y=some .cell∧(f.env.cells.lookup y).isSome=true)) (oV:autoParam (f.fn=true) aR._auto_1) (hk:autoParam (f.env.scope.kind=.function) aR._auto_1)
  (hs:∀x,foldedSetIterable iter f.env x=pure x:=by intro _;rfl):Ex c f (.Assign [.Name y py] (.ListComp elt [⟨.Name x px,iter,ifs,0⟩] scope pos) q::rest) m H Q:=.mk fun s S=>by
 refine wpAny_execs_cons ?_
 rw[exec_Assign_Name_used _ _ _ _ Gz]
 refine wpAny_bind (wpAny_standAt (wpAny_bind ?_))
 show wpAny c.M f.A (do let _ ← comprehension (.ListComp elt [⟨.Name x px,iter,ifs,0⟩] scope pos) scope f.env _ (newList []) false (eval iter f.env) (some (assign (.Name y py) f.env))) _ _ s
 refine wpAny_bind (wpAny_mono (wpAny_comprehension_free (use:=some (assign (.Name y py) f.env)) (Q:=fun _ s'=>∃H' D,St c f (m.set y (.ref D)) H' s'∧Ex c f rest (m.set y (.ref D)) H' Q) rfl hs wz gY qW
  (wpAny_mono (h s S) (fun xv s₁ z=>wpAny_mono z (fun it s₂ z=>?_) fun x s' z=>z.ex fun _ _ y=>y) fun x s' z=>z.ex fun _ _ y=>y)) (fun _ s' z=>?_) fun _ _ e=>e)
 ·refine q37 (d0:=it) z fun I ds tr H₁ J t₂ S₂ hIn yL hI hsz j0 turn fin=>?_;clear z
  refine nA (RR:=fun acc C=>compPost c.M f.A (iT c f Q) (some (assign (.Name y py) f.env)) (fun _ s'=>∃H' D,St c f (m.set y (.ref D)) H' s'∧Ex c f rest (m.set y (.ref D)) H' Q) acc C) S₂ hIn yL hI hsz (S₂.d5 K) J j0 pY gY hx fS turn ?_
  intro D C s' acc vs H' mv hb S' t' pl ia ns D' C' hD hC B3 jj ee
  refine vk (S₂.c6 hD) fun _ Vq Vp Vo HQ aD6=>?_
  refine vk (S₂.c6 hC) fun _ Vs HT G7 HS Vr=>?_
  refine i4 pl fun oD nD gD r=>?_;clear pl
  refine q8 (id ns) fun oC esC epC gC dC nsr=>?_
  have S₃:=S'.zp (x:=⟨oD,.list acc⟩) D' Vq Vp Vo HQ hb ⟨gD,vs,⟨oD,nD,gD,r⟩,ia⟩
  show wpAny c.M f.A (assign (.Name y py) f.env (.ref D)) _ _ _
  have HC:(H'.set D ⟨oD,.list acc⟩) C=none:=(AH.set_other H' _ (Ne.symm B3)).trans C'
  refine wpAny_assign_Name (iD S₃ (d:=.ref D) rfl hy oV hk fun VT G9 _ kp=>?_)
  have U4:=kp C oC HT (fun x a e q=>G7 x a e q.symm) gC
  refine⟨mv,⟨oC,esC,epC,U4,dC,nsr⟩,fun h' sb=>?_⟩
  refine q3 (G9.other (s':={ VT with heap:=h' }) HC Vs HT G7 HS Vr (fun o vs n e mP dt=>by rw[U4] at e;cases e;rw[dC] at dt;cases dt) sb.extBut rfl rfl) fun S₅ _=>?_
  exact⟨_,D,S₅,fin acc H' D oD jj ee D'⟩
 ·refine i4 z fun H' D S' e=>?_;clear z
  exact wpAny_pure (wpAny_pure (e s' S'))
end
end Mine
namespace Mine
open PySem PyProof.Rows
section
variable {c:Cx} {f:Fx} {m:bL} {H:AH} {X:Value→AH→Prop} {Q:V→AH→Prop}
theorem qq{x:Str}{p₁ p:Pos}{e:Expr}{es:List Expr}{id:String}
  (h:Ev c f (.Name x p₁) m H (fun d H'=>d=.raw (.builtin id)∧oJ c f (e::es) p m H' (fun ds d8=>qk c f (fun vs=>call (.builtin id) vs) ds m d8 Q X) X) X)
  (he:autoParam (starEach (e::es) f.env=(false,eval e f.env)::starEach es f.env) aR._auto_1) (hp:autoParam ((backTo p (starEach es f.env)).any (·.1)=false) aR._auto_1):Ev c f (.Call (.Name x p₁) (e::es) [] p) m H Q X:=.mk fun s S=>by
 refine Call_ (wpAny_mono (h s S) (fun v s₁ z=>?_) fun _ _ x=>x)
 refine z5 z fun H₁ t₁ i₁ S₁ q₁=>?_;clear z
 obtain rfl:v=.builtin id:=i₁
 refine callWith_builtin1 (wpAny_mono (q₁ s₁ S₁) (fun vs s₂ z=>?_) fun _ _ x=>x) he hp
 refine mL z fun ds H₂ t₂ i₂ S₂ q₂=>?_;clear z
 exact wpAny_mono (q₂ s₂ vs S₂ i₂) (fun v s₃ Ds=>q3 Ds fun t₃ r=>⟨t₁.trans (t₂.trans t₃),r⟩) fun _ _ x=>x
theorem qp{x:Str}{p₁ p:Pos}{e:Expr}{es:List Expr}{T:String}
  (h:Ev c f (.Name x p₁) m H (fun d H'=>d=.raw (.type T)∧oJ c f (e::es) p m H' (fun ds d8=>qk c f (fun vs=>call (.type T) vs) ds m d8 Q X) X) X)
  (he:autoParam (starEach (e::es) f.env=(false,eval e f.env)::starEach es f.env) aR._auto_1) (hp:autoParam ((backTo p (starEach es f.env)).any (·.1)=false) aR._auto_1):Ev c f (.Call (.Name x p₁) (e::es) [] p) m H Q X:=.mk fun s S=>by
 refine Call_ (wpAny_mono (h s S) (fun v s₁ z=>?_) fun _ _ x=>x)
 refine z5 z fun H₁ t₁ i₁ S₁ q₁=>?_;clear z
 obtain rfl:v=.type T:=i₁
 refine callWith_type1 (wpAny_mono (q₁ s₁ S₁) (fun vs s₂ z=>?_) fun _ _ x=>x) he hp
 refine mL z fun ds H₂ t₂ i₂ S₂ q₂=>?_;clear z
 exact wpAny_mono (q₂ s₂ vs S₂ i₂) (fun v s₃ Dr=>q3 Dr fun t₃ r=>⟨t₁.trans (t₂.trans t₃),r⟩) fun _ _ x=>x
noncomputable def nG(c:Cx)(f:Fx)(es:List Expr)(m:bL)(H:AH)(ds:List V):Prop:=∀p,oJ c f es p m H (fun ds' H'=>ds'=ds∧H'=H) (fun _ _=>False)
theorem oJ.mono{p:Pos}{es:List Expr}{Q Q':List V→AH→Prop}{X':Value→AH→Prop}(h:oJ c f es p m H Q X)(k:∀d H,Q d H→Q' d H)(kx:∀C H,X C H→X' C H):oJ c f es p m H Q' X':=
 .mk fun s S=>wpAny_mono (h s S) (fun _ _ Dq=>mL Dq fun d H' t i S' q=>⟨t,d,H',i,S',k _ _ q⟩) fun _ _ g=>g.mono kx
theorem nG.nz{p:Pos}{es:List Expr}{ds:List V}{Q:List V→AH→Prop}(h:nG c f es m H ds)(q:Q ds H):oJ c f es p m H Q X:=
 oJ.mono (h p) (fun _ _ Dp=>q3 Dp fun a b=>by subst a;subst b;exact q) fun _ _ z=>z.elim
theorem aU:nG c f [] m H []:=fun p=>bk ⟨rfl,rfl⟩
theorem au{e:Expr}{es:List Expr}{d:V}{ds:List V}(h:Pe c f e m H d)(hs:nG c f es m H ds)(he:autoParam (starEach (e::es) f.env=(false,eval e f.env)::starEach es f.env) aR._auto_1):nG c f (e::es) m H (d::ds):=fun p=>
 az (h.ev (hs.nz ⟨rfl,rfl⟩)) he
theorem aa{x:Str}{p:Pos}{d:V}(hx:m x=some d)(hk:autoParam (f.env.scope.kind=.function) aR._auto_1)(hd:autoParam ((x == ("__debug__":Str))=false) aD._auto_1)
  (hn:autoParam ((x == ("__classdict__":Str))=false) aD._auto_1):Pe c f (.Name x p) m H d:=Hp hx ⟨rfl,rfl⟩ hk hd hn
theorem bF{x:Str}{p:Pos}{v:Value}(K:cV c)(hx:GN c x v)(hg:autoParam (f.env.globals=mainGlobals) aR._auto_1)(hb:autoParam (f.env.builtins=builtinsNs) aR._auto_1)
  (hk:autoParam (f.env.scope.kind=.function) aR._auto_1) (hn:autoParam (f.env.kindOf x=some .globalImplicit) aR._auto_1) (hd:autoParam ((x == ("__debug__":Str))=false) aD._auto_1):Pe c f (.Name x p) m H (.raw v):=zj K hx ⟨rfl,rfl⟩ hg hb hk hn hd
theorem ae{i:Int}{k:Nat}{p:Pos}:Pe c f (.Constant (.int i) k p) m H (.int i):=xq ⟨rfl,rfl⟩
theorem j5{x:Str}{k:Nat}{p:Pos}:Pe c f (.Constant (.str x) k p) m H (.str x):=Hq ⟨rfl,rfl⟩
theorem bS{k:Nat}{p:Pos}:Pe c f (.Constant .none k p) m H .none:=zh ⟨rfl,rfl⟩
theorem y9{b:Bool}{k:Nat}{p:Pos}:Pe c f (.Constant (.bool b) k p) m H (.bool b):=zk ⟨rfl,rfl⟩
structure B2(c:Cx)(f:Fx)(H:AH)(t:Value→Value→Sem Value)(d₁ d₂ d:V):Prop where
 mk::
 run :
  ∀m s v₁ v₂,St c f m H s→Is s.heap d₁ v₁→Is s.heap d₂ v₂→kH c f.A (t v₁ v₂) s d
noncomputable instance {c:Cx} {f:Fx} {H:AH} {t:Value→Value→Sem Value} {d₁ d₂ d:V}:CoeFun (B2 c f H t d₁ d₂ d) (fun _=>
  ∀m s v₁ v₂,St c f m H s→Is s.heap d₁ v₁→Is s.heap d₂ v₂→kH c f.A (t v₁ v₂) s d):=⟨B2.run⟩
theorem B2.op{t:Value→Value→Sem Value}{d₁ d₂ d:V}(h:B2 c f H t d₁ d₂ d)(q:Q d H):Hb c f t d₁ d₂ m H Q X:=.mk fun s v₁ v₂ S i₁ i₂=>(h m s v₁ v₂ S i₁ i₂).good S q
structure BN(c:Cx)(f:Fx)(H:AH)(t:List Value→Sem Value)(ds:List V)(d:V):Prop where
 mk::
 run :
  ∀m s vs,St c f m H s→aA s.heap ds vs→kH c f.A (t vs) s d
noncomputable instance {c:Cx} {f:Fx} {H:AH} {t:List Value→Sem Value} {ds:List V} {d:V}:CoeFun (BN c f H t ds d) (fun _=>
  ∀m s vs,St c f m H s→aA s.heap ds vs→kH c f.A (t vs) s d):=⟨BN.run⟩
theorem BN.op{t:List Value→Sem Value}{ds:List V}{d:V}(h:BN c f H t ds d)(q:Q d H):qk c f t ds m H Q X:=.mk fun s vs S i=>(h m s vs S i).good S q
theorem aw{l r:Expr}{op:Operator}{p:Pos}{d₁ d₂ d:V}(hl:Pe c f l m H d₁)(hr:Pe c f r m H d₂)(h:B2 c f H (binaryOp op) d₁ d₂ d):Pe c f (.BinOp l op r p) m H d:=
 xr (hl.ev (hr.ev (h.op ⟨rfl,rfl⟩)))
theorem aH{l r:Expr}{op:CmpOp}{p:Pos}{d₁ d₂:V}{b:Bool}{P:Prop}(hl:Pe c f l m H d₁)(hr:Pe c f r m H d₂)(h:B2 c f H (compareOp op) d₁ d₂ (.bool b))(hP:b=true↔P)(hm:behindInMarks op r=false:=by with_unfolding_all rfl):
  Tp c f (.Compare l [op] [r] p) m H P:=eS (hl.ev (hr.ev (h.op ⟨b,rfl,rfl,hP⟩))) hm
theorem qi{x:Str}{p₁ p:Pos}{e:Expr}{es:List Expr}{id:String}{ds:List V}{d:V}(hx:Pe c f (.Name x p₁) m H (.raw (.builtin id)))(hs:nG c f (e::es) m H ds)(h:BN c f H (fun vs=>call (.builtin id) vs) ds d)
  (he:autoParam (starEach (e::es) f.env=(false,eval e f.env)::starEach es f.env) aR._auto_1) (hp:autoParam ((backTo p (starEach es f.env)).any (·.1)=false) aR._auto_1):Pe c f (.Call (.Name x p₁) (e::es) [] p) m H d:=
 qq (hx.ev ⟨rfl,hs.nz (h.op ⟨rfl,rfl⟩)⟩) he hp
theorem oB{x:Str}{p₁ p:Pos}{e:Expr}{es:List Expr}{k:Nat}{fa:Addr}{o:Obj}{fd:FuncData}{ds:List V}{d:V}(ho:c.base.get? fa=some o)(hd:o.data=.func fd)(R:bw k f.A)(hf:f.A.frames=some f.bK)
  (hx:Pe c f (.Name x p₁) m H (.ref fa)) (hs:nG c f (e::es) m H ds) (h:Fn c k (.ref fa) ds H (fun d' H'=>d'=d∧H'=H) (fun _ _=>False))
  (he:autoParam (starEach (e::es) f.env=(false,eval e f.env)::starEach es f.env) aR._auto_1):Pe c f (.Call (.Name x p₁) (e::es) [] p) m H d:=
 gA ho hd R hf (hx.ev ⟨rfl,hs.nz h⟩) he
theorem aY{h:Heap}{i:Int}{v:Value}(x:Is h (.int i) v):∃t,v=.int i t:=by simpa only[Is] using x
theorem cM{h:Heap}{i:Str}{v:Value}(x:Is h (.str i) v):∃t,v=.str i t:=by simpa only[Is] using x
theorem aG{h:Heap}{u v:Value}(x:Is h (.raw u) v):v=u:=by simpa only[Is] using x
theorem cI{h:Heap}{i:Int}{t:Tok}:Is h (.int i) (.int i t):=by simp only[Is];exact⟨t,rfl⟩
theorem ji{h:Heap}{i:Str}{t:Tok}:Is h (.str i) (.str i t):=by simp only[Is];exact⟨t,rfl⟩
theorem br{h:Heap}{u:Value}:Is h (.raw u) u:=by simp only[Is]
theorem bx{a b:Int}:B2 c f H (binaryOp .Add) (.int a) (.int b) (.int (a+b)):=.mk fun m s v₁ v₂ S i₁ i₂=>by
 refine q4 (aY i₁) fun t Mm=>?_;obtain rfl:=Mm;refine q4 (aY i₂) fun u Ml=>?_;obtain rfl:=Ml
 exact PyProof.Rows.add_int ⟨aM.refl _,rfl,rfl,cI⟩
theorem dF{a b:Int}:B2 c f H (binaryOp .Sub) (.int a) (.int b) (.int (a-b)):=.mk fun m s v₁ v₂ S i₁ i₂=>by
 refine q4 (aY i₁) fun t Mk=>?_;obtain rfl:=Mk;refine q4 (aY i₂) fun u Mh=>?_;obtain rfl:=Mh
 exact PyProof.Rows.sub_int ⟨aM.refl _,rfl,rfl,cI⟩
theorem iu{a b:Int}(hm:IntMulOk a b):B2 c f H (binaryOp .Mult) (.int a) (.int b) (.int (a*b)):=.mk fun m s v₁ v₂ S i₁ i₂=>by
 refine q4 (aY i₁) fun t Mj=>?_;obtain rfl:=Mj;refine q4 (aY i₂) fun u Mi=>?_;obtain rfl:=Mi
 exact PyProof.Rows.mul_int ⟨aM.refl _,rfl,rfl,cI⟩ hm
theorem dG{a b:Int}(hb:0<b)(BY:b<1073741824):B2 c f H (binaryOp .FloorDiv) (.int a) (.int b) (.int (a / b)):=.mk fun m s v₁ v₂ S i₁ i₂=>by
 refine q4 (aY i₁) fun t Mg=>?_;obtain rfl:=Mg;refine q4 (aY i₂) fun u Me=>?_;obtain rfl:=Me
 refine PyProof.Rows.floordiv_int (S7 hb) ?_ (.inl (PyProof.noPylong_small (by omega)))
 rw[Int.fdiv_eq_ediv_of_nonneg _ (yd hb)]
 exact⟨aM.refl _,rfl,rfl,cI⟩
theorem bV{a b:Int}(hb:0<b):B2 c f H (binaryOp .Mod) (.int a) (.int b) (.int (a % b)):=.mk fun m s v₁ v₂ S i₁ i₂=>by
 refine q4 (aY i₁) fun t Mf=>?_;obtain rfl:=Mf;refine q4 (aY i₂) fun u Md=>?_;obtain rfl:=Md
 refine PyProof.Rows.mod_int (S7 hb) ?_
 rw[Int.fmod_eq_emod_of_nonneg _ (yd hb)]
 exact⟨aM.refl _,rfl,rfl,cI⟩
theorem VF{a n:Int}(hn:0≤n)(uF:n≤1000000)(ha:a.natAbs<2 ^ 64):B2 c f H (binaryOp .Pow) (.int a) (.int n) (.int (a ^ n.toNat)):=.mk fun m s v₁ v₂ S i₁ i₂=>by
 refine q4 (aY i₁) fun t Mc=>?_;obtain rfl:=Mc;refine q4 (aY i₂) fun u Mb=>?_;obtain rfl:=Mb
 exact PyProof.Rows.pow_int_small hn uF ha ⟨aM.refl _,rfl,rfl,cI⟩
theorem dE{e:Expr}{p:Pos}{a:Int}(h:Pe c f e m H (.int a)):Pe c f (.UnaryOp .USub e p) m H (.int (-a)):=.mk fun s S=>by
 show wpAny c.M f.A (do let v ← eval e f.env;standAt p;holding [v] (unaryOp .USub v)) _ _ s
 refine wpAny_bind (wpAny_mono (h s S) (fun v s₁ z=>?_) fun _ _ x=>x)
 refine jB z fun t i S₁=>?_;clear z
 refine q4 (aY i) fun u Ma=>?_;obtain rfl:=Ma
 exact wpAny_bind (wpAny_standAt (wpAny_holding (PyProof.Rows.neg_int ⟨t,.int (-a),H,cI,S₁.grow (s':={ s₁ with toks:=s₁.toks+1 }) (aM.refl _) rfl rfl,rfl,rfl⟩)))
theorem oO{a b:Int}:B2 c f H (compareOp .Lt) (.int a) (.int b) (.bool (decide (a<b))):=.mk fun m s v₁ v₂ S i₁ i₂=>by
 refine q4 (aY i₁) fun t L9=>?_;obtain rfl:=L9;refine q4 (aY i₂) fun u L8=>?_;obtain rfl:=L8
 exact PyProof.Rows.lt_int ⟨aM.refl _,rfl,rfl,br⟩
theorem xA{a b:Int}:B2 c f H (compareOp .LtE) (.int a) (.int b) (.bool (decide (a≤b))):=.mk fun m s v₁ v₂ S i₁ i₂=>by
 refine q4 (aY i₁) fun t L7=>?_;obtain rfl:=L7;refine q4 (aY i₂) fun u L6=>?_;obtain rfl:=L6
 exact PyProof.Rows.le_int ⟨aM.refl _,rfl,rfl,br⟩
theorem jw{a b:Int}:B2 c f H (compareOp .Gt) (.int a) (.int b) (.bool (decide (b<a))):=.mk fun m s v₁ v₂ S i₁ i₂=>by
 refine q4 (aY i₁) fun t L5=>?_;obtain rfl:=L5;refine q4 (aY i₂) fun u L4=>?_;obtain rfl:=L4
 exact PyProof.Rows.gt_int ⟨aM.refl _,rfl,rfl,br⟩
theorem fg{a b:Int}:B2 c f H (compareOp .Eq) (.int a) (.int b) (.bool (a == b)):=.mk fun m s v₁ v₂ S i₁ i₂=>by
 refine q4 (aY i₁) fun t L0=>?_;obtain rfl:=L0;refine q4 (aY i₂) fun u LZ=>?_;obtain rfl:=LZ
 exact PyProof.Rows.eq_int ⟨aM.refl _,rfl,rfl,br⟩
theorem qv{a b:Int}:B2 c f H (compareOp .NotEq) (.int a) (.int b) (.bool (a != b)):=.mk fun m s v₁ v₂ S i₁ i₂=>by
 refine q4 (aY i₁) fun t LY=>?_;obtain rfl:=LY;refine q4 (aY i₂) fun u LX=>?_;obtain rfl:=LX
 exact PyProof.Rows.ne_int ⟨aM.refl _,rfl,rfl,br⟩
theorem VI{x y:Str}:B2 c f H (compareOp .Eq) (.str x) (.str y) (.bool (x == y)):=.mk fun m s v₁ v₂ S i₁ i₂=>by
 refine q4 (cM i₁) fun t LW=>?_;obtain rfl:=LW;refine q4 (cM i₂) fun u LV=>?_;obtain rfl:=LV
 exact PyProof.Rows.eq_str ⟨aM.refl _,rfl,rfl,br⟩
theorem VG{x y:Str}:B2 c f H (compareOp .NotEq) (.str x) (.str y) (.bool (x != y)):=.mk fun m s v₁ v₂ S i₁ i₂=>by
 refine q4 (cM i₁) fun t LU=>?_;obtain rfl:=LU;refine q4 (cM i₂) fun u LR=>?_;obtain rfl:=LR
 exact PyProof.Rows.ne_str ⟨aM.refl _,rfl,rfl,br⟩
theorem VK{x y:Str}(hsz:x.length+y.length≤sizeLine):B2 c f H (binaryOp .Add) (.str x) (.str y) (.str (x++y)):=.mk fun m s v₁ v₂ S i₁ i₂=>by
 refine q4 (cM i₁) fun t LQ=>?_;obtain rfl:=LQ;refine q4 (cM i₂) fun u LO=>?_;obtain rfl:=LO
 exact PyProof.Rows.add_str (fun t' tk=>⟨aM.refl _,rfl,rfl,ji⟩) hsz
theorem lT{h:Heap}{d:V}{v:Value}(i:Is h d v):(v == .none)=true↔d=.none:=by
 rw[beq_iff_eq]
 cases d with
 | int i'=>refine q4 (aY i) fun t LN=>?_;obtain rfl:=LN;exact⟨(fun e=>nomatch e),(fun e=>nomatch e)⟩
 | str i'=>refine q4 (cM i) fun t LM=>?_;obtain rfl:=LM;exact⟨(fun e=>nomatch e),(fun e=>nomatch e)⟩
 | tup ds=>simp only[Is] at i;refine q42 (d0:=v) i fun a vs _=>?_;clear i;exact⟨(fun e=>nomatch e),(fun e=>nomatch e)⟩
 | raw u=>obtain rfl:=aG i;exact⟨fun e=>by rw[e],fun e=>by injection e⟩
theorem dM{l:Expr}{p p₂:Pos}{k:Nat}{d:V}(hl:Pe c f l m H d):Tp c f (.Compare l [.Is] [.Constant .none k p₂] p) m H (d=.none):=
 eS (hl.ev (bS.ev <| .mk fun s v₁ v₂ S i₁ i₂=>by
  obtain rfl:=aG i₂
  exact is_none ⟨Tk.refl _,_,H,br,S,_,rfl,rfl,lT i₁⟩))
theorem bq{l:Expr}{p p₂:Pos}{k:Nat}{d:V}(hl:Pe c f l m H d):Tp c f (.Compare l [.IsNot] [.Constant .none k p₂] p) m H (d≠.none):=
 eS (hl.ev (bS.ev <| .mk fun s v₁ v₂ S i₁ i₂=>by
  obtain rfl:=aG i₂
  refine isNot_none ⟨Tk.refl _,_,H,br,S,_,rfl,rfl,?_⟩
  rw[ne_eq,← lT i₁];simp))
theorem gG{e:Expr}{p:Pos}{P:Prop}(h:Tp c f e m H P):Tp c f (.UnaryOp .Not e p) m H (¬P):=
 w4 (Ts.mono h (fun b H' Dn=>q3 Dn fun e q=>⟨e,by cases b <;> simp_all⟩) fun _ _ z=>z)
theorem jv{e:Expr}{b:Bool}{P:Prop}(h:Pe c f e m H (.bool b))(hP:b=true↔P)(he:∀w,isTrue e f.env w=(do let v ← w;standAt e.pos;holding [v] (truthy v)):=by intro _;rfl):Tp c f e m H P:=
 ri (h.ev ⟨b,rfl,rfl,hP⟩) he
end
end Mine
namespace Mine
open PySem PyProof.Rows PySem.Builtin
section
variable {c:Cx} {f:Fx} {m:bL} {H:AH} {X:Value→AH→Prop} {Q:V→AH→Prop}
structure G2(c:Cx)(f:Fx)(H:AH)(o i d:V):Prop where
 mk::
 run :
  ∀m s vo vi,St c f m H s→Is s.heap o vo→Is s.heap i vi→∃T id,s.TypeIs vo T∧typeLookup (.type T) "__getitem__"=pure (some (.builtin id))∧kH c f.A (getItem vo vi) s d
noncomputable instance {c:Cx} {f:Fx} {H:AH} {o i d:V}:CoeFun (G2 c f H o i d) (fun _=>
  ∀m s vo vi,St c f m H s→Is s.heap o vo→Is s.heap i vi→∃T id,s.TypeIs vo T∧typeLookup (.type T) "__getitem__"=pure (some (.builtin id))∧kH c f.A (getItem vo vi) s d):=⟨G2.run⟩
theorem aj{value slice:Expr}{p:Pos}{o i d:V}(hv:Pe c f value m H o)(hi:Pe c f slice m H i)(h:G2 c f H o i d)
  (hs:∀o i,∃ops,subscripted slice false o i=operate ops (getItem o i):=by intro o i;exact⟨_,rfl⟩):Pe c f (.Subscript value slice p) m H d:=.mk fun s S=>by
 refine Subscript_ (wpAny_mono (hv s S) (fun vo s₁ z=>?_) fun _ _ x=>x)
 refine jB z fun t₁ i₁ S₁=>?_;clear z
 refine wpAny_mono (hi s₁ S₁) (fun vi s₂ z=>?_) fun _ _ x=>x
 refine jB z fun t₂ i₂ S₂=>?_;clear z
 refine q0 (h m s₂ vo vi S₂ (i₁.tk t₂) i₂) fun T id hT hl y=>?_
 refine q4 (hs vo vi) fun ops e=>?_
 refine tail_any hT hl (wpAny_mono y (fun v s₃ z=>?_) fun _ _ x=>x.elim) e
 refine uD z fun g hg ho i=>?_;clear z
 exact⟨t₁.trans (t₂.trans g.tk),d,_,i,S₂.grow g hg ho,rfl,rfl⟩
noncomputable abbrev V.s(l:List Nat):V:=.str ⟨l.toArray⟩
theorem V.s_of(x:Str):V.str x=V.s x.cps.toList:=by cases x;simp
theorem y6{x:Str}{k:Nat}{p:Pos}:Pe c f (.Constant (.str x) k p) m H (.s x.cps.toList):=V.s_of x▸j5
theorem cE(l:List Nat):Str.length ⟨l.toArray⟩=l.length:=by simp[Str.length]
theorem yv{l:List Nat}{i:Int}{ch:Nat}{j:Nat}(hj:seqIndex? i l.length=some j)(hc:l[j]?=some ch):Txt.item ⟨l.toArray⟩ i=⟨[ch].toArray⟩∧(Txt.charAt ⟨l.toArray⟩ i).isSome=true:=by
 have:Txt.charAt ⟨l.toArray⟩ i=some ch:=by
  unfold Txt.charAt;rw[cE,hj];simpa using hc
 exact⟨by unfold Txt.item;rw[this];rfl,by rw[this];rfl⟩
theorem bo{i:Int}{n:Nat}(h0:0≤i)(h1:i<n):seqIndex? i n=some i.toNat:=by
 have:¬i<0:=by exact Zg h0
 simp[seqIndex?,this,h0,h1]
theorem cC{i:Int}{n:Nat}(h0:i<0)(h1:0≤i+n):seqIndex? i n=some (i+n).toNat:=by
 have:i+n<n:=by exact Zf h0
 simp[seqIndex?,h0,h1,this]
theorem yP{i:Int}(h:-9223372036854775808≤i∧i<9223372036854775808):fitsSsize i=true:=by
 unfold fitsSsize;simp;exact Ze h
theorem jK{l:List Nat}{i:Int}{j ch:Nat}(hj:seqIndex? i l.length=some j)(hc:l[j]?=some ch)(hf:-9223372036854775808≤i∧i<9223372036854775808):G2 c f H (.s l) (.int i) (.s [ch]):=.mk fun m s vo vi S io ii=>by
 refine q4 (cM io) fun t LK=>?_;obtain rfl:=LK;refine q4 (aY ii) fun u LJ=>?_;obtain rfl:=LJ
 refine q3 (yv hj hc) fun e e'=>?_
 refine q0 (SB.item (prog:=c.prog) (w:=c.w) (A:=f.A) (E:=fun _ _=>False) (s:=s) (t:=t) (u:=u) (x:=⟨l.toArray⟩) (i:=i) (Q:=fun v s'=>aM s.heap s'.heap∧s'.gens=s.gens∧s'.os=s.os∧Is s'.heap (.s [ch]) v) (yP hf) e' (by rw[e];exact⟨aM.refl _,rfl,rfl,ji⟩)) fun T id hl hT h=>?_
 exact⟨T,id,hT,hl,h⟩
theorem bB{ds:List V}{i:Int}{j:Nat}{d:V}(hj:seqIndex? i ds.length=some j)(hd:ds[j]?=some d)(hf:-9223372036854775808≤i∧i<9223372036854775808):G2 c f H (.tup ds) (.int i) d:=.mk fun m s vo vi S io ii=>by
 simp only[Is] at io;refine z4 (d0:=vo) io fun a vs LI ia=>?_;clear io;obtain⟨o,n,g,cl,dt⟩:=LI;refine q4 (aY ii) fun u LH=>?_;obtain rfl:=LH
 refine q2 (ia.get hd) fun v hv iv=>?_
 have ht:IsTup s.heap a vs.toArray:=⟨o,g,cl,n,dt⟩
 exact⟨"tuple",_,ht.typeIs,slot_tuple_getitem.lookup,getItem_tuple ht (by omega) (by omega) (by rw[List.size_toArray,ia.length];exact hj) (by simpa using hv) ⟨aM.refl _,rfl,rfl,iv⟩⟩
theorem mY{l:List Nat}:∀(n a:Nat),a+n≤l.length→((List.range n).map (fun k=>a+k)).filterMap (l[·]?)=(l.take (a+n)).drop a
 | 0,a,h=>by simp
 | n+1,a,h=>by
  have ih:=mY (l:=l) n (a+1) (Zd h)
  have ha:a<(l.take (a+(n+1))).length:=by simp;exact Zb h
  rw[List.drop_eq_getElem_cons ha,List.range_succ_eq_map,List.map_cons,List.filterMap_cons]
  have e:l[a+0]?=some l[a]:=by rw[Nat.add_zero];exact List.getElem?_eq_getElem (Y8 h)
  rw[e]
  simp only[List.map_map,List.getElem_take]
  refine congrArg _ ?_
  rw[show a+(n+1)=a+1+n by exact Y7,← ih]
  refine congrArg _ (List.map_congr_left fun k _=>?_)
  simp only[Function.comp];omega
theorem wR{α β γ:Type}{f:α→β→γ}{a a':α}{b b':β}(h:a=a')(k:b=b'):f a b=f a' b':=by rw[h,k]
theorem hO{i:Int}{n:Nat}(h:0≤i):max 0 (min i (n:Int))=((min i.toNat n:Nat):Int):=by exact Za
theorem vc(p q:Nat):sliceRange (p:Int) (q:Int) 1=(List.range (q-p)).map (fun k=>p+k):=by
 unfold sliceRange
 simp only[show(1:Int) > 0 by decide,if_true]
 refine wR (funext fun k=>by exact Zc) (congrArg _ ?_)
 split <;> first | exact Y6 | exact Y5 (by assumption)
theorem lE{l:List Nat}{lo hi:Option Int}{a b:Nat}(hlo:(lo=none∧a=0)∨∃i,lo=some i∧0≤i∧a=i.toNat)(BV:(hi=none∧b=l.length)∨∃j,hi=some j∧0≤j∧b=j.toNat):
  Txt.slice ⟨l.toArray⟩ lo hi=⟨((l.take b).drop a).toArray⟩:=by
 have key:Str.strSliceIndices lo hi 1 l.length=(List.range (min b l.length-min a l.length)).map (fun k=>min a l.length+k):=by
  rw[← vc]
  unfold Str.strSliceIndices
  rcases hlo with ⟨rfl,rfl⟩ | ⟨i,rfl,h0,rfl⟩ <;> rcases BV with ⟨rfl,rfl⟩ | ⟨j,rfl,WG,rfl⟩ <;> simp only[show(1:Int) > 0 by decide,if_true]
  ·rw[Nat.zero_min,Nat.min_self];rfl
  ·rw[if_neg (Int.not_lt.mpr WG),hO WG,Nat.zero_min];rfl
  ·rw[if_neg (Int.not_lt.mpr h0),hO h0,Nat.min_self]
  ·rw[if_neg (Int.not_lt.mpr h0),hO h0,if_neg (Int.not_lt.mpr WG),hO WG]
 clear hlo BV
 unfold Txt.slice
 rw[cE,key]
 have e2:(l.take b).drop a=(l.take (min b l.length)).drop (min a l.length):=by
  by_cases hb:b≤l.length
  ·by_cases ha:a≤l.length
   ·rw[Nat.min_eq_left hb,Nat.min_eq_left ha]
   ·rw[Nat.min_eq_left hb,Nat.min_eq_right (vP ha),List.drop_of_length_le (by simp;exact Y9 ha),List.drop_of_length_le (by simp;exact RJ)]
  ·rw[Nat.min_eq_right (by exact vP hb:l.length≤b),List.take_of_length_le (vP hb),List.take_of_length_le (Nat.le_refl _)]
   by_cases ha:a≤l.length
   ·rw[Nat.min_eq_left ha]
   ·rw[Nat.min_eq_right (vP ha),List.drop_of_length_le (vP ha),List.drop_of_length_le (Y4)]
 rw[e2]
 by_cases jy:min a l.length≤min b l.length
 ·have hp:=mY (l:=l) (min b l.length-min a l.length) (min a l.length) (Y3)
  rw[show min a l.length+(min b l.length-min a l.length)=min b l.length by exact Y2 jy] at hp
  split
  ·rename_i hc
   simp only[beq_self_eq_true,Bool.true_and,List.length_map,List.length_range,beq_iff_eq] at hc
   rw[show min a l.length=0 by exact Y1 hc,show min b l.length=l.length by exact Y0 hc]
   simp
  ·rw[← hp]
   simp
 ·have h0:min b l.length-min a l.length=0:=by exact YZ jy
  rw[h0]
  have hr:List.drop (min a l.length) (List.take (min b l.length) l)=[]:=List.drop_of_length_le (by simp;exact YY jy)
  rw[hr]
  split
  ·rename_i hc
   simp only[beq_self_eq_true,Bool.true_and,List.length_map,List.length_range,beq_iff_eq] at hc
   have:l=[]:=List.length_eq_zero_iff.mp hc.symm
   rw[this]
  ·rfl
theorem lS{h₀:Heap}:KeptH (aM h₀):=fun h ob g=>g.trans (aM.push h ob)
theorem dB{value lo hi:Expr}{p p':Pos}{l:List Nat}{i j:Int}(hv:Pe c f value m H (.s l))(hlo:Pe c f lo m H (.int i))(BV:Pe c f hi m H (.int j))(UL:0≤i)(hj0:0≤j)(hsz:l.length≤sizeLine):
  Pe c f (.Subscript value (.Slice (some lo) (some hi) none p) p') m H (.s ((l.take j.toNat).drop i.toNat)):=.mk fun s S=>by
 refine Subscript_ (wpAny_mono (hv s S) (fun vo s₁ z=>?_) fun _ _ x=>x)
 refine jB z fun t₁ i₁ S₁=>?_;clear z
 refine q4 (cM i₁) fun t LD=>?_;obtain rfl:=LD
 refine wpAny_Slice (wpAny_mono (hlo s₁ S₁) (fun vi s₂ z=>?_) fun _ _ x=>x)
 refine jB z fun t₂ i₂ S₂=>?_;clear z
 refine q4 (aY i₂) fun u LB=>?_;obtain rfl:=LB
 refine wpAny_mono (BV s₂ S₂) (fun vj s₃ z=>?_) fun _ _ x=>x
 refine jB z fun t₃ i₃ S₃=>?_;clear z
 refine q4 (aY i₃) fun u' LA=>?_;obtain rfl:=LA
 refine wpAny_pure ?_
 obtain⟨T,id,hl,hT,h⟩:=SBH.sliceItem_ss (prog:=c.prog) (w:=c.w) (A:=f.A) (E:=iY c f m fun _ _=>False) (s:=s₃) (P:=aM s₃.heap) (t:=t) (x:=⟨l.toArray⟩) (i:=i) (ui:=u) (j:=j) (uj:=u') (Q:=hA c f m (fun d' H'=>d'=.s ((l.take j.toNat).drop i.toNat)∧H'=_) s) lS (aM.refl _)
  (fun h' t' k g=>by rw[lE (.inr ⟨i,rfl,UL,rfl⟩) (.inr ⟨j,rfl,hj0,rfl⟩)];exact⟨t₁.trans (t₂.trans (t₃.trans g.tk)),_,_,ji,S₃.grow (s':={ s₃ with heap:=h',toks:=k }) g rfl rfl,rfl,rfl⟩) (by rw[cE];exact hsz)
 exact tail_any hT hl h rfl
theorem gu{value hi:Expr}{p p':Pos}{l:List Nat}{j:Int}(hv:Pe c f value m H (.s l))(BV:Pe c f hi m H (.int j))(hj0:0≤j)(hsz:l.length≤sizeLine):
  Pe c f (.Subscript value (.Slice none (some hi) none p) p') m H (.s (l.take j.toNat)):=.mk fun s S=>by
 refine Subscript_ (wpAny_mono (hv s S) (fun vo s₁ z=>?_) fun _ _ x=>x)
 refine jB z fun t₁ i₁ S₁=>?_;clear z
 refine q4 (cM i₁) fun t Lz=>?_;obtain rfl:=Lz
 refine wpAny_Slice (wpAny_pure ?_)
 refine wpAny_mono (BV s₁ S₁) (fun vj s₃ z=>?_) fun _ _ x=>x
 refine jB z fun t₃ i₃ S₃=>?_;clear z
 refine q4 (aY i₃) fun u' Ly=>?_;obtain rfl:=Ly
 refine wpAny_pure ?_
 obtain⟨T,id,hl,hT,h⟩:=SBH.sliceItem_ns (prog:=c.prog) (w:=c.w) (A:=f.A) (E:=iY c f m fun _ _=>False) (s:=s₃) (P:=aM s₃.heap) (t:=t) (x:=⟨l.toArray⟩) (j:=j) (uj:=u') (Q:=hA c f m (fun d' H'=>d'=.s (l.take j.toNat)∧H'=_) s) lS (aM.refl _)
  (fun h' t' k g=>by rw[lE (.inl ⟨rfl,rfl⟩) (.inr ⟨j,rfl,hj0,rfl⟩)];exact⟨t₁.trans (t₃.trans g.tk),_,_,ji,S₃.grow (s':={ s₃ with heap:=h',toks:=k }) g rfl rfl,rfl,rfl⟩) (by rw[cE];exact hsz)
 exact tail_any hT hl h rfl
theorem gs{value lo:Expr}{p p':Pos}{l:List Nat}{i:Int}(hv:Pe c f value m H (.s l))(hlo:Pe c f lo m H (.int i))(UL:0≤i)(hsz:l.length≤sizeLine):
  Pe c f (.Subscript value (.Slice (some lo) none none p) p') m H (.s (l.drop i.toNat)):=.mk fun s S=>by
 refine Subscript_ (wpAny_mono (hv s S) (fun vo s₁ z=>?_) fun _ _ x=>x)
 refine jB z fun t₁ i₁ S₁=>?_;clear z
 refine q4 (cM i₁) fun t Lx=>?_;obtain rfl:=Lx
 refine wpAny_Slice (wpAny_mono (hlo s₁ S₁) (fun vi s₂ z=>?_) fun _ _ x=>x)
 refine jB z fun t₂ i₂ S₂=>?_;clear z
 refine q4 (aY i₂) fun u Lv=>?_;obtain rfl:=Lv
 refine wpAny_pure (wpAny_pure ?_)
 obtain⟨T,id,hl,hT,h⟩:=SBH.sliceItem_sn (prog:=c.prog) (w:=c.w) (A:=f.A) (E:=iY c f m fun _ _=>False) (s:=s₂) (P:=aM s₂.heap) (t:=t) (x:=⟨l.toArray⟩) (i:=i) (ui:=u) (Q:=hA c f m (fun d' H'=>d'=.s (l.drop i.toNat)∧H'=_) s) lS (aM.refl _)
  (fun h' t' k g=>by rw[lE (.inr ⟨i,rfl,UL,rfl⟩) (.inl ⟨rfl,rfl⟩),List.take_of_length_le (Nat.le_refl _)];exact⟨t₁.trans (t₂.trans g.tk),_,_,ji,S₂.grow (s':={ s₂ with heap:=h',toks:=k }) g rfl rfl,rfl,rfl⟩) (by rw[cE];exact hsz)
 exact tail_any hT hl h rfl
theorem eu{l:List Nat}(hsz:l.length≤sizeLine):BN c f H (fun vs=>call (.builtin "len") vs) [.s l] (.int l.length):=.mk fun m s vs S ia=>by
 simp only[aA] at ia;refine uC (d0:=vs) ia fun v i=>?_;clear ia
 refine q4 (cM i) fun t Lu=>?_;obtain rfl:=Lu
 have hl:l.length<2 ^ 63:=Nat.lt_of_le_of_lt hsz (by decide)
 refine PyProof.Rows.len_str (by rw[cE];omega) ?_
 rw[cE];exact⟨aM.refl _,rfl,rfl,cI⟩
theorem B8{ds:List V}(hsz:ds.length≤sizeLine):BN c f H (fun vs=>call (.builtin "len") vs) [.tup ds] (.int ds.length):=.mk fun m s vs S ia=>by
 simp only[aA] at ia;refine uC (d0:=vs) ia fun v i=>?_;clear ia
 simp only[Is] at i;refine z4 (d0:=v) i fun a us Ls ja=>?_;clear i;obtain⟨o,n,g,cl,dt⟩:=Ls
 have ht:IsTup s.heap a us.toArray:=⟨o,g,cl,n,dt⟩
 have hl:ds.length<2 ^ 63:=Nat.lt_of_le_of_lt hsz (by decide)
 have e:=ja.length
 refine PyProof.Rows.len_tuple ht (by rw[List.size_toArray];omega) ?_
 rw[List.size_toArray,e];exact⟨aM.refl _,rfl,rfl,cI⟩
theorem Ca{i:Int}:BN c f H (fun vs=>call (.builtin "isinstance") vs) [.int i,.raw (.type "int")] (.bool true):=.mk fun m s vs S ia=>by
 simp only[aA] at ia;refine vh (d0:=vs) ia fun v v' i i'=>?_;clear ia
 refine q4 (aY i) fun t Lr=>?_;obtain rfl:=Lr;obtain rfl:=aG i'
 exact IsiPair.int_int ⟨aM.refl _,rfl,rfl,br⟩
theorem mA{i:Int}:BN c f H (fun vs=>call (.builtin "isinstance") vs) [.int i,.raw (.type "bool")] (.bool false):=.mk fun m s vs S ia=>by
 simp only[aA] at ia;refine vh (d0:=vs) ia fun v v' i i'=>?_;clear ia
 refine q4 (aY i) fun t Lq=>?_;obtain rfl:=Lq;obtain rfl:=aG i'
 exact IsiPair.int_bool ⟨aM.refl _,rfl,rfl,br⟩
theorem xd{x:Str}:BN c f H (fun vs=>call (.builtin "isinstance") vs) [.str x,.raw (.type "str")] (.bool true):=.mk fun m s vs S ia=>by
 simp only[aA] at ia;refine vh (d0:=vs) ia fun v v' i i'=>?_;clear ia
 refine q4 (cM i) fun t Lp=>?_;obtain rfl:=Lp;obtain rfl:=aG i'
 exact IsiPair.str_str ⟨aM.refl _,rfl,rfl,br⟩
theorem B9{ds:List V}:BN c f H (fun vs=>call (.builtin "isinstance") vs) [.tup ds,.raw (.type "tuple")] (.bool true):=.mk fun m s vs S ia=>by
 simp only[aA] at ia;refine vh (d0:=vs) ia fun v v' i i'=>?_;clear ia
 simp only[Is] at i;refine z4 (d0:=v) i fun a us Lo ja=>?_;clear i;obtain⟨o,n,g,cl,dt⟩:=Lo;obtain rfl:=aG i'
 exact IsiPair.tuple_tuple g cl ⟨aM.refl _,rfl,rfl,br⟩
theorem cP{es:List Expr}{k:Nat}{p:Pos}(h:oJ c f es p m H (fun ds H'=>ds.length≤sizeLine∧Q (.tup ds) H') X):Ev c f (.Tuple es k p) m H Q X:=.mk fun s S=>by
 refine wpAny_Tuple (wpAny_mono (h s S) (fun vs s₁ z=>?_) fun _ _ x=>x)
 refine xY z fun ds H' t ia S₁ hl q=>?_;clear z
 have g:aM s₁.heap (s₁.heap.push { cls:=.type "tuple",data:=.seq vs.toArray }):=aM.push _ _
 refine⟨by rw[ia.length];exact hl,t.trans g.tk,.tup ds,H',?_,S₁.grow (s':={ s₁ with heap:=s₁.heap.push { cls:=.type "tuple",data:=.seq vs.toArray } }) g rfl rfl,q⟩
 simp only[Is]
 exact⟨_,vs,rfl,⟨_,_,Heap.get?_push_size _ rfl,rfl,rfl⟩,ia.tk g.tk⟩
theorem bM{es:List Expr}{k:Nat}{p:Pos}{ds:List V}(h:nG c f es m H ds)(hl:ds.length≤sizeLine):Pe c f (.Tuple es k p) m H (.tup ds):=cP (h.nz ⟨hl,rfl,rfl⟩)
end
end Mine
namespace Mine
open PySem PyProof.Rows PySem.Builtin
noncomputable def aC(H d8:AH):Prop:=∀a,H a≠none→d8 a=H a
theorem aC.refl(H:AH):aC H H:=fun _ _=>rfl
theorem aC.trans{H H' d8:AH}(x:aC H H')(y:aC H' d8):aC H d8:=fun a n=>(y a (by rw[x a n];exact n)).trans (x a n)
theorem aC.set{H H':AH}{a:Addr}{x:fc}(e:aC H H')(n:H' a=none):aC H (H'.set a x):=fun b nb=>by
 have:b≠a:=fun q=>by subst q;rw[e b nb] at n;exact nb n
 rw[AH.set,if_neg this];exact e b nb
theorem b9(H:AH)(a:Addr)(x:fc):(H.set a x) a=some x:=if_pos rfl
theorem bj(H:AH){a b:Addr}(x:fc)(n:b≠a):(H.set a x) b=H b:=if_neg n
section
variable {c:Cx} {f:Fx} {m:bL} {H:AH} {X:Value→AH→Prop} {Q:V→AH→Prop}
theorem aC.rep{d8:AH}{h:Heap}(e:aC H d8)(r:mw c d8 h):mw c H h:=fun a x q=>r a x (by rw[e a (by rw[q];exact fun z=>nomatch z)];exact q)
theorem St.forget{s s':Shared}{m':bL}{d8:AH}(S:St c f m H s)(S':St c f m' d8 s')(e:aC H d8):St c f m' H s' where
 rep:=e.rep S'.rep
 base:=S'.base
 bE:=S'.bE
 hb:=S.hb
 off:=S'.off
 i6:=S.i6
 up:=S.up
 loc:=S'.loc
 gU:=S'.gU
 mG:=S.mG
 jd:=fun x a q=>⟨(S.jd x a q).1,(S'.jd x a q).2⟩
 apart:=S'.apart
 ff:=S'.ff
 fh:=S.fh
 big:=S.big
 kp:=S'.kp
 gens:=S'.gens
 os:=S'.os
theorem Pe.of_ext{e:Expr}{d:V}(h:Ev c f e m H (fun d' H'=>d'=d∧aC H H') (fun _ _=>False)):Pe c f e m H d:=.mk fun s S=>
 wpAny_mono (h s S) (fun v s' Dm=>xY Dm fun d' H' t i S' e x=>⟨t,d',H,i,S.forget S' x,e,rfl⟩) fun _ _ Dl=>q7 Dl fun _ _ _ _ _ _ z=>z.elim
theorem Fn.of_ext{k:Nat}{fv:Value}{args:List V}(h:Fn c k fv args H (fun d H'=>aC H H'∧Q d H) (fun C H'=>aC H H'∧X C H)):Fn c k fv args H Q X:=.mk fun A bK s vs R hf E ia=>by
 have lf:∀ {H':AH} {s':Shared},aC H H'→uJ c bK H s H' s'→uJ c bK H s H s':=fun x L=>⟨x.rep L.rep,L.off,fun _ _ _ q=>q,fun _ q=>q,E.big,L.gens,L.os⟩
 refine codeAny_mono (h A bK s vs R hf E ia) fun r s' z=>?_
 refine q2 z fun H' L zU=>?_;clear z;have z:=zU;clear zU
 match r,z with
 | .ok (.ret v),⟨d,i,x,q⟩=>exact⟨H,lf x L,d,i,q⟩
 | .error y,⟨C,e,e1,g,x,q⟩=>exact⟨H,lf x L,C,e,e1,g,q⟩
theorem Fn.mono{k:Nat}{fv:Value}{args:List V}{Q':V→AH→Prop}{X':Value→AH→Prop}(h:Fn c k fv args H Q X)(hq:∀d H',Q d H'→Q' d H')(hx:∀C H',X C H'→X' C H'):Fn c k fv args H Q' X':=.mk fun A bK s vs R hf E ia=>by
 refine codeAny_mono (h A bK s vs R hf E ia) fun r s' z=>?_
 refine q2 z fun H' L zT=>?_;clear z;have z:=zT;clear zT
 match r,z with
 | .ok (.ret v),⟨d,i,q⟩=>exact⟨H',L,d,i,hq _ _ q⟩
 | .error y,⟨C,e,e1,g,q⟩=>exact⟨H',L,C,e,e1,g,hx _ _ q⟩
theorem Fn.le{k j:Nat}{fv:Value}{args:List V}(h:Fn c k fv args H Q X)(hj:k≤j):Fn c j fv args H Q X:=.mk fun A bK s vs R hf E ia=>h A bK s vs (R.le hj) hf E ia
noncomputable def HW(c:Cx)(H:AH)(d:V)(T:String):Prop:=∀(f:Fx) (m:bL) (s:Shared) (v:Value),St c f m H s→Is s.heap d v→s.TypeIs v T∧∀a,v=.ref a→∃ob,s.heap.get? a=some ob∧ob.dict=none
theorem yE{x:Str}:HW c H (.str x) "str":=fun f m s v S i=>by
 refine q4 (cM i) fun t Ll=>?_;obtain rfl:=Ll
 exact⟨typeIs_str _ _ _,fun a e=>nomatch e⟩
theorem wD{a:Addr}{o:Obj}{ds:List V}(h:H a=some ⟨o,.list ds⟩):HW c H (.ref a) "list":=fun f m s v S i=>by
 obtain rfl:=aG i
 refine q2 ((S.rep a _ h).2) fun vs Lk _=>?_;obtain⟨o',n,g,cl,dn,dt⟩:=Lk
 exact⟨⟨o',g,cl⟩,fun b e=>by cases e;exact⟨o',g,dn⟩⟩
theorem hZ{o e:Expr}{es:List Expr}{name:Str}{ap p:Pos}{T id:String}(pa:PlainAttrs T)(slot:Slot T name id)
  (h:Ev c f o m H (fun d H'=>HW c H' d T∧oJ c f (e::es) p m H' (fun ds d8=>qk c f (fun vs=>call (.builtin id) vs) (d::ds) m d8 Q X) X) X)
  (Z0:autoParam (typeOf (.builtin id)=pure (.type "method_descriptor")) aR._auto_1) (dA:autoParam (attributeBase o name f.env (eval o f.env)=eval o f.env) aR._auto_1)
  (lV:autoParam (((backTo p (starEach (e::es) f.env)).all (fun x=>!x.1) && (backToKw p (keywordEach [] f.env)).all (fun x=>x.1.isSome) && decide ((e::es).length+([]:List Keyword).length+(if([]:List Keyword).isEmpty then 0 else 1)<30))=true) aR._auto_1)
  (dY:autoParam ((ap.endLine == p.line)=true) aR._auto_1) (he:autoParam (starEach (e::es) f.env=(false,eval e f.env)::starEach es f.env) aR._auto_1) (hp:autoParam ((backTo p (starEach es f.env)).any (·.1)=false) aR._auto_1) :
  Ev c f (.Call (.Attribute o name ap) (e::es) [] p) m H Q X:=.mk fun s S=>by
 refine wpAny_Call_method_lateS dA lV dY (wpAny_mono (h s S) (fun v s₁ z=>?_) fun _ _ x=>x)
 refine xY z fun d H₁ t₁ i₁ S₁ hh q₁=>?_;clear z
 refine q3 (hh f m s₁ v S₁ i₁) fun hT hd=>?_
 refine⟨T,id,pa,slot,Z0,hT,hd,callWith_method1 (wpAny_mono (q₁ s₁ S₁) (fun vs s₂ z=>?_) fun _ _ x=>x) he hp⟩
 refine mL z fun ds H₂ t₂ i₂ S₂ q₂=>?_;clear z
 exact wpAny_mono (q₂ s₂ (v::vs) S₂ (cZ (i₁.tk t₂) i₂)) (fun v s₃ Dk=>q3 Dk fun t₃ r=>⟨t₁.trans (t₂.trans t₃),r⟩) fun _ _ x=>x
theorem xp{o:Expr}{name:Str}{ap p:Pos}{T id:String}(pa:PlainAttrs T)(slot:Slot T name id)
  (h:Ev c f o m H (fun d H'=>HW c H' d T∧qk c f (fun vs=>call (.builtin id) vs) [d] m H' Q X) X)
  (Z0:autoParam (typeOf (.builtin id)=pure (.type "method_descriptor")) aR._auto_1) (dA:autoParam (attributeBase o name f.env (eval o f.env)=eval o f.env) aR._auto_1)
  (dY:autoParam ((ap.endLine == p.line)=true) aR._auto_1):Ev c f (.Call (.Attribute o name ap) [] [] p) m H Q X:=.mk fun s S=>by
 refine wpAny_Call_method_lateS dA rfl dY (wpAny_mono (h s S) (fun v s₁ z=>?_) fun _ _ x=>x)
 refine xY z fun d H₁ t₁ i₁ S₁ hh q₁=>?_;clear z
 refine q3 (hh f m s₁ v S₁ i₁) fun hT hd=>?_
 refine⟨T,id,pa,slot,Z0,hT,hd,callWith_method0 ?_⟩
 exact wpAny_mono (q₁ s₁ [v] S₁ (eh i₁)) (fun v s₃ Dj=>q3 Dj fun t₃ r=>⟨t₁.trans t₃,r⟩) fun _ _ x=>x
theorem lh{h:Heap}:∀ {ls:List (List Nat)} {vs:List Value},aA h (ls.map V.s) vs→StrsAre vs (ls.map fun l=>⟨l.toArray⟩)
 | [],vs,i=>by simp only[List.map_nil,aA] at i;subst i;exact .nil
 | l::ls,vs,i=>by
  simp only[List.map_cons,aA] at i
  refine z4 (d0:=vs) i fun v r j k=>?_;clear i
  refine q4 (cM j) fun t Lj=>?_;obtain rfl:=Lj
  exact .cons _ _ (lh k)
theorem nu:∀(ls:List (List Nat)) (acc:Array Nat),(ls.map fun l=>(⟨l.toArray⟩:Str)).foldl (fun acc p=>acc++(Str.ofString "").cps++p.cps) acc=acc++ls.flatten.toArray
 | [],acc=>by simp
 | l::ls,acc=>by
  rw[List.map_cons,List.foldl_cons,nu ls]
  have:(Str.ofString "").cps=#[]:=by decide
  rw[this];simp
theorem yu(ls:List (List Nat)):Txt.join (Str.ofString "") (ls.map fun l=>⟨l.toArray⟩)=⟨ls.flatten.toArray⟩:=by
 unfold Txt.join Str.glued
 cases ls with
 | nil=>rfl
 | cons l ls=>
  rw[List.map_cons,List.drop_succ_cons,List.drop_zero,nu]
  simp
theorem Hh{a:Addr}{o:Obj}{ls:List (List Nat)}(h:H a=some ⟨o,.list (ls.map V.s)⟩)(hsz:ls.flatten.length≤16777216):BN c f H (fun vs=>call (.builtin "str.join") vs) [.str (Str.ofString ""),.ref a] (.s ls.flatten):=.mk fun m s vs S ia=>by
 simp only[aA] at ia;refine vh (d0:=vs) ia fun v v' i i'=>?_;clear ia
 refine q4 (cM i) fun t Li=>?_;obtain rfl:=Li;obtain rfl:=aG i'
 refine q2 ((S.rep a _ h).2) fun us Lh ja=>?_;obtain⟨o',n,g,cl,dn,dt⟩:=Lh
 refine join_list (ys:=ls.map fun l=>⟨l.toArray⟩) ⟨o',g,cl,n,dt⟩ (by simpa using lh ja) ?_ fun t' k=>?_
 ·have e0:(Str.ofString "").length=0:=by decide
  rw[e0,Nat.mul_zero,Nat.add_zero,List.map_map]
  have:(ls.map ((fun x=>Str.length x)∘fun l=>(⟨l.toArray⟩:Str))).sum=ls.flatten.length:=by
   rw[List.length_flatten];refine congrArg _ (List.map_congr_left fun l _=>?_);exact cE l
  rw[this];exact hsz
 ·rw[yu];exact⟨aM.refl _,rfl,rfl,ji⟩
structure kM(n:Nat)(d₁ d₂:V)(b:Bool):Prop where
 eq:∀(A:Around) (s:Shared) (v₁ v₂:Value),A.units+4*n<cLine→Is s.heap d₁ v₁→Is s.heap d₂ v₂→SeqAt.EqAt A s v₁ v₂ b
 same:∀(h:Heap) (v:Value),Is h d₁ v→Is h d₂ v→b=true
theorem kM.int(a b:Int):kM 0 (.int a) (.int b) (a == b) where
 eq:=fun A s v₁ v₂ u i j=>by refine q4 (aY i) fun t Lg=>?_;obtain rfl:=Lg;refine q4 (aY j) fun t' Lf=>?_;obtain rfl:=Lf;exact SeqAt.EqAt.int_int _ _ _ _
 same:=fun h v i j=>by refine q4 (aY i) fun t Lc=>?_;obtain rfl:=Lc;refine q4 (aY j) fun t' e=>?_;cases e;simp
theorem kM.str(a b:Str):kM 0 (.str a) (.str b) (a == b) where
 eq:=fun A s v₁ v₂ u i j=>by refine q4 (cM i) fun t Le=>?_;obtain rfl:=Le;refine q4 (cM j) fun t' Ld=>?_;obtain rfl:=Ld;exact SeqAt.EqAt.str_str _ _ _ _
 same:=fun h v i j=>by refine q4 (cM i) fun t Lb=>?_;obtain rfl:=Lb;refine q4 (cM j) fun t' e=>?_;cases e;simp
theorem kM.none:kM 0 .none .none true where
 eq:=fun A s v₁ v₂ u i j=>by obtain rfl:=aG i;obtain rfl:=aG j;exact SeqAt.EqAt.same _
 same:=fun h v i j=>rfl
theorem aA.at{h:Heap}{ds:List V}{vs:List Value}(x:aA h ds vs){j:Nat}(hj:j<vs.length):∃d,ds[j]?=some d∧Is h d vs[j]:=by
 have Wv:j<ds.length:=by rw[← x.length];exact hj
 refine q2 (x.get (List.getElem?_eq_getElem Wv)) fun v hv i=>?_
 rw[List.getElem?_eq_getElem hj] at hv
 cases hv
 exact⟨ds[j],List.getElem?_eq_getElem Wv,i⟩
theorem eN(A:Around):A.in1.units≤A.units+4:=by show A.units+1≤A.units+4;exact YX
end
end Mine
namespace Mine
open PySem PyProof.Rows PySem.Builtin PySem.W
theorem glue{prog:Program}{w:World}{s₁:Shared}{mg mb:Str→Option Value}{fa sc:Addr}(F:Fn ⟨prog,w,s₁.heap,mg,mb,s₁.os⟩ 40 (.ref fa) [.ref sc] (fun _=>none) (fun d _=>d=.bool true) (fun _ _=>False))(hg:s₁.gens=#[]):
  wpAny (model prog w) callerA (call (.ref fa) [.ref sc]) (fun v s'=>v=.bool true∧OldK s₁.heap s'.heap∧s'.os=s₁.os∧AllBare s'.gens) (fun _ _=>False) s₁:=by
 have E:HZ ⟨prog,w,s₁.heap,mg,mb,s₁.os⟩ [] (fun _=>none) s₁:=⟨(fun a x e=>nomatch e),fun b o e=>e,fun b o e=>rfl,trivial,fun a h=>rfl,fun a x e=>(nomatch e),hg,rfl⟩
 have:=F callerA [] s₁ [.ref sc] ⟨rfl,by decide,by decide⟩ rfl E (eh br)
 refine wpAny_call (codeAny_mono this fun r s' z=>?_)
 refine q2 z fun H' L zS=>?_;clear z;have z:=zS;clear zS
 have keep:∀b o,s₁.heap.get? b=some o→s'.heap.get? b=some o:=fun b o e=>(L.off b o e rfl).1 (fun h=>nomatch h)
 cases r with
 | error x=>refine q0 z fun C e _ g q=>?_;clear z;exact q.elim
 | ok fl=>cases fl with
  | ret v=>
   refine q2 z fun d i q=>?_;clear z
   have q:d=.bool true:=q
   subst q
   exact⟨aG i,.of_keep keep,L.os,.of_eq L.gens⟩
  | _=>exact z.elim
end Mine
namespace Mine
open PySem PyProof.Rows PySem.Builtin PySem.W
section
variable {c:Cx} {f:Fx} {m:bL} {H:AH} {X:Value→AH→Prop} {Q:V→AH→Prop}
structure Lw(c:Cx)(K:Frag)(sc:Addr)(ns:List Int):Prop where
 ok:cV c
 kx:K.In c.base
 hb:∀x:Str,x≠"__name__"→c.mb x=bootBuiltins x
 sl:∃vs,c.base.IsList sc vs.toArray∧IntsAre vs ns
 bf:ns.length≤63
variable {K:Frag} {sc:Addr} {ns:List Int}
theorem Lw.glob(W:Lw c K sc ns){x:Str}{v:Value}(e:nsIn K mainGlobals x=some (some v)):GN c x v:=.inl (mg_of W.kx W.ok.g e)
theorem Lw.blt(W:Lw c K sc ns){x:Str}{v:Value}(e:nsIn K mainGlobals x=some none)(hx:x≠"__name__")(hv:bootBuiltins x=some v):GN c x v:=.inr ⟨mg_none_of W.kx W.ok.g e,(W.hb x hx).trans hv⟩
theorem xb(W:Lw c K sc ns):BN c f H (fun vs=>call (.builtin "len") vs) [.ref sc] (.int ns.length):=.mk fun m s vs S ia=>by
 simp only[aA] at ia;refine uC (d0:=vs) ia fun v i=>?_;clear ia
 obtain rfl:=aG i
 refine q2 (W.sl) fun us hl hi=>?_
 have e:=du hi
 have:=W.bf
 refine Calls.call_len_list (items:=us.toArray) (q2 hl fun o a r=>⟨o,S.base _ _ a,r⟩) (by rw[List.size_toArray];omega) ?_
 rw[List.size_toArray,e];exact⟨aM.refl _,rfl,rfl,cI⟩
theorem Hk(W:Lw c K sc ns){k:Int}(h0:0≤k)(h1:k<ns.length):G2 c f H (.ref sc) (.int k) (.int (ns.getD k.toNat 0)):=.mk fun m s vo vi S io ii=>by
 obtain rfl:=aG io;refine q4 (aY ii) fun u La=>?_;obtain rfl:=La
 refine q2 (W.sl) fun us hl hi=>?_
 have e:=du hi
 have:=W.bf
 have hl':s.heap.IsList sc us.toArray:=q2 hl fun o a r=>⟨o,S.base _ _ a,r⟩
 have hk:k.toNat<ns.length:=by exact YW h0 h1
 refine q4 (iJ hi (List.getElem?_eq_getElem hk)) fun t ht=>?_
 refine⟨"list",_,hl'.typeIs,slot_list_getitem.lookup,wpAny_getItem_list (x:=.int ns[k.toNat] t) hl' h0 (by omega) (by simpa using ht) ⟨aM.refl _,rfl,rfl,?_⟩⟩
 rw[List.getD_eq_getElem?_getD,List.getElem?_eq_getElem hk];exact cI
noncomputable def dg(ns:List Int)(k:Int):Int:=if k<ns.length then ns.getD k.toNat 0 else 0
end
theorem dq{vs:List Value}{n:Nat}(h:vs.length=n+1):∃v r,vs=v::r∧r.length=n:=by
 cases vs with
 | nil=>cases h
 | cons v r=>exact⟨v,r,rfl,Nat.succ.inj h⟩
theorem eK{fd:FuncData}{x:Str}{args:List V}(h:args.length=1)(e:∀v,bindArgs fd ⟨[v],[]⟩=pure [(x,v)]):∀vs:List Value,vs.length=args.length→bindArgs fd ⟨vs,[]⟩=pure ([x].zip vs):=fun vs hv=>by
 have l0:=hv.trans h
 clear hv
 refine i4 (dq l0) fun v r1 K9 l1=>?_;obtain rfl:=K9
 obtain rfl:=List.eq_nil_of_length_eq_zero l1
 exact e v
theorem cR{fd:FuncData}{x y:Str}{args:List V}(h:args.length=2)(e:∀v w,bindArgs fd ⟨[v,w],[]⟩=pure [(x,v),(y,w)]):∀vs:List Value,vs.length=args.length→bindArgs fd ⟨vs,[]⟩=pure ([x,y].zip vs):=fun vs hv=>by
 have l0:=hv.trans h
 clear hv
 refine i4 (dq l0) fun v r1 K8 l1=>?_;obtain rfl:=K8
 refine i4 (dq l1) fun w r2 K7 l2=>?_;obtain rfl:=K7
 obtain rfl:=List.eq_nil_of_length_eq_zero l2
 exact e v w
theorem jf{fd:FuncData}{x y z:Str}{args:List V}(h:args.length=3)(e:∀v w u,bindArgs fd ⟨[v,w,u],[]⟩=pure [(x,v),(y,w),(z,u)]):∀vs:List Value,vs.length=args.length→bindArgs fd ⟨vs,[]⟩=pure ([x,y,z].zip vs):=fun vs hv=>by
 have l0:=hv.trans h
 clear hv
 refine i4 (dq l0) fun v r1 K6 l1=>?_;obtain rfl:=K6
 refine i4 (dq l1) fun w r2 K5 l2=>?_;obtain rfl:=K5
 refine i4 (dq l2) fun u r3 K4 l3=>?_;obtain rfl:=K4
 obtain rfl:=List.eq_nil_of_length_eq_zero l3
 exact e v w u
end Mine
namespace Mine
open PySem PyProof.Rows PySem.Builtin PySem.W
theorem hU{α:Type}{p:α→Prop}{a:α}(h:p a):∀x∈[a],p x:=fun x hx=>by
 rw[List.mem_singleton] at hx;subst hx;exact h
theorem eI{α:Type}{p:α→Prop}{a b:α}(h:p a)(h2:p b):∀x∈[a,b],p x:=fun x hx=>by
 rcases List.mem_cons.mp hx with rfl | hx;exact h;exact hU h2 x hx
theorem lM{α:Type}{p:α→Prop}{a b d:α}(h:p a)(h2:p b)(h3:p d):∀x∈[a,b,d],p x:=fun x hx=>by
 rcases List.mem_cons.mp hx with rfl | hx;exact h;exact eI h2 h3 x hx
theorem tE{α:Type}{p:α→Prop}{a b d e:α}(h:p a)(h2:p b)(h3:p d)(h4:p e):∀x∈[a,b,d,e],p x:=fun x hx=>by
 rcases List.mem_cons.mp hx with rfl | hx;exact h;exact lM h2 h3 h4 x hx
section
variable {c:Cx} {f:Fx} {m:bL} {H:AH} {X:Value→AH→Prop} {Q:V→AH→Prop}
theorem fP{l r:List Nat}(h:l.length+r.length≤sizeLine):B2 c f H (binaryOp .Add) (.s l) (.s r) (.s (l++r)):=by
 have:=VK (c:=c) (f:=f) (H:=H) (x:=⟨l.toArray⟩) (y:=⟨r.toArray⟩) (by rw[cE,cE];exact h)
 have e:(⟨l.toArray⟩:Str)++(⟨r.toArray⟩:Str)=⟨(l++r).toArray⟩:=by
  show Str.mk (l.toArray++r.toArray)=_
  simp
 rw[e] at this;exact this
theorem wZ{l r:List Nat}:((⟨l.toArray⟩:Str) == ⟨r.toArray⟩)=decide (l=r):=by
 rw[Bool.eq_iff_iff,beq_iff_eq,decide_eq_true_iff]
 constructor
 ·intro e;injection e with e;simpa using e
 ·intro e;rw[e]
theorem oP{l r:List Nat}:B2 c f H (compareOp .Eq) (.s l) (.s r) (.bool (decide (l=r))):=by
 have:=VI (c:=c) (f:=f) (H:=H) (x:=⟨l.toArray⟩) (y:=⟨r.toArray⟩)
 rw[wZ] at this;exact this
theorem xy{l r:List Nat}:B2 c f H (compareOp .NotEq) (.s l) (.s r) (.bool (!decide (l=r))):=by
 have:=VG (c:=c) (f:=f) (H:=H) (x:=⟨l.toArray⟩) (y:=⟨r.toArray⟩)
 rw[bne,wZ] at this;exact this
theorem cL{scope:Scope}{cl:List (Str×Addr)}{x:Str}{elt:Expr}{ds:List V}{tr:List Addr}{H₁:AH}(g:List V)(hl:g.length=ds.length)(hsz:ds.length≤sizeLine)
  (he:∀(i:Nat) d C hE,ds[i]?=some d→∃e,g[i]?=some e∧Pe c (kA f scope cl C hE H₁) elt (jJ m cl x d) H₁ e) (fin:∀a o,H₁ a=none→Q (.ref a) (H₁.set a ⟨o,.list g⟩)) :
  mF c f m scope cl x elt [] Q ds tr H₁:=by
 refine⟨hsz,fun i acc H'=>H'=H₁∧acc=g.take i,⟨rfl,by simp⟩,?_,?_⟩
 ·rintro i d acc H' C hE hd ⟨rfl,rfl⟩ ht
  refine q2 (he i d C hE hd) fun e ge p=>?_
  refine p.ev ⟨⟨rfl,?_⟩,ht⟩
  rw[List.take_add_one,ge];rfl
 ·rintro acc H' a o ⟨rfl,rfl⟩ _ ha
  rw[← hl,List.take_length]
  exact fin a o ha
end
end Mine
namespace Mine
open PySem PyProof.Rows PySem.Builtin PySem.W
theorem qA{p:Str→Addr→Prop}:∀y a,([]:List (Str×Addr)).lookup y=some a→p y a:=fun y a e=>nomatch e
theorem mI{p:Str→Addr→Prop}{x:Str}{a0:Addr}{l:List (Str×Addr)}(h:p x a0)(r:∀y a,l.lookup y=some a→p y a):∀y a,((x,a0)::l).lookup y=some a→p y a:=fun y a e=>by
 rw[List.lookup_cons] at e
 cases q:y == x with
 | true=>rw[q] at e;cases e;rw[beq_iff_eq] at q;subst q;exact h
 | false=>rw[q] at e;exact r y a e
theorem aI{α β:Type}{g:α→β}{l:List α}{i:Nat}{d:β}(h:(l.map g)[i]?=some d):∃a,l[i]?=some a∧d=g a:=by
 rw[List.getElem?_map] at h
 cases q:l[i]? with
 | none=>rw[q] at h;cases h
 | some a=>rw[q] at h;cases h;exact⟨a,rfl,rfl⟩
theorem jg{n i k:Nat}(h:(List.range n)[i]?=some k):i<n∧k=i:=by
 have:=List.getElem?_eq_some_iff.mp h
 refine q4 this fun a b=>?_;clear this
 simp at a b
 exact⟨a,b.symm⟩
theorem aQ{α β:Type}{g:α→β}{l:List α}{i:Nat}{a:α}(h:l[i]?=some a):(l.map g)[i]?=some (g a):=by rw[List.getElem?_map,h];rfl
theorem B5{α:Type}(g:α→Nat)(l:List α):(l.map fun k=>[g k]).flatten=l.map g:=by
 induction l with
 | nil=>rfl
 | cons a l ih=>simp[ih]
theorem cN{a b:Int}(h:a.natAbs<2 ^ 60):IntMulOk a b:=.of_left (by
 unfold Builtin.Int.intBits
 split
 ·exact YV
 ·rename_i h0
  have h0:a.natAbs≠0:=by simpa using h0
  have:=(Nat.log2_lt h0).mpr h
  exact YU this)
end Mine
namespace Mine
open PySem PyProof.Rows PySem.Builtin PySem.W
section
variable {c:Cx} {f:Fx} {m:bL} {H:AH} {X:Value→AH→Prop} {Q:V→AH→Prop}
noncomputable def WT(c:Cx)(f:Fx)(es:List Expr)(m:bL)(H:AH)(P:Prop):Prop:=Tl c f .Or es m H (fun b H'=>H'=H∧(b=true↔P)) (fun _ _=>False)
noncomputable def WU(c:Cx)(f:Fx)(es:List Expr)(m:bL)(H:AH)(P:Prop):Prop:=Tl c f .And es m H (fun b H'=>H'=H∧(b=true↔P)) (fun _ _=>False)
theorem Tl.mono{op:BoolOp}{es:List Expr}{Q Q':Bool→AH→Prop}{X':Value→AH→Prop}(h:Tl c f op es m H Q X)(k:∀b H,Q b H→Q' b H)(kx:∀C H,X C H→X' C H):Tl c f op es m H Q' X':=
 .mk fun s S=>wpAny_mono (h s S) (fun _ _ Di=>q2 Di fun H' S' q=>⟨H',S',k _ _ q⟩) fun _ _ g=>g.mono kx
theorem dm:WT c f [] m H False:=uq ⟨rfl,by simp⟩
theorem d7:WU c f [] m H True:=rj ⟨rfl,by simp⟩
theorem bg{e:Expr}{es:List Expr}{P R:Prop}(h:Tp c f e m H P)(h2:¬P→WT c f es m H R):WT c f (e::es) m H (P∨R):=
 Vu (Ts.mono h (fun x H' Dh=>q3 Dh fun e q=>by
  subst e
  refine⟨fun z=>Tl.mono (h2 (fun r=>by rw[q.mpr r] at z;cases z)) (fun y d8 Dg=>q3 Dg fun e' q'=>⟨e',?_⟩) fun _ _ z=>z,fun z=>⟨rfl,by simp only[true_iff];exact .inl (q.mp z)⟩⟩
  rw[q'];subst z;simp only[Bool.false_eq_true,false_iff] at q
  exact⟨.inr,fun r=>r.elim (fun z=>(q z).elim) id⟩) fun _ _ z=>z)
theorem bI{e:Expr}{es:List Expr}{P R:Prop}(h:Tp c f e m H P)(h2:P→WU c f es m H R):WU c f (e::es) m H (P∧R):=
 G8 (Ts.mono h (fun x H' Df=>q3 Df fun e q=>by
  subst e
  refine⟨fun z=>Tl.mono (h2 (q.mp z)) (fun y d8 De=>q3 De fun e' q'=>⟨e',?_⟩) fun _ _ z=>z,fun z=>⟨rfl,by subst z;simp only[Bool.false_eq_true,false_iff] at q ⊢;exact fun r=>q r.1⟩⟩
  rw[q']
  exact⟨fun r=>⟨q.mp z,r⟩,fun r=>r.2⟩) fun _ _ z=>z)
theorem fN{es:List Expr}{p:Pos}{P:Prop}(h:WT c f es m H P):Tp c f (.BoolOp .Or es p) m H P:=sP h
theorem fj{es:List Expr}{p:Pos}{P:Prop}(h:WU c f es m H P):Tp c f (.BoolOp .And es p) m H P:=sP h
noncomputable def Pb(c:Cx)(f:Fx)(e:Expr)(m:bL)(H:AH)(P:Prop):Prop:=Ev c f e m H (fun d H'=>H'=H∧∃b,d=.bool b∧(b=true↔P)) (fun _ _=>False)
noncomputable instance {c:Cx} {f:Fx} {e:Expr} {m:bL} {H:AH} {P:Prop}:CoeFun (Pb c f e m H P) (fun _=>∀s,St c f m H s→wpAny c.M f.A (eval e f.env) (hA c f m (fun d H'=>H'=H∧∃b,d=.bool b∧(b=true↔P)) s) (iY c f m (fun _ _=>False)) s):=⟨fun h=>Ev.run h⟩
theorem Pb.ev{e:Expr}{P:Prop}(h:Pb c f e m H P)(q:∀b:Bool,(b=true↔P)→Q (.bool b) H):Ev c f e m H Q X:=
 Ev.mono h (fun _ _ Dd=>xZ Dd fun b a e r=>by subst a;subst e;exact q b r) fun _ _ z=>z.elim
theorem Pe.pb{e:Expr}{b:Bool}{P:Prop}(h:Pe c f e m H (.bool b))(k:b=true↔P):Pb c f e m H P:=Pe.ev h ⟨rfl,b,rfl,k⟩
theorem Pb.pe{e:Expr}{P:Prop}{b:Bool}(h:Pb c f e m H P)(k:b=true↔P):Pe c f e m H (.bool b):=Pb.ev h fun b' r=>⟨by rw[Bool.eq_iff_iff.mpr (r.trans k.symm)],rfl⟩
theorem w8{e:Expr}{p:Pos}{P:Prop}(h:Pb c f e m H P):Pb c f (.UnaryOp .Not e p) m H (¬P):=.mk fun s S=>by
 rw[arm_eval_UnaryOp]
 refine wpAny_bind (wpAny_mono (h s S) (fun v s₁ z=>?_) fun _ _ x=>x)
 refine q49 z fun b t i S₁ r=>?_;clear z
 obtain rfl:=aG i
 refine wpAny_bind (wpAny_standAt (wpAny_holding (wpAny_holding ?_)))
 refine wpAny_bind (wpAny_pure ?_)
 exact wpAny_pure ⟨t,.bool (!b),_,br,S₁,rfl,_,rfl,by cases b <;> simp_all⟩
theorem oE{e:Expr}{p:Pos}{op:BoolOp}{P:Prop}(h:Pb c f e m H P):Pb c f (.BoolOp op [e] p) m H P:=.mk fun s S=>BoolOp_one (h s S)
theorem oF{e e₂:Expr}{es:List Expr}{p:Pos}{P R:Prop}(h:Pb c f e m H P)(h2:P→Pb c f (.BoolOp .And (e₂::es) p) m H R):Pb c f (.BoolOp .And (e::e₂::es) p) m H (P∧R):=.mk fun s S=>by
 refine BoolOp_and (wpAny_mono (h s S) (fun v s₁ z=>?_) fun _ _ x=>x)
 refine q49 z fun b t i S₁ r=>?_;clear z
 obtain rfl:=aG i
 refine wpAny_pure ?_
 cases b with
 | true=>
  rw[if_pos rfl]
  refine wpAny_mono (h2 (r.mp rfl) s₁ S₁) (fun v s₂ z=>?_) fun _ _ x=>x
  refine q50 z fun d H b t' i S₂ e e' r'=>?_;clear z
  exact⟨t.trans t',d,H,i,S₂,e,b,e',r'.trans ⟨fun q=>⟨r.mp rfl,q⟩,fun q=>q.2⟩⟩
 | false=>
  rw[if_neg (by decide)]
  exact⟨t,_,_,br,S₁,rfl,false,rfl,by simp only[Bool.false_eq_true,false_iff] at r ⊢;exact fun q=>r q.1⟩
theorem w5{e:Expr}{P:Prop}(h:Pb c f e m H P)(he:∀w,isTrue e f.env w=(do let v ← w;standAt e.pos;holding [v] (truthy v)):=by intro _;rfl):Tp c f e m H P:=
 ri (h.ev fun b r=>⟨b,rfl,rfl,r⟩) he
end
end Mine
namespace Mine
open PySem PyProof.Rows PySem.Builtin PySem.W
theorem bL.set_set(m:bL)(x:Str)(a b:V):(m.set x a).set x b=m.set x b:=funext fun y=>by unfold bL.set;split <;> rfl
section
variable {c:Cx} {f:Fx} {m:bL} {H:AH} {X:Value→AH→Prop}
theorem fy{x:Str}{t e:Expr}{p q p':Pos}{rest:List Stmt}{Q:Ko}{P:Prop}{d0 d1:V}(h:Tp c f t (m.set x d0) H P)(he:P→Pe c f e (m.set x d0) H d1)(k:∀d,(P∧d=d1)∨(¬P∧d=d0)→Ex c f rest (m.set x d) H Q)
  (hx:(f.env.kindOf x=some .local)∨(f.env.kindOf x=some .cell∧(f.env.cells.lookup x).isSome=true)) (oV:autoParam (f.fn=true) aR._auto_1) (hk:autoParam (f.env.scope.kind=.function) aR._auto_1) (Gz:autoParam (swapsWith e (some (.Name x p)) q.line f.env=pure false) aR._auto_1) :
  Ex c f (.If t [.Assign [.Name x p] e q] [] p'::rest) (m.set x d0) H Q:=
 aL h (fun r=>ag ((he r).ev (by rw[bL.set_set];exact k _ (.inl ⟨r,rfl⟩))) hx oV hk Gz) (fun r=>k _ (.inr ⟨r,rfl⟩))
theorem ck{x:Str}{p₁ p:Pos}{e:Expr}{id:String}{d d':V}(K:cV c)(g:GN c x (.builtin id))(h1:Pe c f e m H d)(h:BN c f H (fun vs=>call (.builtin id) vs) [d] d')(hg:autoParam (f.env.globals=mainGlobals) aR._auto_1)(hb:autoParam (f.env.builtins=builtinsNs) aR._auto_1)
  (hk:autoParam (f.env.scope.kind=.function) aR._auto_1) (hn:autoParam (f.env.kindOf x=some .globalImplicit) aR._auto_1) (hd:autoParam ((x == ("__debug__":Str))=false) aD._auto_1) (he:autoParam (starEach [e] f.env=(false,eval e f.env)::starEach [] f.env) aR._auto_1):Pe c f (.Call (.Name x p₁) [e] [] p) m H d':=
 qi (bF K g hg hb hk hn hd) (au h1 aU he) h he rfl
theorem iQ{x:Str}{p₁ p:Pos}{e e₂:Expr}{id:String}{d d₂ d':V}(K:cV c)(g:GN c x (.builtin id))(h1:Pe c f e m H d)(h2:Pe c f e₂ m H d₂)(h:BN c f H (fun vs=>call (.builtin id) vs) [d,d₂] d')(hg:autoParam (f.env.globals=mainGlobals) aR._auto_1)(hb:autoParam (f.env.builtins=builtinsNs) aR._auto_1)
  (hk:autoParam (f.env.scope.kind=.function) aR._auto_1) (hn:autoParam (f.env.kindOf x=some .globalImplicit) aR._auto_1) (hd:autoParam ((x == ("__debug__":Str))=false) aD._auto_1) (he:autoParam (starEach [e,e₂] f.env=(false,eval e f.env)::starEach [e₂] f.env) aR._auto_1) (ny:autoParam (starEach [e₂] f.env=(false,eval e₂ f.env)::starEach [] f.env) aR._auto_1)
  (hp:autoParam ((backTo p (starEach [e₂] f.env)).any (·.1)=false) aR._auto_1):Pe c f (.Call (.Name x p₁) [e,e₂] [] p) m H d':=
 qi (bF K g hg hb hk hn hd) (au h1 (au h2 aU ny) he) h he hp
theorem gH{x t:Str}{p₁ p p₂:Pos}{e:Expr}{T:String}{d:V}{b:Bool}(K:cV c)(g:GN c x (.builtin "isinstance"))(gT:GN c t (.type T))(h1:Pe c f e m H d)(h:BN c f H (fun vs=>call (.builtin "isinstance") vs) [d,.raw (.type T)] (.bool b))(hg:autoParam (f.env.globals=mainGlobals) aR._auto_1)(hb:autoParam (f.env.builtins=builtinsNs) aR._auto_1)
  (hk:autoParam (f.env.scope.kind=.function) aR._auto_1) (hn:autoParam (f.env.kindOf x=some .globalImplicit) aR._auto_1) (Uy:autoParam (f.env.kindOf t=some .globalImplicit) aR._auto_1) (hd:autoParam ((x == ("__debug__":Str))=false) aD._auto_1) (hdt:autoParam ((t == ("__debug__":Str))=false) aD._auto_1) (he:autoParam (starEach [e,.Name t p₂] f.env=(false,eval e f.env)::starEach [.Name t p₂] f.env) aR._auto_1) (ny:autoParam (starEach [.Name t p₂] f.env=(false,eval (.Name t p₂) f.env)::starEach [] f.env) aR._auto_1)
  (hp:autoParam ((backTo p (starEach [.Name t p₂] f.env)).any (·.1)=false) aR._auto_1):Pb c f (.Call (.Name x p₁) [e,.Name t p₂] [] p) m H (b=true):=
 (iQ K g h1 (bF K gT hg hb hk Uy hdt) h hg hb hk hn hd he ny hp).pb Iff.rfl
theorem gw{x:Str}{p₁ p:Pos}{e:Expr}{fa:Addr}{o:Obj}{fd:FuncData}{k:Nat}{d d':V}(K:cV c)(g:GN c x (.ref fa))(ho:c.base.get? fa=some o)(jW:o.data=.func fd)(R:bw k f.A)(hf:f.A.frames=some f.bK)(h1:Pe c f e m H d)(h:Fn c k (.ref fa) [d] H (fun Ve H'=>Ve=d'∧H'=H) (fun _ _=>False))(hg:autoParam (f.env.globals=mainGlobals) aR._auto_1)(hb:autoParam (f.env.builtins=builtinsNs) aR._auto_1)
  (hk:autoParam (f.env.scope.kind=.function) aR._auto_1) (hn:autoParam (f.env.kindOf x=some .globalImplicit) aR._auto_1) (hd:autoParam ((x == ("__debug__":Str))=false) aD._auto_1) (he:autoParam (starEach [e] f.env=(false,eval e f.env)::starEach [] f.env) aR._auto_1):Pe c f (.Call (.Name x p₁) [e] [] p) m H d':=
 oB ho jW R hf (bF K g hg hb hk hn hd) (au h1 aU he) h he
theorem kJ{x:Str}{p₁ p:Pos}{e e₂:Expr}{fa:Addr}{o:Obj}{fd:FuncData}{k:Nat}{d d₂ d':V}(K:cV c)(g:GN c x (.ref fa))(ho:c.base.get? fa=some o)(jW:o.data=.func fd)(R:bw k f.A)(hf:f.A.frames=some f.bK)(h1:Pe c f e m H d)(h2:Pe c f e₂ m H d₂)(h:Fn c k (.ref fa) [d,d₂] H (fun Ve H'=>Ve=d'∧H'=H) (fun _ _=>False))(hg:autoParam (f.env.globals=mainGlobals) aR._auto_1)(hb:autoParam (f.env.builtins=builtinsNs) aR._auto_1)
  (hk:autoParam (f.env.scope.kind=.function) aR._auto_1) (hn:autoParam (f.env.kindOf x=some .globalImplicit) aR._auto_1) (hd:autoParam ((x == ("__debug__":Str))=false) aD._auto_1) (he:autoParam (starEach [e,e₂] f.env=(false,eval e f.env)::starEach [e₂] f.env) aR._auto_1) (ny:autoParam (starEach [e₂] f.env=(false,eval e₂ f.env)::starEach [] f.env) aR._auto_1):Pe c f (.Call (.Name x p₁) [e,e₂] [] p) m H d':=
 oB ho jW R hf (bF K g hg hb hk hn hd) (au h1 (au h2 aU ny) he) h he
end
theorem cF(a b d:V):[a,b,d].length≤sizeLine:=by show 3≤sizeLine;decide
theorem mQ:bootBuiltins (Str.ofString "isinstance")=some (.builtin "isinstance"):=by decide +kernel
theorem G5:bootBuiltins (Str.ofString "len")=some (.builtin "len"):=by decide +kernel
theorem wW:bootBuiltins (Str.ofString "range")=some (.type "range"):=by decide +kernel
theorem G6:bootBuiltins (Str.ofString "int")=some (.type "int"):=by decide +kernel
theorem y4:bootBuiltins (Str.ofString "bool")=some (.type "bool"):=by decide +kernel
theorem GZ:bootBuiltins (Str.ofString "str")=some (.type "str"):=by decide +kernel
theorem wV:bootBuiltins (Str.ofString "tuple")=some (.type "tuple"):=by decide +kernel
theorem yZ:bootBuiltins (Str.ofString "list")=some (.type "list"):=by decide +kernel
theorem y3:bootBuiltins (Str.ofString "dict")=some (.type "dict"):=by decide +kernel
theorem G4:bootBuiltins (Str.ofString "max")=some (.builtin "max"):=by decide +kernel
theorem G3:bootBuiltins (Str.ofString "min")=some (.builtin "min"):=by decide +kernel
theorem uo:bootBuiltins (Str.ofString "sorted")=some (.builtin "sorted"):=by decide +kernel
end Mine
namespace Mine
open PySem PyProof.Rows PySem.Builtin PySem.W
section
variable {c:Cx} {f:Fx} {m:bL} {H:AH} {X:Value→AH→Prop} {Q:V→AH→Prop}
theorem Ex.mono{xC:List Stmt}{Q Q':Ko}(h:Ex c f xC m H Q)(k:∀o m' H',Q o m' H'→Q' o m' H'):Ex c f xC m H Q':=
 .mk fun s S=>wpAny_mono (h s S) (fun _ _ Dc=>q8 Dc fun o m' H' a b q=>⟨o,m',H',a,b,k _ _ _ q⟩) fun _ _ C9=>Hx C9 fun C m' H' e a b d q=>⟨C,m',H',e,a,b,d,k _ _ _ q⟩
theorem uv(O:iw f){σ:Type}{t:Expr}{body rest:List Stmt}{p:Pos}{Q:Ko}(S:σ→bL)(μ:σ→Nat)(I:σ→Prop)(P:σ→Prop)(x0:σ)(h0:I x0)(hm:m=S x0)
  (ht:∀x,I x→Tp c f t (S x) H (P x))
  (hb:∀x,I x→P x→Ex c f body (S x) H (fun o m' H'=>o=.next∧H'=H∧∃y,I y∧μ y<μ x∧m'=S y))
  (hr:∀x,I x→¬P x→Ex c f rest (S x) H Q):Ex c f (.While t body [] p::rest) m H Q:=by
 refine hB O (fun n m' H'=>H'=H∧∃x,I x∧μ x=n∧m'=S x) (μ x0) ⟨rfl,x0,h0,rfl,hm⟩ fun n m' H' z=>?_
 refine q51 (d0:=H') (d1:=m') z fun x hx hn=>?_;clear z
 refine Ts.mono (ht x hx) (fun b d8 C8=>q3 C8 fun e q=>?_) fun _ _ z=>z.elim
 subst e
 refine⟨fun iL=>Ex.mono (hb x hx (q.mp iL)) fun o m₂ H₂ z=>?_,fun iL=>hr x hx fun r=>by rw[q.mpr r] at iL;cases iL⟩
 refine q52 (d0:=o) (d1:=H₂) (d2:=m₂) z fun y hy cA=>?_;clear z
 exact⟨μ y,hn▸cA,rfl,y,hy,rfl,rfl⟩
theorem i3(O:iw f){σ:Type}{t:Expr}{body rest:List Stmt}{p:Pos}{Q:Ko}{x:Str}{d0:V}(g:σ→V)(μ:σ→Nat)(I:σ→Prop)(P:σ→Prop)(x0:σ)(h0:I x0)(hm:d0=g x0)
  (ht:∀y,I y→Tp c f t (m.set x (g y)) H (P y))
  (hb:∀y,I y→P y→Ex c f body (m.set x (g y)) H (fun o m' H'=>o=.next∧H'=H∧∃z,I z∧μ z<μ y∧m'=m.set x (g z)))
  (hr:∀y,I y→¬P y→Ex c f rest (m.set x (g y)) H Q):Ex c f (.While t body [] p::rest) (m.set x d0) H Q:=
 uv O (fun y=>m.set x (g y)) μ I P x0 h0 (by rw[hm]) ht hb hr
theorem kL{x:Str}{p₁ p:Pos}{e:Expr}{fa:Addr}{o:Obj}{fd:FuncData}{k:Nat}{d:V}(K:cV c)(g:GN c x (.ref fa))(ho:c.base.get? fa=some o)(jW:o.data=.func fd)(R:bw k f.A)(hf:f.A.frames=some f.bK)(h1:Pe c f e m H d)(h:Fn c k (.ref fa) [d] H Q X)(hg:autoParam (f.env.globals=mainGlobals) aR._auto_1)(hb:autoParam (f.env.builtins=builtinsNs) aR._auto_1)
  (hk:autoParam (f.env.scope.kind=.function) aR._auto_1) (hn:autoParam (f.env.kindOf x=some .globalImplicit) aR._auto_1) (hd:autoParam ((x == ("__debug__":Str))=false) aD._auto_1) (he:autoParam (starEach [e] f.env=(false,eval e f.env)::starEach [] f.env) aR._auto_1):Ev c f (.Call (.Name x p₁) [e] [] p) m H Q X:=
 gA ho jW R hf ((bF K g hg hb hk hn hd).ev ⟨rfl,(au h1 aU he).nz h⟩) he
theorem cy{x:Str}{p₁ p:Pos}{e e₂:Expr}{fa:Addr}{o:Obj}{fd:FuncData}{k:Nat}{d d₂:V}(K:cV c)(g:GN c x (.ref fa))(ho:c.base.get? fa=some o)(jW:o.data=.func fd)(R:bw k f.A)(hf:f.A.frames=some f.bK)(h1:Pe c f e m H d)(h2:Pe c f e₂ m H d₂)(h:Fn c k (.ref fa) [d,d₂] H Q X)(hg:autoParam (f.env.globals=mainGlobals) aR._auto_1)(hb:autoParam (f.env.builtins=builtinsNs) aR._auto_1)
  (hk:autoParam (f.env.scope.kind=.function) aR._auto_1) (hn:autoParam (f.env.kindOf x=some .globalImplicit) aR._auto_1) (hd:autoParam ((x == ("__debug__":Str))=false) aD._auto_1) (he:autoParam (starEach [e,e₂] f.env=(false,eval e f.env)::starEach [e₂] f.env) aR._auto_1) (ny:autoParam (starEach [e₂] f.env=(false,eval e₂ f.env)::starEach [] f.env) aR._auto_1):Ev c f (.Call (.Name x p₁) [e,e₂] [] p) m H Q X:=
 gA ho jW R hf ((bF K g hg hb hk hn hd).ev ⟨rfl,(au h1 (au h2 aU ny) he).nz h⟩) he
theorem Vw{x:Str}{p₁ p:Pos}{e e₂ e₃:Expr}{fa:Addr}{o:Obj}{fd:FuncData}{k:Nat}{d d₂ d₃ d':V}(K:cV c)(g:GN c x (.ref fa))(ho:c.base.get? fa=some o)(jW:o.data=.func fd)(R:bw k f.A)(hf:f.A.frames=some f.bK)(h1:Pe c f e m H d)(h2:Pe c f e₂ m H d₂)(h3:Pe c f e₃ m H d₃)(h:Fn c k (.ref fa) [d,d₂,d₃] H (fun Ve H'=>Ve=d'∧H'=H) (fun _ _=>False))(hg:autoParam (f.env.globals=mainGlobals) aR._auto_1)(hb:autoParam (f.env.builtins=builtinsNs) aR._auto_1)
  (hk:autoParam (f.env.scope.kind=.function) aR._auto_1) (hn:autoParam (f.env.kindOf x=some .globalImplicit) aR._auto_1) (hd:autoParam ((x == ("__debug__":Str))=false) aD._auto_1) (he:autoParam (starEach [e,e₂,e₃] f.env=(false,eval e f.env)::starEach [e₂,e₃] f.env) aR._auto_1) (ny:autoParam (starEach [e₂,e₃] f.env=(false,eval e₂ f.env)::starEach [e₃] f.env) aR._auto_1) (he3:autoParam (starEach [e₃] f.env=(false,eval e₃ f.env)::starEach [] f.env) aR._auto_1):Pe c f (.Call (.Name x p₁) [e,e₂,e₃] [] p) m H d':=
 oB ho jW R hf (bF K g hg hb hk hn hd) (au h1 (au h2 (au h3 aU he3) ny) he) h he
theorem sU{a b:Int}(hh:f.A.handled=none):BN c f H (fun vs=>call (.builtin "min") vs) [.int a,.int b] (.int (min a b)):=.mk fun m s vs S ia=>by
 simp only[aA] at ia;refine vh (d0:=vs) ia fun v v' i i'=>?_;clear ia
 refine q4 (aY i) fun t K3=>?_;obtain rfl:=K3;refine q4 (aY i') fun t' K2=>?_;obtain rfl:=K2
 refine min_two_ints hh fun h' tk g=>⟨g,rfl,rfl,?_⟩
 split
 ·rw[Int.min_eq_right (by exact P5 (by assumption))];exact cI
 ·rw[Int.min_eq_left (by exact Gi (by assumption))];exact cI
theorem nH{a b:Int}(hh:f.A.handled=none):BN c f H (fun vs=>call (.builtin "max") vs) [.int a,.int b] (.int (max a b)):=.mk fun m s vs S ia=>by
 simp only[aA] at ia;refine vh (d0:=vs) ia fun v v' i i'=>?_;clear ia
 refine q4 (aY i) fun t K1=>?_;obtain rfl:=K1;refine q4 (aY i') fun t' K0=>?_;obtain rfl:=K0
 refine max_two_ints hh fun h' tk g=>⟨g,rfl,rfl,?_⟩
 split
 ·rw[Int.max_eq_right (by exact P5 (by assumption))];exact cI
 ·rw[Int.max_eq_left (by exact Gi (by assumption))];exact cI
end
end Mine
namespace Mine
open PySem PyProof.Rows PySem.Builtin PySem.W
section
variable {c:Cx} {f:Fx} {m:bL} {H:AH} {X:Value→AH→Prop} {Q:V→AH→Prop}
theorem Ho{t:Expr}{body orelse:List Stmt}{p:Pos}{Q:Ko}(h:Ts c f t m H (fun b H'=>(b=true→Ex c f body m H' Q)∧(b=false→Ex c f orelse m H' Q)) (fun C H'=>Q (.exc C) m H')):HY c f (.If t body orelse p) m H Q:=.mk fun s S=>
 wpAny_If (wpAny_mono (h s S) (fun b s₂ z=>by
  refine q1 z fun H' S' q₁ q₂=>?_;clear z
  cases b with
  | true=>rw[if_pos rfl];exact q₁ rfl s₂ S'
  | false=>rw[if_neg (by decide)];exact q₂ rfl s₂ S') fun _ _ z=>z.ex fun _ _ y=>y)
theorem xj{t:Expr}{body orelse rest:List Stmt}{p:Pos}{Q:Ko}{P:Prop}(I:bL→AH→Prop)(h:Tp c f t m H P)
  (h1:P→Ex c f body m H (fun o m' H'=>o=.next∧I m' H')) (h2:¬P→Ex c f orelse m H (fun o m' H'=>o=.next∧I m' H')) (k:∀m' H',I m' H'→Ex c f rest m' H' Q):Ex c f (.If t body orelse p::rest) m H Q:=
 Hn (Ho (Ts.mono h (fun b H' C7=>q3 C7 fun e q=>by
  subst e
  refine⟨fun z=>Ex.mono (h1 (q.mp z)) fun o m' H' z=>?_,fun z=>Ex.mono (h2 fun y=>by rw[q.mpr y] at z;cases z) fun o m' H' z=>?_⟩
  ·refine VX (d0:=o) z fun i=>?_;clear z;exact k _ _ i
  ·refine VX (d0:=o) z fun i=>?_;clear z;exact k _ _ i) fun _ _ z=>z.elim))
end
end Mine
namespace Mine
open PySem PyProof.Rows PySem.Builtin PySem.W
noncomputable def aF(kvs:List (Int×V))(k:Int):Option V:=(kvs.find? fun kv=>kv.1=k).map (·.2)
noncomputable def bR(kvs:List (Int×V))(k:Int)(d:V):List (Int×V):=if kvs.any (fun kv=>kv.1=k) then kvs.map (fun kv=>if kv.1=k then(kv.1,d) else kv) else kvs++[(k,d)]
theorem jG{h:Heap}{k:Int}:∀ {kvs:List (Int×V)} {kv:List (Int×Value)},kv.map (·.1)=kvs.map (·.1)→aA h (kvs.map (·.2)) (kv.map (·.2))→(aF kvs k=none∧valueAt kv k=none)∨∃d v,aF kvs k=some d∧valueAt kv k=some v∧Is h d v
 | [],[],_,_=>.inl ⟨rfl,rfl⟩
 | [],x::r,e,_=>by simp at e
 | x::r,[],e,_=>by simp at e
 | (a,d)::r,(b,v)::r',e,i=>by
  simp only[List.map_cons,List.cons.injEq] at e
  refine q3 e fun KZ zR=>?_;clear e;have e:=zR;clear zR;obtain rfl:=KZ
  simp only[List.map_cons,aA] at i
  refine q0 i fun v' rr e' i1 i2=>?_;clear i
  injection e' with e1 e2
  subst e1;subst e2
  by_cases q:b=k
  ·subst q
   exact .inr ⟨d,v,by simp[aF],by simp[valueAt],i1⟩
  ·have h1:aF ((b,d)::r) k=aF r k:=by simp[aF,List.find?,q]
   have h2:valueAt ((b,v)::r') k=valueAt r' k:=by simp[valueAt,List.find?,q]
   rw[h1,h2];exact jG e i2
theorem wQ{k:Int}{kvs:List (Int×V)}{kv:List (Int×Value)}(e:kv.map (·.1)=kvs.map (·.1)):kv.any (fun x=>decide (x.1=k))=kvs.any (fun x=>decide (x.1=k)):=by
 have h1:kv.any (fun x=>decide (x.1=k))=(kv.map (·.1)).any (fun x=>decide (x=k)):=by rw[List.any_map];rfl
 have h2:kvs.any (fun x=>decide (x.1=k))=(kvs.map (·.1)).any (fun x=>decide (x=k)):=by rw[List.any_map];rfl
 rw[h1,h2,e]
theorem p9{h:Heap}{k:Int}{d:V}{v:Value}(iv:Is h d v):∀ {kvs:List (Int×V)} {kv:List (Int×Value)},kv.map (·.1)=kvs.map (·.1)→aA h (kvs.map (·.2)) (kv.map (·.2))→
  (kv.map (fun x=>if x.1=k then(x.1,v) else x)).map (·.1)=(kvs.map (fun x=>if x.1=k then(x.1,d) else x)).map (·.1)∧aA h ((kvs.map (fun x=>if x.1=k then(x.1,d) else x)).map (·.2)) ((kv.map (fun x=>if x.1=k then(x.1,v) else x)).map (·.2))
 | [],[],_,_=>⟨rfl,dJ _⟩
 | [],x::r,e,_=>by simp at e
 | x::r,[],e,_=>by simp at e
 | (a,d')::r,(b,v')::r',e,i=>by
  simp only[List.map_cons,List.cons.injEq] at e
  refine q3 e fun KW zQ=>?_;clear e;have e:=zQ;clear zQ;obtain rfl:=KW
  simp only[List.map_cons,aA] at i
  refine q0 i fun v'' rr e' i1 i2=>?_;clear i
  injection e' with e1 e2
  subst e1;subst e2
  obtain⟨p,q⟩:=p9 iv e i2
  by_cases z:b=k
  ·simp only[List.map_cons,z,if_true]
   exact⟨by rw[p],cZ iv q⟩
  ·simp only[List.map_cons,z,if_false]
   exact⟨by rw[p],cZ i1 q⟩
theorem yU{h:Heap}{k:Int}{d:V}{v:Value}(iv:Is h d v){kvs:List (Int×V)}{kv:List (Int×Value)}(e:kv.map (·.1)=kvs.map (·.1))(i:aA h (kvs.map (·.2)) (kv.map (·.2))):
  (stored kv k v).map (·.1)=(bR kvs k d).map (·.1)∧aA h ((bR kvs k d).map (·.2)) ((stored kv k v).map (·.2)):=by
 unfold stored bR
 rw[wQ e]
 split
 ·exact p9 iv e i
 ·rw[List.map_append,List.map_append,List.map_append,List.map_append,e]
  exact⟨rfl,i.append (eh iv)⟩
theorem lH{prog:Program}{w:World}{A:Around}{E:Value→Shared→Prop}{s:Shared}{l:Addr}{ZU:Array Value}{Q:Value→Shared→Prop}
  (hl:PlainL s.heap l ZU) (hQ:∀h',PlainL h' l ZU.reverse→Heap.SameBut l s.heap h'→Q .none { s with heap:=h' }) (hsz:ZU.size≤sizeLine) :
  wpAny (model prog w) A (call (.builtin "list.reverse") [.ref l]) Q E s:=by
 refine q40 (id hl) fun o n ho hc yD hd=>?_
 refine q4 (Obj.data_mapSeq hd (·.reverse)) fun n' sq=>?_
 refine wpAny_call_entry PySem.F.slot_list_reverse hl.isList.typeIs PySem.F.entry_list_reverse ?_ (PySem.F.args_list_reverse_1 _)
 show wpAny _ _ (updateSeq l (·.reverse) >>= fun _=>ret .none) _ _ s
 refine wpAny_bind ?_
 refine wpAny_updateSeq ho hd (wpAny_pure ⟨.none,rfl,hQ _ ?_ (Heap.SameBut.update ..)⟩) (hz:=hsz) (_hz':=by rw[Array.size_reverse];exact qO hsz)
 refine⟨_,n',Heap.get?_update_self _ ho (Obj.isFreed_of_seq sq),(Obj.cls_mapSeq ..).trans hc,?_,sq⟩
 obtain⟨c,d,dt,sl⟩:=o
 subst hd
 exact yD
theorem aA.reverse{h:Heap}:∀ {ds:List V} {vs:List Value},aA h ds vs→aA h ds.reverse vs.reverse
 | [],_,x=>by simp only[aA] at x;subst x;exact dJ _
 | d::ds,_,x=>by
  simp only[aA] at x
  refine q0 x fun v r KY a z=>?_;clear x;obtain rfl:=KY
  rw[List.reverse_cons,List.reverse_cons]
  exact(aA.reverse z).append (eh a)
section
variable {c:Cx} {f:Fx} {m:bL} {H:AH} {X:Value→AH→Prop} {Q:V→AH→Prop}
theorem cw{es:List Expr}{p:Pos}(K:cV c)(h:oJ c f es p m H (fun ds H'=>ds.length≤sizeLine∧∀a o,H' a=none→Q (.ref a) (H'.set a ⟨o,.list ds⟩)) X):Ev c f (.List es p) m H Q X:=.mk fun s S=>by
 refine wpAny_List (wpAny_mono (h s S) (fun vs s₁ z=>?_) fun _ _ x=>x)
 refine xY z fun ds H' t ia S₁ hl q=>?_;clear z
 have g:aM s₁.heap (s₁.heap.push { cls:=.type "list",data:=.seq vs.toArray }):=aM.push _ _
 have hn:s₁.heap.get? s₁.heap.objs.size=none:=by
  cases e:s₁.heap.get? s₁.heap.objs.size with
  | none=>rfl
  | some o=>exact absurd (Heap.lt_size e) (Nat.lt_irrefl _)
 have hH:H' s₁.heap.objs.size=none:=by
  cases e:H' s₁.heap.objs.size with
  | none=>rfl
  | some x=>refine q2 ((S₁.rep _ _ e).obj) fun o e' _=>?_;rw[hn] at e';cases e'
 have hx:(s₁.heap.push { cls:=.type "list",data:=.seq vs.toArray }).get? s₁.heap.objs.size=some { cls:=.type "list",data:=.seq vs.toArray }:=Heap.get?_push_size _ rfl
 exact⟨by rw[ia.length];exact hl,t.trans g.tk,.ref _,_,br,S₁.alloc (s':={ s₁ with heap:=s₁.heap.push { cls:=.type "list",data:=.seq vs.toArray } }) (x:=⟨_,.list ds⟩) g rfl rfl hn (S₁.d5 K) ⟨hx,vs,⟨_,_,hx,rfl,rfl,rfl⟩,ia.tk g.tk⟩,q _ _ hH⟩
theorem bN{a:Addr}{ds:List V}{i:Int}{j:Nat}{d:V}(h:ai H a ds)(hj:seqIndex? i ds.length=some j)(hd:ds[j]?=some d)(hf:-9223372036854775808≤i∧i<9223372036854775808):G2 c f H (.ref a) (.int i) d:=.mk fun m s vo vi S io ii=>by
 obtain rfl:=aG io;refine q4 (aY ii) fun u KV=>?_;obtain rfl:=KV
 refine q2 (S.rep.plain h) fun vs KU ia=>?_;obtain⟨o,n,g,cl,dn,dt⟩:=KU
 refine q2 (ia.get hd) fun v hv iv=>?_
 have hl:s.heap.IsList a vs.toArray:=⟨o,g,cl,n,dt⟩
 refine⟨"list",_,hl.typeIs,slot_list_getitem.lookup,?_⟩
 unfold seqIndex? at hj
 have e:=ia.length
 by_cases q:i<0
 ·simp only[q,if_true] at hj
  split at hj
  ·rename_i hh;simp at hh;injection hj with hj;subst hj
   exact wpAny_getItem_list_neg (x:=v) hl q (by rw[List.size_toArray];exact YT e hh) (by omega) (by rw[List.size_toArray,e];simpa using hv) ⟨aM.refl _,rfl,rfl,iv⟩
  ·cases hj
 ·simp only[q,if_false] at hj
  split at hj
  ·rename_i hh;simp at hh;injection hj with hj;subst hj
   exact wpAny_getItem_list (x:=v) hl (YS q) (by omega) (by simpa using hv) ⟨aM.refl _,rfl,rfl,iv⟩
  ·cases hj
theorem cT{a:Addr}{ds:List V}(h:ai H a ds)(hsz:ds.length≤sizeLine):BN c f H (fun vs=>call (.builtin "len") vs) [.ref a] (.int ds.length):=.mk fun m s vs S ia=>by
 simp only[aA] at ia;refine uC (d0:=vs) ia fun v i=>?_;clear ia
 obtain rfl:=aG i
 refine q2 (S.rep.plain h) fun us KT ja=>?_;obtain⟨o,n,g,cl,dn,dt⟩:=KT
 have e:=ja.length
 have hl:ds.length<2 ^ 63:=Nat.lt_of_le_of_lt hsz (by decide)
 refine Calls.call_len_list (items:=us.toArray) ⟨o,g,cl,n,dt⟩ (by rw[List.size_toArray];omega) ?_
 rw[List.size_toArray,e];exact⟨aM.refl _,rfl,rfl,cI⟩
theorem Hj{a:Addr}{ds:List V}(h:ai H a ds):BN c f H (fun vs=>call (.builtin "isinstance") vs) [.ref a,.raw (.type "list")] (.bool true):=.mk fun m s vs S ia=>by
 simp only[aA] at ia;refine vh (d0:=vs) ia fun v v' i i'=>?_;clear ia
 obtain rfl:=aG i;obtain rfl:=aG i'
 refine q2 (S.rep.plain h) fun us KS ja=>?_;obtain⟨o,n,g,cl,dn,dt⟩:=KS
 exact IsiPair.list_list g cl ⟨aM.refl _,rfl,rfl,br⟩
theorem eO{a:Addr}{ds:List V}(h:ai H a ds):HW c H (.ref a) "list":=q4 h fun o e=>wD e
theorem lW{a:Addr}{kvs:List (Int×V)}(h:ax H a kvs):HW c H (.ref a) "dict":=fun f m s v S i=>by
 obtain rfl:=aG i
 refine q2 (S.rep.dictOf h) fun kv hd _=>?_
 refine⟨hd.typeIs,fun b e=>?_⟩
 cases e
 refine q8 hd fun o es ep g ex _=>?_;clear hd
 exact⟨o,g,ex.2.1⟩
theorem ql{a:Addr}{ds:List V}{d:V}(h:ai H a ds)(hsz:ds.length≤sizeLine)(q:∀o,Q .none (H.set a ⟨o,.list (ds++[d])⟩)):qk c f (fun vs=>call (.builtin "list.append") vs) [.ref a,d] m H Q X:=.mk fun s vs S ia=>by
 simp only[aA] at ia;refine vh (d0:=vs) ia fun v v' i i'=>?_;clear ia
 obtain rfl:=aG i
 refine q2 (S.rep.plain h) fun us pl ja=>?_
 refine list_append_plainL pl (fun h' vn sb=>?_) (by rw[List.size_toArray,ja.length];exact hsz)
 refine q4 h fun o0 e0=>?_;clear h
 refine i4 vn fun o n g r=>?_;clear vn
 have nt:Tk s.heap h':=fun b o₁ _ _ e cl dt=>⟨o₁,by
  by_cases z:b=a
  ·subst z;refine q0 pl fun o' n' g' c' _=>?_;clear pl;rw[g'] at e;cases e;rw[c'] at cl;exact absurd cl (by decide)
  ·exact sb.extBut b o₁ z e,cl,dt⟩
 have:=S.upd (s':={ s with heap:=h' }) (y:=⟨o,.list (ds++[d])⟩) e0 sb.extBut rfl rfl ⟨g,us++[v'],⟨o,n,g,by simpa using r⟩,(ja.append (eh i')).tk nt⟩
 exact⟨this.2,.none,_,br,this.1,q o⟩
theorem ur{a:Addr}{ds:List V}(h:ai H a ds)(hsz:ds.length≤sizeLine)(q:∀o,Q .none (H.set a ⟨o,.list ds.reverse⟩)):qk c f (fun vs=>call (.builtin "list.reverse") vs) [.ref a] m H Q X:=.mk fun s vs S ia=>by
 simp only[aA] at ia;refine uC (d0:=vs) ia fun v i=>?_;clear ia
 obtain rfl:=aG i
 refine q2 (S.rep.plain h) fun us pl ja=>?_
 refine lH pl (fun h' vn sb=>?_) (by rw[List.size_toArray,ja.length];exact hsz)
 refine q4 h fun o0 e0=>?_;clear h
 refine i4 vn fun o n g r=>?_;clear vn
 have nt:Tk s.heap h':=fun b o₁ _ _ e cl dt=>⟨o₁,by
  by_cases z:b=a
  ·subst z;refine q0 pl fun o' n' g' c' _=>?_;clear pl;rw[g'] at e;cases e;rw[c'] at cl;exact absurd cl (by decide)
  ·exact sb.extBut b o₁ z e,cl,dt⟩
 have:=S.upd (s':={ s with heap:=h' }) (y:=⟨o,.list ds.reverse⟩) e0 sb.extBut rfl rfl ⟨g,us.reverse,⟨o,n,g,by simpa using r⟩,ja.reverse.tk nt⟩
 exact⟨this.2,.none,_,br,this.1,q o⟩
theorem aT{a:Addr}{kvs:List (Int×V)}{k:Int}{d:V}(h:ax H a kvs)(hd:aF kvs k=some d):G2 c f H (.ref a) (.int k) d:=.mk fun m s vo vi S io ii=>by
 obtain rfl:=aG io;refine q4 (aY ii) fun u KR=>?_;obtain rfl:=KR
 refine q1 (S.rep.dictOf h) fun kv dd e ia=>?_
 rcases jG (k:=k) e ia with ⟨e1,_⟩ | ⟨d',v,e1,e2,iv⟩
 ·rw[hd] at e1;cases e1
 ·rw[hd] at e1;cases e1
  exact⟨"dict",_,dd.typeIs,slot_dict_getitem.lookup,wpAny_getItem_of (knd:=intKind c.prog c.w) (k:=k) (by simp[intKind,Value.isInt]) dd.mapOf e2 ⟨aM.refl _,rfl,rfl,iv⟩⟩
end
end Mine
namespace Mine
open PySem PyProof.Rows PySem.Builtin PySem.W
theorem c9(h:Heap):h.get? h.objs.size=none:=by
 cases e:h.get? h.objs.size with
 | none=>rfl
 | some o=>exact absurd (Heap.lt_size e) (Nat.lt_irrefl _)
section
variable {c:Cx} {f:Fx} {m:bL} {H:AH} {X:Value→AH→Prop} {Q:V→AH→Prop}
theorem St.lF{s:Shared}(S:St c f m H s):H s.heap.objs.size=none:=by
 cases e:H s.heap.objs.size with
 | none=>rfl
 | some x=>refine q2 ((S.rep _ _ e).obj) fun o e' _=>?_;rw[c9] at e';cases e'
theorem qR{k:Int}{u:Tok}:(intKind c.prog c.w).is k (.int k u)=true:=by simp[intKind,Value.isInt]
theorem oN{a:Addr}{kvs:List (Int×V)}{k:Int}(h:ax H a kvs):B2 c f H (compareOp .NotIn) (.int k) (.ref a) (.bool (!(aF kvs k).isSome)):=.mk fun m s v₁ v₂ S i₁ i₂=>by
 refine q4 (aY i₁) fun t KQ=>?_;obtain rfl:=KQ;obtain rfl:=aG i₂
 have ns:(a == sysModules)=false:=q4 h fun o e=>jT S e
 refine q1 (S.rep.dictOf h) fun kv dd e ia=>?_
 refine wpAny_notIn_of (knd:=intKind c.prog c.w) (k:=k) qR ns dd.mapOf ⟨aM.refl _,rfl,rfl,?_⟩
 rcases jG (k:=k) e ia with ⟨e1,e2⟩ | ⟨d',v,e1,e2,iv⟩ <;> (rw[e1,e2];exact br)
theorem fO{p:Pos}(K:cV c)(q:∀a o,H a=none→Q (.ref a) (H.set a ⟨o,.dict []⟩)):Ev c f (.Dict [] [] p) m H Q X:=.mk fun s S=>by
 have g:aM s.heap (s.heap.push { cls:=.type "dict",data:=.dict #[] }):=aM.push _ _
 have hx:(s.heap.push { cls:=.type "dict",data:=.dict #[] }).get? s.heap.objs.size=some { cls:=.type "dict",data:=.dict #[] }:=Heap.get?_push_size _ rfl
 refine wpAny_Dict_empty ⟨g.tk,.ref _,_,br,S.alloc (s':={ s with heap:=s.heap.push { cls:=.type "dict",data:=.dict #[] } }) (x:=⟨_,.dict []⟩) g rfl rfl (c9 _) (S.d5 K) ⟨hx,[],?_,rfl,dJ _⟩,q _ _ S.lF⟩
 exact⟨_,_,_,hx,⟨rfl,rfl,rfl⟩,rfl,(by intro e he;simp at he),.nil,List.nodup_nil⟩
theorem bl{o i value:Expr}{p' p:Pos}{rest:List Stmt}{Q:Ko}
  (h:Ev c f value m H (fun dv H₁=>Ev c f o m H₁ (fun do_ H₂=>Ev c f i m H₂ (fun di H₃=>∃a kvs k,do_=.ref a∧di=.int k∧ax H₃ a kvs∧kvs.length≤sizeLine∧∀o',Ex c f rest m (H₃.set a ⟨o',.dict (bR kvs k dv)⟩) Q) (fun C H'=>Q (.exc C) m H')) (fun C H'=>Q (.exc C) m H')) (fun C H'=>Q (.exc C) m H'))
  (hs:autoParam (swapsWith value (some (.Subscript o i p')) p.line f.env=pure false) aR._auto_1):Ex c f (.Assign [.Subscript o i p'] value p::rest) m H Q:=.mk fun s S=>by
 refine wpAny_execs_cons (wpAny_Assign_Subscript (wpAny_mono (h s S) (fun v s₁ z=>?_) fun x s' z=>z.ex fun _ _ y=>y) hs)
 refine mL z fun dv H₁ t₁ i₁ S₁ q₁=>?_;clear z
 refine wpAny_mono (q₁ s₁ S₁) (fun vo s₂ z=>?_) fun x s' z=>z.ex fun _ _ y=>y
 refine mL z fun do_ H₂ t₂ i₂ S₂ q₂=>?_;clear z
 refine wpAny_mono (q₂ s₂ S₂) (fun vi s₃ z=>?_) fun x s' z=>z.ex fun _ _ y=>y
 refine q55 z fun H₃ a kvs k t₃ i₃ S₃ KL hd hsz q=>?_;clear z;obtain rfl:=KL
 obtain rfl:=aG i₂;refine q4 (aY i₃) fun u KH=>?_;obtain rfl:=KH
 refine q1 (S₃.rep.dictOf hd) fun kv dd e ia=>?_
 have el:kv.length=kvs.length:=by have:=congrArg List.length e;simpa using this
 refine wpAny_setItem_pairs (knd:=intKind c.prog c.w) (k:=k) qR dd (fun h' xI sb=>?_) (yc hsz el)
 refine q4 hd fun o0 e0=>?_;clear hd
 have nt:Tk s₃.heap h':=fun b o₁ _ _ e cl dt=>⟨o₁,by
  by_cases z:b=a
  ·subst z;refine q8 dd fun o' _ _ g' ex _=>?_;clear dd;rw[g'] at e;cases e;rw[ex.1] at cl;exact absurd cl (by decide)
  ·exact sb.extBut b o₁ z e,cl,dt⟩
 refine q6 (id xI) fun o es ep g r=>?_
 refine q3 (yU (k:=k) (d:=dv) (v:=v) ((i₁.tk (t₂.trans t₃)).tk nt) e (ia.tk nt)) fun p1 p2=>?_
 have:=S₃.upd (s':={ s₃ with heap:=h',toks:=s₃.toks+1 }) (y:=⟨o,.dict (bR kvs k dv)⟩) e0 sb.extBut rfl rfl ⟨g,_,xI,p1,p2⟩
 exact(q o) _ this.1
theorem oH{a:Addr}{kvs:List (Int×V)}(K:cV c)(h:ax H a kvs)(hsz:kvs.length≤sizeLine)(q:∀b o,H b=none→Q (.ref b) (H.set b ⟨o,.dict kvs⟩)):qk c f (fun vs=>call (.type "dict") vs) [.ref a] m H Q X:=.mk fun s vs S ia=>by
 simp only[aA] at ia;refine uC (d0:=vs) ia fun v i=>?_;clear ia
 obtain rfl:=aG i
 have ns:(a == sysModules)=false:=q4 h fun o e=>jT S e
 refine q1 (S.rep.dictOf h) fun kv dd e ia=>?_
 have el:kv.length=kvs.length:=by have:=congrArg List.length e;simpa using this
 refine kt_call_dict (knd:=intKind c.prog c.w) ns dd (yc hsz el) fun h' xI sb=>?_
 have g:aM s.heap h':=fun b o' eb=>by
  have hb:b≠s.heap.objs.size:=fun z=>by rw[z,c9] at eb;cases eb
  exact(sb.2 b hb).trans (Heap.get?_push_of_some _ eb)
 refine q6 (id xI) fun o es ep gg r=>?_
 exact⟨g.tk,.ref _,_,br,S.alloc (s':={ s with heap:=h' }) (x:=⟨o,.dict kvs⟩) g rfl rfl (c9 _) (S.d5 K) ⟨gg,kv,xI,e,ia.tk g.tk⟩,q _ _ S.lF⟩
theorem Hc{a:Addr}{kvs:List (Int×V)}(K:cV c)(hh:f.A.handled=none)(h:ax H a kvs)(hsz:kvs.length≤sizeLine)(q:∀b o,H b=none→Q (.ref b) (H.set b ⟨o,.list (kvs.map fun p=>.int p.1)⟩)):qk c f (fun vs=>call (.type "list") vs) [.ref a] m H Q X:=.mk fun s vs S ia=>by
 simp only[aA] at ia;refine uC (d0:=vs) ia fun v i=>?_;clear ia
 obtain rfl:=aG i
 have ns:(a == sysModules)=false:=q4 h fun o e=>jT S e
 refine q4 h fun o eo=>?_;clear h
 refine Mz (S.rep.dict eo) fun kv es ep g c1 c2 c3 c4 c5 p ia=>?_
 have hm:s.heap.DictAt (intKind c.prog c.w) a kv ep:=⟨o,es,g,c1,c2,c3,c4,c5⟩
 have el:kv.length=kvs.length:=by have:=congrArg List.length p;simpa using this
 refine kdl_call (kdl_dict (knd:=intKind c.prog c.w) (kvs:=kv) (ep:=ep) ns) hh hm (yc hsz el) fun h' tk acc c' g' gg hi=>?_
 have gr:aM s.heap h':=g'
 refine⟨gr.tk,.ref _,_,br,S.alloc (s':={ s with heap:=h',toks:=tk }) (x:=⟨_,.list (kvs.map fun p=>.int p.1)⟩) gr rfl rfl (c9 _) (S.d5 K) ⟨gg,acc.toList,⟨_,c',gg,rfl,rfl,by simp⟩,?_⟩,q _ _ S.lF⟩
 have key:∀(l:List Value) (ks:List Int),l.length=ks.length→(∀(j:Nat) v,l[j]?=some v→∃k,ks[j]?=some k∧∃t,v=Value.int k t)→aA h' (ks.map V.int) l:=by
  intro l
  induction l with
  | nil=>intro ks hl _;cases ks with
   | nil=>exact dJ _
   | cons _ _=>simp at hl
  | cons v l ih=>intro ks hl hk;cases ks with
   | nil=>simp at hl
   | cons k ks=>
    refine q57 (hk 0 v rfl) fun k' t e' KG=>?_;obtain rfl:=KG
    simp at e';subst e'
    exact cZ cI (ih ks (by simpa using hl) fun j v hj=>by simpa using hk (j+1) v (by simpa using hj))
 have e2:(kvs.map fun p=>V.int p.1)=(kv.map (·.1)).map V.int:=by rw[p,List.map_map];rfl
 rw[e2]
 refine key _ _ (by simp[hi.1]) fun j v hj=>?_
 refine i4 (hi.2 j v (by simpa using hj)) fun k x e1 e3=>?_
 refine⟨k,by rw[List.getElem?_map,e1];rfl,?_⟩
 cases v with
 | int k' t=>simp[intKind,Value.isInt] at e3;exact⟨t,by rw[e3]⟩
 | _=>simp[intKind,Value.isInt] at e3
theorem VJ{n:Nat}{a b:Addr}{ds es:List V}{e:Nat→Bool}(ha:ai H a ds)(hb:ai H b es)(hl:ds.length=es.length)(he:∀j d₁ d₂,ds[j]?=some d₁→es[j]?=some d₂→kM n d₁ d₂ (e j))(hu:f.A.units+4*(n+1)<cLine):
  B2 c f H (compareOp .Eq) (.ref a) (.ref b) (.bool ((List.range ds.length).all e)):=.mk fun m s v₁ v₂ S i j=>by
 obtain rfl:=aG i;obtain rfl:=aG j
 refine q2 (S.rep.plain ha) fun us KP ia=>?_;obtain⟨o,k,g,cl,dn,dt⟩:=KP
 refine q2 (S.rep.plain hb) fun qE KO jM=>?_;obtain⟨o',k',g',mP,HP,rf⟩:=KO
 have e1:us.toArray.size=ds.length:=by rw[List.size_toArray];exact ia.length
 refine SeqAt.eq_listAt (e := e) (items := us.toArray) (items2 := qE.toArray) ⟨o, g, cl, k, dt⟩ ⟨o', g', mP, k', rf⟩ (by rw [List.size_toArray, List.size_toArray, ia.length, jM.length, hl]) (qN hu) (fun j h1 h2 => by
    simp only[List.size_toArray] at h1 h2
    refine q2 (ia.at h1) fun d₁ q₁ i₁=>?_
    refine q2 (jM.at h2) fun d₂ q₂ i₂=>?_
    exact(he j d₁ d₂ q₁ q₂).eq _ _ _ _ (by have:=eN f.A;exact qM hu this) i₁ i₂) ?_
 rw[e1]
 exact⟨aM.refl _,rfl,rfl,br⟩
theorem uz{a b:Addr}{ds es:List V}(ha:ai H a ds)(hb:ai H b es)(hl:ds.length≠es.length)(hu:f.A.units+4<cLine):B2 c f H (compareOp .Eq) (.ref a) (.ref b) (.bool false):=.mk fun m s v₁ v₂ S i j=>by
 obtain rfl:=aG i;obtain rfl:=aG j
 refine q2 (S.rep.plain ha) fun us KN ia=>?_;obtain⟨o,k,g,cl,dn,dt⟩:=KN
 refine q2 (S.rep.plain hb) fun qE KM jM=>?_;obtain⟨o',k',g',mP,HP,rf⟩:=KM
 exact SeqAt.eq_list_lengthsAt (items:=us.toArray) (items2:=qE.toArray) ⟨o,g,cl,k,dt⟩ ⟨o',g',mP,k',rf⟩ (by rw[List.size_toArray,List.size_toArray,ia.length,jM.length];simpa using hl) (Pw hu) ⟨aM.refl _,rfl,rfl,br⟩
theorem VH{n:Nat}{a b:Addr}{ds es:List V}{e:Nat→Bool}(ha:ai H a ds)(hb:ai H b es)(hl:ds.length=es.length)(he:∀j d₁ d₂,ds[j]?=some d₁→es[j]?=some d₂→kM n d₁ d₂ (e j))(hu:f.A.units+4*(n+1)<cLine):
  B2 c f H (compareOp .NotEq) (.ref a) (.ref b) (.bool (!(List.range ds.length).all e)):=.mk fun m s v₁ v₂ S i j=>by
 obtain rfl:=aG i;obtain rfl:=aG j
 refine q2 (S.rep.plain ha) fun us KJ ia=>?_;obtain⟨o,k,g,cl,dn,dt⟩:=KJ
 refine q2 (S.rep.plain hb) fun qE KI jM=>?_;obtain⟨o',k',g',mP,HP,rf⟩:=KI
 have e1:us.toArray.size=ds.length:=by rw[List.size_toArray];exact ia.length
 have := SeqAt.RcNeAt.lists (A := f.A) (s := s) (l := a) (b := b) (e := e) (items := us.toArray) (items2 := qE.toArray) ⟨o, g, cl, k, dt⟩ ⟨o', g', mP, k', rf⟩ (by rw [List.size_toArray, List.size_toArray, ia.length, jM.length, hl]) (qN hu) (fun j h1 h2 => by
    simp only[List.size_toArray] at h1 h2
    refine q2 (ia.at h1) fun d₁ q₁ i₁=>?_
    refine q2 (jM.at h2) fun d₂ q₂ i₂=>?_
    exact(he j d₁ d₂ q₁ q₂).eq _ _ _ _ (by have:=eN f.A;exact qM hu this) i₁ i₂)
 rw[e1] at this
 exact this c.prog c.w _ _ ⟨aM.refl _,rfl,rfl,br⟩
theorem ux{a b:Addr}{ds es:List V}(ha:ai H a ds)(hb:ai H b es)(hl:ds.length≠es.length)(hu:f.A.units+4<cLine):B2 c f H (compareOp .NotEq) (.ref a) (.ref b) (.bool true):=.mk fun m s v₁ v₂ S i j=>by
 obtain rfl:=aG i;obtain rfl:=aG j
 refine q2 (S.rep.plain ha) fun us KD ia=>?_;obtain⟨o,k,g,cl,dn,dt⟩:=KD
 refine q2 (S.rep.plain hb) fun qE KC jM=>?_;obtain⟨o',k',g',mP,HP,rf⟩:=KC
 exact SeqAt.RcNeAt.lists_lengths (A:=f.A) (s:=s) (items:=us.toArray) (items2:=qE.toArray) ⟨o,g,cl,k,dt⟩ ⟨o',g',mP,k',rf⟩ (by rw[List.size_toArray,List.size_toArray,ia.length,jM.length];simpa using hl) (Pw hu) c.prog c.w _ _ ⟨aM.refl _,rfl,rfl,br⟩
theorem tR{n:Nat}{A:Around}{s:Shared}{kvs:List (Int×V)}{ka kb:List (Int×Value)}(ea:ka.map (·.1)=kvs.map (·.1))(ia:aA s.heap (kvs.map (·.2)) (ka.map (·.2)))(eb:kb.map (·.1)=kvs.map (·.1))(ib:aA s.heap (kvs.map (·.2)) (kb.map (·.2)))
  (nd:(kvs.map (·.1)).Nodup) (he:∀d∈kvs.map (·.2),kM n d d true) (hu:A.units+4*n<cLine):KeqHits A s kb ka true:=by
 have key:∀(r:List (Int×V)) (ra:List (Int×Value)),(∀k d,(k,d)∈r→aF kvs k=some d∧kM n d d true)→ra.map (·.1)=r.map (·.1)→aA s.heap (r.map (·.2)) (ra.map (·.2))→KeqHits A s kb ra true:=by
  intro r
  induction r with
  | nil=>intro ra _ e _;cases ra with
   | nil=>exact .nil
   | cons _ _=>simp at e
  | cons x r ih=>intro ra hr e i;cases ra with
   | nil=>simp at e
   | cons y ra=>
    obtain⟨k,d⟩:=x
    obtain⟨k',v⟩:=y
    simp only[List.map_cons,List.cons.injEq] at e
    refine q3 e fun KB zP=>?_;clear e;have e:=zP;clear zP;obtain rfl:=KB
    simp only[List.map_cons,aA] at i
    refine q0 i fun v' rr e' i1 i2=>?_;clear i
    injection e' with e1 e2
    subst e1;subst e2
    refine q3 (hr k' d (.head _)) fun g1 g2=>?_
    rcases jG (k:=k') eb ib with ⟨z,_⟩ | ⟨d',v',z1,z2,iv⟩
    ·rw[g1] at z;cases z
    ·rw[g1] at z1;cases z1
     have:=KeqHits.hit (A:=A) (s:=s) (r:=ra) (b:=true) z2 (g2.eq A s v v' hu i1 iv) (ih ra (fun k d h=>hr k d (.tail _ h)) e i2)
     simpa using this
 refine key kvs ka (fun k d h=>⟨?_,he d (List.mem_map.mpr ⟨(k,d),h,rfl⟩)⟩) ea ia
 clear ea ia eb ib he key
 induction kvs with
 | nil=>cases h
 | cons x r ih=>
  obtain⟨k',d'⟩:=x
  simp only[List.map_cons,List.nodup_cons] at nd
  rcases List.mem_cons.mp h with h | h
  ·cases h;simp[aF]
  ·have:k'≠k:=fun z=>nd.1 (by rw[z];exact List.mem_map.mpr ⟨(k,d),h,rfl⟩)
   have:=ih nd.2 h
   simp only[aF,List.find?,‹k'≠k›,decide_false]
   exact this
end
end Mine
namespace Mine
open PySem PyProof.Rows PySem.Builtin PySem.W PySem.F
theorem AH.set_set(H:AH)(a:Addr)(x y:fc):(H.set a x).set a y=H.set a y:=funext fun b=>by unfold AH.set;split <;> rfl
theorem ai.same(H:AH)(a:Addr)(o:Obj)(ds:List V):ai (H.set a ⟨o,.list ds⟩) a ds:=⟨o,b9 _ _ _⟩
theorem ax.same(H:AH)(a:Addr)(o:Obj)(kvs:List (Int×V)):ax (H.set a ⟨o,.dict kvs⟩) a kvs:=⟨o,b9 _ _ _⟩
theorem ai.ne{H:AH}{a b:Addr}{x:fc}{ds:List V}(h:ai H b ds)(n:b≠a):ai (H.set a x) b ds:=q4 h fun o e=>⟨o,(bj H x n).trans e⟩
theorem ax.ne{H:AH}{a b:Addr}{x:fc}{kvs:List (Int×V)}(h:ax H b kvs)(n:b≠a):ax (H.set a x) b kvs:=q4 h fun o e=>⟨o,(bj H x n).trans e⟩
theorem ai.fresh{H:AH}{a b:Addr}{x:fc}{ds:List V}(h:ai H b ds)(n:H a=none):ai (H.set a x) b ds:=h.ne fun q=>by refine q4 h fun o e=>?_;clear h;rw[q,n] at e;cases e
theorem ax.fresh{H:AH}{a b:Addr}{x:fc}{kvs:List (Int×V)}(h:ax H b kvs)(n:H a=none):ax (H.set a x) b kvs:=h.ne fun q=>by refine q4 h fun o e=>?_;clear h;rw[q,n] at e;cases e
theorem ai.ne_new{H:AH}{a b:Addr}{ds:List V}(h:ai H b ds)(n:H a=none):b≠a:=fun q=>by refine q4 h fun o e=>?_;clear h;rw[q,n] at e;cases e
theorem ax.ne_new{H:AH}{a b:Addr}{kvs:List (Int×V)}(h:ax H b kvs)(n:H a=none):b≠a:=fun q=>by refine q4 h fun o e=>?_;clear h;rw[q,n] at e;cases e
theorem aC.upd{H H':AH}{a:Addr}{x:fc}(e:aC H H')(n:H a=none):aC H (H'.set a x):=fun b nb=>by
 have:b≠a:=fun q=>by subst q;exact nb n
 rw[AH.set,if_neg this];exact e b nb
theorem aC.list{H H':AH}{a:Addr}{ds:List V}(e:aC H H')(h:ai H a ds):ai H' a ds:=q4 h fun o q=>⟨o,(e a (by rw[q];exact fun z=>nomatch z)).trans q⟩
theorem aC.dict{H H':AH}{a:Addr}{kvs:List (Int×V)}(e:aC H H')(h:ax H a kvs):ax H' a kvs:=q4 h fun o q=>⟨o,(e a (by rw[q];exact fun z=>nomatch z)).trans q⟩
theorem aC.none{H H':AH}{a:Addr}(e:aC H H')(n:H' a=none):H a=none:=by
 cases q:H a with
 | none=>rfl
 | some x=>rw[e a (by rw[q];exact fun z=>nomatch z),q] at n;cases n
section
variable {c:Cx} {f:Fx} {m:bL} {H:AH} {X:Value→AH→Prop} {Q:V→AH→Prop}
theorem j7{value slice:Expr}{p:Pos}(h:Ev c f value m H (fun o H₁=>Ev c f slice m H₁ (fun i H₂=>∃d,G2 c f H₂ o i d∧Q d H₂) X) X)
  (hs:∀o i,∃ops,subscripted slice false o i=operate ops (getItem o i):=by intro o i;exact⟨_,rfl⟩):Ev c f (.Subscript value slice p) m H Q X:=.mk fun s S=>by
 refine Subscript_ (wpAny_mono (h s S) (fun vo s₁ z=>?_) fun _ _ x=>x)
 refine mL z fun o H₁ t₁ i₁ S₁ q₁=>?_;clear z
 refine wpAny_mono (q₁ s₁ S₁) (fun vi s₂ z=>?_) fun _ _ x=>x
 refine X6 z fun i H₂ d t₂ i₂ S₂ g2 q=>?_;clear z
 refine q0 (g2 m s₂ vo vi S₂ (i₁.tk t₂) i₂) fun T id hT hl y=>?_
 refine q4 (hs vo vi) fun ops e=>?_
 refine tail_any hT hl (wpAny_mono y (fun v s₃ z=>?_) fun _ _ x=>x.elim) e
 refine uD z fun g hg ho i=>?_;clear z
 exact⟨t₁.trans (t₂.trans g.tk),d,_,i,S₂.grow g hg ho,q⟩
theorem y7{es:List Expr}{slice:Expr}{p p':Pos}{ds:List V}{i:Int}{j:Nat}{d:V}(K:cV c)(h:nG c f es m H ds)(hsz:ds.length≤sizeLine)(hi:∀H',aC H H'→Pe c f slice m H' (.int i))(hj:seqIndex? i ds.length=some j)(hd:ds[j]?=some d)(hf:-9223372036854775808≤i∧i<9223372036854775808)
  (hs:∀o i,∃ops,subscripted slice false o i=operate ops (getItem o i):=by intro o i;exact⟨_,rfl⟩):Pe c f (.Subscript (.List es p) slice p') m H d:=
 Pe.of_ext (j7 (cw K (h.nz ⟨hsz,fun a o n=>(hi _ (aC.set (aC.refl _) n)).ev ⟨d,bN (ai.same _ _ _ _) hj hd hf,rfl,aC.set (aC.refl _) n⟩⟩)) hs)
theorem ed{o e:Expr}{ap p p':Pos}{rest:List Stmt}{Q:Ko}{a:Addr}{ds:List V}{d:V}(ho:Pe c f o m H (.ref a))(he:Pe c f e m H d)(h:ai H a ds)(hsz:ds.length≤sizeLine)(k:∀o',Ex c f rest m (H.set a ⟨o',.list (ds++[d])⟩) Q)
  (dA:autoParam (attributeBase o (Str.ofString "append") f.env (eval o f.env)=eval o f.env) aR._auto_1) (ik:autoParam (starEach [e] f.env=(false,eval e f.env)::starEach [] f.env) aR._auto_1) (dY:autoParam ((ap.endLine == p.line)=true) aR._auto_1) (hi:autoParam (interactive f.env=false) aR._auto_1) (Gz:autoParam (swapsWith (.Call (.Attribute o (Str.ofString "append") ap) [e] [] p) none p'.line f.env=pure false) aR._auto_1) :
  Ex c f (.Expr (.Call (.Attribute o (Str.ofString "append") ap) [e] [] p) p'::rest) m H Q:=
 cv (hZ plainAttrs_list PySem.slot_list_append (ho.ev ⟨eO h,az (he.ev (bk (ql h hsz fun o'=>⟨fun h v i a e=>(by rw[aG i] at e;exact nomatch e),k o'⟩))) ik⟩) PySem.type_list_append dA (by rw[ik];rfl) dY ik rfl) hi Gz
end
end Mine
namespace Mine
open PySem PyProof.Rows PySem.Builtin PySem.W
section
variable {c:Cx} {f:Fx} {m:bL} {H:AH} {X:Value→AH→Prop} {Q:V→AH→Prop}
theorem Tp.of_ext{e:Expr}{P:Prop}(h:Ts c f e m H (fun b H'=>aC H H'∧(b=true↔P)) (fun _ _=>False)):Tp c f e m H P:=.mk fun s S=>
 wpAny_mono (h s S) (fun b s' C5=>q1 C5 fun H' S' x q=>⟨H,S.forget S' x,rfl,q⟩) fun _ _ C4=>q7 C4 fun _ _ _ _ _ _ z=>z.elim
theorem mE{x:Str}{p₁ p:Pos}{e:Expr}{T:String}{d:V}(K:cV c)(g:GN c x (.type T))(h1:Pe c f e m H d)(h:qk c f (fun vs=>call (.type T) vs) [d] m H Q X)(hg:autoParam (f.env.globals=mainGlobals) aR._auto_1)(hb:autoParam (f.env.builtins=builtinsNs) aR._auto_1)
  (hk:autoParam (f.env.scope.kind=.function) aR._auto_1) (hn:autoParam (f.env.kindOf x=some .globalImplicit) aR._auto_1) (hd:autoParam ((x == ("__debug__":Str))=false) aD._auto_1) (he:autoParam (starEach [e] f.env=(false,eval e f.env)::starEach [] f.env) aR._auto_1):Ev c f (.Call (.Name x p₁) [e] [] p) m H Q X:=
 qp ((bF K g hg hb hk hn hd).ev ⟨rfl,(au h1 aU he).nz h⟩) he rfl
theorem qg{l l':List Int}(h:l.length=l'.length):(List.range l.length).all (fun j=>l[j]? == l'[j]?)=decide (l=l'):=by
 rw[Bool.eq_iff_iff,List.all_eq_true,decide_eq_true_iff]
 constructor
 ·intro k
  refine List.ext_getElem? fun i=>?_
  by_cases q:i<l.length
  ·simpa using k i (List.mem_range.mpr q)
  ·rw[List.getElem?_eq_none (vD q),List.getElem?_eq_none (YR h q)]
 ·rintro rfl j _;simp
theorem sJ{l l':List Int}:∀(j:Nat) d₁ d₂,(l.map V.int)[j]?=some d₁→(l'.map V.int)[j]?=some d₂→kM 0 d₁ d₂ (l[j]? == l'[j]?):=fun j d₁ d₂ h₁ h₂=>by
 refine q2 (aI h₁) fun a ha KA=>?_;obtain rfl:=KA
 refine q2 (aI h₂) fun b hb Kz=>?_;obtain rfl:=Kz
 rw[ha,hb]
 have:(some a == some b)=(a == b):=by simp
 rw[this];exact kM.int a b
theorem ru{a b:Addr}{l l':List Int}(ha:ai H a (l.map V.int))(hb:ai H b (l'.map V.int))(hu:f.A.units+4<cLine):B2 c f H (compareOp .Eq) (.ref a) (.ref b) (.bool (decide (l=l'))):=by
 by_cases q:l.length=l'.length
 ·have:=VJ (c:=c) (f:=f) ha hb (by simpa using q) sJ (OT hu)
  rw[List.length_map,qg q] at this;exact this
 ·rw[decide_eq_false (fun e=>q (by rw[e]))]
  exact uz ha hb (by simpa using q) hu
theorem ig{a b:Addr}{l l':List Int}(ha:ai H a (l.map V.int))(hb:ai H b (l'.map V.int))(hu:f.A.units+4<cLine):B2 c f H (compareOp .NotEq) (.ref a) (.ref b) (.bool (!decide (l=l'))):=by
 by_cases q:l.length=l'.length
 ·have:=VH (c:=c) (f:=f) ha hb (by simpa using q) sJ (OT hu)
  rw[List.length_map,qg q] at this;exact this
 ·rw[decide_eq_false (fun e=>q (by rw[e]))]
  exact ux ha hb (by simpa using q) hu
theorem tN(kvs:List (Int×V)):(kvs.map fun p=>V.int p.1)=(kvs.map (·.1)).map V.int:=by rw[List.map_map];rfl
end
structure oA(kvs:List (Int×V))(rk:Int→Nat):Prop where
 ne:kvs≠[]
 bf:kvs.length≤40
 low:∀k,rk k≤40
 down:∀k d,aF kvs k=some d→d=.none∨∃b d',d=.int b∧aF kvs b=some d'∧rk b<rk k
inductive av(kvs:List (Int×V)):Int→List Int→Prop
 | stop {n:Int}:aF kvs n=some .none→av kvs n [n]
 | step {n b:Int} {xs:List Int}:aF kvs n=some (.int b)→av kvs b xs→av kvs n (n::xs)
noncomputable def vw:Option Int→V
 | some y=>.int y
 | none=>.none
theorem av.head{kvs:List (Int×V)}{n:Int}{xs:List Int}(h:av kvs n xs):∃r,xs=n::r:=by cases h <;> exact⟨_,rfl⟩
theorem av.next{kvs:List (Int×V)}{n:Int}{xs:List Int}(h:av kvs n xs):∀i x,xs[i]?=some x→aF kvs x=some (vw xs[i+1]?):=by
 induction h with
 | stop e=>intro i x hx;cases i with
  | zero=>simp at hx;subst hx;simpa[vw] using e
  | succ i=>simp at hx
 | step e h ih=>intro i x hx;cases i with
  | zero=>
   simp at hx;subst hx
   refine q4 (h.head) fun r Kx=>?_;obtain rfl:=Kx
   simpa[vw] using e
  | succ i=>simpa using ih i x (by simpa using hx)
theorem fL{kvs:List (Int×V)}{k:Int}{d:V}(h:aF kvs k=some d):(k,d)∈kvs:=by
 unfold aF at h
 cases q:kvs.find? (fun kv=>decide (kv.1=k)) with
 | none=>rw[q] at h;cases h
 | some x=>
  rw[q] at h;cases h
  have:=List.find?_some q
  have e:x.1=k:=by simpa using this
  have hm:=List.mem_of_find?_eq_some q
  obtain⟨a,b⟩:=x
  simp at e;subst e;exact hm
theorem bU{kvs:List (Int×V)}{k:Int}{d:V}(nd:(kvs.map (·.1)).Nodup)(h:(k,d)∈kvs):aF kvs k=some d:=by
 induction kvs with
 | nil=>cases h
 | cons x r ih=>
  obtain⟨k',d'⟩:=x
  simp only[List.map_cons,List.nodup_cons] at nd
  rcases List.mem_cons.mp h with h | h
  ·cases h;simp[aF]
  ·have de:k'≠k:=fun z=>nd.1 (by rw[z];exact List.mem_map.mpr ⟨(k,d),h,rfl⟩)
   have:=ih nd.2 h
   simp only[aF,List.find?,de,decide_false]
   exact this
theorem iO{kvs:List (Int×V)}{k:Int}(h:k∈kvs.map (·.1)):∃d,aF kvs k=some d:=by
 unfold aF
 cases q:kvs.find? (fun kv=>decide (kv.1=k)) with
 | none=>
  refine q2 (List.mem_map.mp h) fun x hx Ky=>?_;obtain rfl:=Ky
  have:=List.find?_eq_none.mp q x hx
  simp at this
 | some x=>exact⟨x.2,rfl⟩
end Mine
namespace Mine
open PySem PyProof.Rows PySem.Builtin PySem.W PySem.Calls
structure Vy(c:Cx)(K:Frag):Prop where
 cls:∀x C Vj newId,nsIn K mainGlobals x=some (some (.ref C))→excIn K C Vj newId=true→OwnCls x C Vj newId c.mg c.base
section
variable {c:Cx} {f:Fx} {m:bL} {H:AH} {X:Value→AH→Prop}
theorem mB{x:Str}{np Vf pos:Pos}{e:Expr}{rest:List Stmt}{Q:Ko}{d:V}{C:Addr}{Vj:List Value}{B newId Gw:String}(K:cV c)(O:OwnCls x C Vj newId c.mg c.base)(FB:ExcBaseFacts B newId Gw Vj)(hh:f.A.handled=none)(he:Pe c f e m H d)(q:Q (.exc (.ref C)) m H)
  (hg:autoParam (f.env.globals=mainGlobals) aR._auto_1) (hb:autoParam (f.env.builtins=builtinsNs) aR._auto_1) (hk:autoParam (f.env.scope.kind=.function) aR._auto_1) (hn:autoParam (f.env.kindOf x=some .globalImplicit) aR._auto_1) (hd:autoParam ((x == ("__debug__":Str))=false) aD._auto_1) (ik:autoParam (starEach [e] f.env=(false,eval e f.env)::starEach [] f.env) aR._auto_1) :
  Ex c f (.Raise (some (.Call (.Name x np) [e] [] Vf)) none pos::rest) m H Q:=.mk fun s S=>by
 refine q59 (O.obj) fun tl N nm qn bs hdct sn sub ab col dd k0 k1 k2 k3 k5 mN hC hN hni T=>?_
 refine wpAny_execs_cons (wpAny_Raise_call_subT (C:=C) (nm:=nm) (q:=qn) (N:=N) (bs:=bs) (bm:=tl) (hdct:=hdct) (sn:=sn) (sub:=sub) (ab:=ab) (col:=col) (dd:=dd) (k0:=k0) (k1:=k1) (k2:=k2) (k3:=k3) (k5:=k5)
  FB (mN:=mN) (T.hasType FB.hasBase) hh (by rw[ik];rfl) hni ?_)
 refine wpAny_mono ((bF (p:=np) (m:=m) (H:=H) K (.inl O.bound) hg hb hk hn hd) s S) (fun v s₁ z=>?_) fun _ _ z=>z.ex fun _ _ y=>y.elim
 refine jB z fun t₁ i₁ S₁=>?_;clear z
 obtain rfl:=aG i₁
 refine⟨rfl,?_⟩
 have ev:=(au he aU ik) Vf s₁ S₁
 rw[ik] at ev ⊢
 refine Calls.evalArgs_plain (wpAny_mono ev (fun vs s₂ z=>?_) fun _ _ z=>iY.ex z fun _ _ y=>y.elim)
 refine jB z fun t₂ i₂ S₂=>?_;clear z
 have hl:=i₂.length
 refine⟨rfl,by rw[hl];show 1≤sizeLine;decide,S₂.base _ _ hC,hN.keeps S₂.base,T.keeps S₂.base,fun h' e' M=>?_⟩
 have gr:aM s₂.heap h':=M.keeps
 refine q1 (M.there) fun t g1 g2 g3=>?_
 refine⟨.ref C,m,_,e',rfl,S₂.grow (s':={ s₂ with heap:=h' }) gr rfl rfl,⟨⟨S₂.old M.new,fun p hp z=>?_⟩,_,_,g1,rfl,rfl,⟨by simp,.inl rfl⟩,.inl rfl⟩,q⟩
 have:=(S₂.kp p hp).1
 rw[← z,M.new] at this;cases this
structure Hd(c:Cx)(f:Fx)(e:Addr)(C:Value)(hs:List ExceptHandler)(m:bL)(H:AH)(Q:Ko):Prop where
 mk::
 run:∀s,St c f m H s→mS f e C .none s.heap→wpAny c.M f.A (handleBy (.ref e) f.env hs) (xo c f Q) (iT c f Q) s
theorem zg{body:List Stmt}{h₀:ExceptHandler}{hs:List ExceptHandler}{p:Pos}{Q:Ko}(O:iw f)(hb:Ex c f body m H (fun o m' H'=>match o with | .exc C=>∀e,Hd c f e C (h₀::hs) m' H' Q | o=>Q o m' H')):HY c f (.Try body (h₀::hs) [] [] p) m H Q:=.mk fun s S=>by
 refine wpAny_Try_except (wpAny_mono (hb s S) (fun fl s₁ z=>?_) fun x s₁ z=>?_)
 ·refine q8 z fun o m' H' fi S' q=>?_;clear z
  cases fl with
  | next=>cases fi;exact wpAny_execs_nil ⟨_,m',H',rfl,S',q⟩
  | ret v=>refine q2 fi fun d Kw i=>?_;clear fi;obtain rfl:=Kw;exact⟨_,m',H',⟨d,rfl,i⟩,S',q⟩
  | _=>cases fi;exact⟨_,m',H',rfl,S',q⟩
 ·refine Hx z fun C m' H' e Kv S' F q=>?_;clear z;obtain rfl:=Kv
  exact nU O S' F fun s₂ S₂ F₂=>jX (fr:=none) S₂ F₂ fun s₃ S₃ F₃=>(q e).run s₃ S₃ F₃
end
end Mine
namespace Mine
open PySem PyProof.Rows PySem.Builtin PySem.W PySem.Calls
section
variable {c:Cx} {f:Fx} {m:bL} {H:AH}
theorem ze{body rest:List Stmt}{h₀:ExceptHandler}{hs:List ExceptHandler}{p:Pos}{Q:Ko}(O:iw f)(I:bL→AH→Prop)(hb:Ex c f body m H (fun o m' H'=>match o with | .exc C=>∀e,Hd c f e C (h₀::hs) m' H' (fun o m' H'=>o=.next∧I m' H') | o=>o=.next∧I m' H'))
  (k:∀m' H',I m' H'→Ex c f rest m' H' Q):Ex c f (.Try body (h₀::hs) [] [] p::rest) m H Q:=
 sY (Q₁:=fun o m' H'=>o=.next∧I m' H') (zg O hb) (fun m' H' z=>k m' H' z.2) (fun _ _ z=>nomatch z.1) (fun _ _ z=>nomatch z.1) (fun _ _ _ z=>nomatch z.1) (fun _ _ _ z=>nomatch z.1)
end
end Mine
namespace Mine
open PySem
noncomputable def cp:List Int→List Int→Nat
 | x::xs,y::ys=>if x=y then cp xs ys+1 else 0
 | _,_=>0
theorem GV(l:List Int):cp l []=0:=by cases l <;> rfl
theorem gm:∀(x y:List Int),cp x y=cp y x
 | [],y=>by rw[GV];cases y <;> rfl
 | a::x,[]=>rfl
 | a::x,b::y=>by
  simp only[cp]
  by_cases h:a=b
  ·rw[if_pos h,if_pos h.symm,gm x y]
  ·rw[if_neg h,if_neg (fun e=>h e.symm)]
theorem eY:∀(x y:List Int),cp x y≤x.length
 | [],y=>by cases y <;> exact Nat.le_refl _
 | a::x,[]=>Nat.zero_le _
 | a::x,b::y=>by
  simp only[cp]
  split
  ·have:=eY x y;simp;exact Tt this
  ·exact Nat.zero_le _
theorem eR(x y:List Int):cp x y≤y.length:=gm x y▸eY y x
theorem ox:∀(x:List Int),cp x x=x.length
 | []=>rfl
 | a::x=>by simp[cp,ox x]
theorem g7:∀(x y z:List Int),min (cp x y) (cp y z)≤cp x z
 | [],y,z=>by have:=eY [] y;simp at this;exact YQ this
 | a::x,[],z=>by simp[cp]
 | a::x,b::y,[]=>by simp[cp]
 | a::x,b::y,d::z=>by
  simp only[cp]
  have:=g7 x y z
  by_cases h1:a=b
  ·subst h1
   by_cases h2:a=d
   ·subst h2;simp only[if_true];exact YK this
   ·simp[h2]
  ·simp[h1]
theorem hY:∀(x y:List Int) (n:Nat),n≤cp x y→x.take n=y.take n
 | x,y,0,_=>by simp
 | [],y,n+1,h=>by have:=eY [] y;simp at this;exact(YP h this).elim
 | a::x,[],n+1,h=>by simp[cp] at h
 | a::x,b::y,n+1,h=>by
  simp only[cp] at h
  split at h
  ·rename_i e;subst e
   rw[List.take_succ_cons,List.take_succ_cons,hY x y n (Gh h)]
  ·exact(YN h).elim
theorem mq:∀(x y:List Int) (n:Nat),n≤x.length→n≤y.length→x.take n=y.take n→n≤cp x y
 | x,y,0,_,_,_=>Nat.zero_le _
 | [],y,n+1,h,_,_=>by simp at h
 | a::x,[],n+1,_,h,_=>by simp at h
 | a::x,b::y,n+1,h1,h2,e=>by
  simp only[List.take_succ_cons,List.cons.injEq] at e
  simp only[List.length_cons] at h1 h2
  simp only[cp,e.1,if_true]
  have:=mq x y n (Gh h1) (Gh h2) e.2
  exact NU this
theorem yW(p q:List Int)(v:Int):(cp p (q++[v])=q.length+1∧cp p q=q.length∧p[q.length]?=some v)∨(cp p (q++[v])=cp p q∧¬(q.length+1≤cp p (q++[v]))):=by
 have h1:cp p (q++[v])≤q.length+1:=by have:=eR p (q++[v]);simpa using this
 have hge:cp p q≤cp p (q++[v]):=mq _ _ _ (eY _ _) (by have:=eR p q;simp;exact qO this) (by
  rw[hY p q _ (Nat.le_refl _),List.take_append_of_le_length (eR p q)])
 by_cases h:cp p (q++[v])=q.length+1
 ·left
  have ht:=hY p (q++[v]) _ (Nat.le_refl _)
  rw[h,List.take_of_length_le (l:=q++[v]) (by simp)] at ht
  have hp:q.length+1≤p.length:=by have:=eY p (q++[v]);exact YO h this
  refine⟨h,?_,?_⟩
  ·have:q.length≤cp p q:=mq _ _ _ (YM hp) (Nat.le_refl _) (by
    have e2:=congrArg (List.take q.length) ht
    rw[List.take_take,Nat.min_eq_left (YL),List.take_left'] at e2
    ·rw[e2,List.take_of_length_le (Nat.le_refl _)]
    ·rfl)
   have:=eR p q;exact Nc (by assumption) this
  ·have e2:(p.take (q.length+1))[q.length]?=(q++[v])[q.length]?:=by rw[ht]
   rw[List.getElem?_take,if_pos (MY)] at e2
   rw[e2];simp
 ·right
  refine⟨?_,by exact YJ h1 h⟩
  have h2:cp p (q++[v])≤q.length:=by exact vy h1 h
  have:cp p (q++[v])≤cp p q:=mq _ _ _ (eY _ _) h2 (by
   rw[hY p (q++[v]) _ (Nat.le_refl _),List.take_append_of_le_length h2])
  exact Nc hge this
structure bO(kvs:List (Int×V))(pt:Int→List Int):Prop where
 root:∀v,aF kvs v=some .none→pt v=[v]
 step:∀v b,aF kvs v=some (.int b)→pt v=pt b++[v]
 key:∀v d,aF kvs v=some d→d=.none∨∃b d',d=.int b∧aF kvs b=some d'
 len:∀v d,aF kvs v=some d→(pt v).length≤41
noncomputable def ds(pt:Int→List Int)(u v:Int):Nat:=(pt u).length+(pt v).length-2*cp (pt u) (pt v)
theorem gj(pt:Int→List Int)(u v:Int):ds pt u v=ds pt v u:=by unfold ds;rw[gm];exact YE
theorem jF(pt:Int→List Int)(u:Int):ds pt u u=0:=by unfold ds;rw[ox];exact YH
theorem kZ{a b p q:Nat}(h:p≤a)(k:q≤b):(a-p)+(b-q)=(a+b)-(p+q):=by exact YC h k
theorem jP{n a b:Nat}(h1:n≤a)(h2:n≤b):2*n≤a+b:=by exact YI h1 h2
theorem rx{a b d e:Nat}(h:a+b≤d+e):2*a+2*b≤2*d+2*e:=by exact YF h
theorem ub{n0 n3 n6 n7 n8 n9:Nat}(h8:min n0 n7≤n8)(B4:min n6 n3≤n8)(h9:min n0 n6≤n9)(UY:min n7 n3≤n9):n0+n3≤n8+n9∨n6+n7≤n8+n9:=by
 rcases Nat.le_total n0 n7 with a | a
 ·rw[Nat.min_eq_left a] at h8
  rcases Nat.le_total n7 n3 with b | b
  ·rw[Nat.min_eq_left b] at UY
   rcases Nat.le_total n6 n3 with d | d
   ·rw[Nat.min_eq_left d] at B4
    exact .inr (Nat.add_le_add B4 UY)
   ·rw[Nat.min_eq_right d] at B4
    exact .inl (Nat.add_comm n8 n9▸Nat.add_le_add (Nat.le_trans a UY) B4)
  ·rw[Nat.min_eq_right b] at UY
   exact .inl (Nat.add_le_add h8 UY)
 ·rw[Nat.min_eq_right a] at h8
  rcases Nat.le_total n0 n6 with b | b
  ·rw[Nat.min_eq_left b] at h9
   rcases Nat.le_total n6 n3 with d | d
   ·rw[Nat.min_eq_left d] at B4
    exact .inr (Nat.add_le_add B4 (Nat.le_trans a h9))
   ·rw[Nat.min_eq_right d] at B4
    exact .inl (Nat.add_comm n8 n9▸Nat.add_le_add h9 B4)
  ·rw[Nat.min_eq_right b] at h9
   exact .inr (Nat.add_comm n8 n9▸Nat.add_le_add h9 h8)
theorem ua(a b d e:Nat):a+b+(d+e)=a+e+(b+d):=by exact YG
theorem sL(pt:Int→List Int)(x y z w:Int):ds pt x y+ds pt z w≤max (ds pt x z+ds pt y w) (ds pt x w+ds pt y z):=by
 unfold ds
 have u1:=g7 (pt x) (pt z) (pt y);rw[gm (pt z) (pt y)] at u1
 have u2:=g7 (pt x) (pt w) (pt y);rw[gm (pt w) (pt y)] at u2
 have u3:=g7 (pt z) (pt x) (pt w);rw[gm (pt z) (pt x)] at u3
 have u4:=g7 (pt z) (pt y) (pt w);rw[gm (pt z) (pt y)] at u4
 rw[kZ (jP (eY (pt x) (pt y)) (eR (pt x) (pt y))) (jP (eY (pt z) (pt w)) (eR (pt z) (pt w)))]
 rcases ub u1 u2 u3 u4 with h | h
 ·refine Nat.le_trans ?_ (Nat.le_max_left _ _)
  rw[kZ (jP (eY (pt x) (pt z)) (eR (pt x) (pt z))) (jP (eY (pt y) (pt w)) (eR (pt y) (pt w))),Nat.add_add_add_comm]
  exact Nat.sub_le_sub_left (rx h) _
 ·refine Nat.le_trans ?_ (Nat.le_max_right _ _)
  rw[kZ (jP (eY (pt x) (pt w)) (eR (pt x) (pt w))) (jP (eY (pt y) (pt z)) (eR (pt y) (pt z))),ua]
  exact Nat.sub_le_sub_left (rx h) _
section
variable {kvs:List (Int×V)} {pt:Int→List Int}
noncomputable def aJ(kvs:List (Int×V))(v:Int):Prop:=∃d,aF kvs v=some d
noncomputable def bJ(pt:Int→List Int)(u v:Int):Prop:=1≤cp (pt u) (pt v)
theorem bJ.symm{u v:Int}(h:bJ pt u v):bJ pt v u:=by unfold bJ at *;rwa [gm]
theorem bJ.trans{u v w:Int}(h:bJ pt u v)(k:bJ pt v w):bJ pt u w:=by unfold bJ at *;have:=g7 (pt u) (pt v) (pt w);exact YD h k this
theorem bO.ne(P:bO kvs pt){v:Int}(h:aJ kvs v):1≤(pt v).length:=by
 refine q4 h fun d zO=>?_;clear h;have h:=zO;clear zO
 rcases P.key v d h with rfl | ⟨b,d',rfl,_⟩
 ·rw[P.root v h];simp
 ·rw[P.step v b h];simp
theorem bO.self(P:bO kvs pt){v:Int}(h:aJ kvs v):bJ pt v v:=by unfold bJ;rw[ox];exact P.ne h
theorem bO.last(P:bO kvs pt){v:Int}(h:aJ kvs v):(pt v)[(pt v).length-1]?=some v:=by
 refine q4 h fun d zN=>?_;clear h;have h:=zN;clear zN
 rcases P.key v d h with rfl | ⟨b,d',rfl,_⟩
 ·rw[P.root v h];rfl
 ·rw[P.step v b h];simp
theorem bO.inj(P:bO kvs pt){u v:Int}(hu:aJ kvs u)(hv:aJ kvs v)(e:pt u=pt v):u=v:=by
 have h1:=P.last hu
 have h2:=P.last hv
 rw[e,h2] at h1;injection h1 with h1;exact h1.symm
noncomputable def Nb(kvs:List (Int×V))(v w:Int):Prop:=aF kvs v=some (.int w)∨aF kvs w=some (.int v)
theorem bO.up(P:bO kvs pt){u v b:Int}(h:aF kvs v=some (.int b)):(ds pt u v+1=ds pt u b∧cp (pt u) (pt v)=(pt v).length)∨(ds pt u v=ds pt u b+1∧cp (pt u) (pt v)=cp (pt u) (pt b)):=by
 have e:=P.step v b h
 have l1:=eY (pt u) (pt b)
 have l2:=eR (pt u) (pt b)
 have l3:=eY (pt u) (pt v)
 have el:(pt v).length=(pt b).length+1:=by rw[e];simp
 rcases yW (pt u) (pt b) v with ⟨q1,q2,_⟩ | ⟨q1,q2⟩
 ·left
  rw[← e] at q1
  unfold ds;exact Yu l3 el q1 q2
 ·right
  rw[← e] at q1
  unfold ds;exact Yn l1 l2 el q1
theorem bO.near(P:bO kvs pt){u v w:Int}(h:Nb kvs v w):ds pt u v+1=ds pt u w∨ds pt u v=ds pt u w+1:=by
 rcases h with h | h
 ·rcases P.up (u:=u) h with ⟨q,_⟩ | ⟨q,_⟩ <;> first | exact YB q | exact YA q
 ·rcases P.up (u:=u) h with ⟨q,_⟩ | ⟨q,_⟩ <;> first | exact Yy q | exact Yx q
theorem bO.v7(P:bO kvs pt){v w:Int}(h:Nb kvs v w):aJ kvs v∧aJ kvs w:=by
 rcases h with h | h
 ·refine⟨⟨_,h⟩,?_⟩
  rcases P.key _ _ h with e | ⟨b,d',e,k⟩
  ·cases e
  ·cases e;exact⟨d',k⟩
 ·refine⟨?_,⟨_,h⟩⟩
  rcases P.key _ _ h with e | ⟨b,d',e,k⟩
  ·cases e
  ·cases e;exact⟨d',k⟩
theorem bO.qP(P:bO kvs pt){v w:Int}(h:Nb kvs v w):bJ pt v w:=by
 have key:∀ {a b:Int},aF kvs a=some (.int b)→bJ pt a b:=fun {a b} h=>by
  have e:=P.step a b h
  have kb:aJ kvs b:=by
   rcases P.key _ _ h with e | ⟨b,d',e,k⟩
   ·cases e
   ·cases e;exact⟨d',k⟩
  have:=P.ne kb
  refine mq _ _ 1 (by rw[e];simp) this ?_
  rw[e,List.take_append_of_le_length this]
 rcases h with h | h
 ·exact key h
 ·exact(key h).symm
theorem bO.on(P:bO kvs pt):∀(n:Nat) {v:Int},(pt v).length=n→aJ kvs v→∀i x,(pt v)[i]?=some x→aJ kvs x∧pt x=(pt v).take (i+1):=by
 intro n
 induction n with
 | zero=>intro v hn hv;have:=P.ne hv;exact(Yz hn this).elim
 | succ n ih=>
  intro v hn hv i x hx
  refine q4 (id hv) fun d h=>?_
  rcases P.key v d h with rfl | ⟨b,d',rfl,hb⟩
  ·have e:=P.root v h
   rw[e] at hx hn ⊢
   cases i with
   | zero=>simp at hx;subst hx;exact⟨hv,by rw[e];rfl⟩
   | succ i=>simp at hx
  ·have e:=P.step v b h
   have hbl:(pt b).length=n:=by rw[e] at hn;simpa using hn
   by_cases q:i<(pt b).length
   ·rw[e,List.getElem?_append_left q] at hx
    refine q3 (ih hbl ⟨d',hb⟩ i x hx) fun k1 k2=>?_
    exact⟨k1,by rw[k2,e,List.take_append_of_le_length (vx q)]⟩
   ·have hi:i=(pt b).length:=by
     have:=(List.getElem?_eq_some_iff.mp hx).1
     rw[e] at this;simp at this;exact Yw q this
    subst hi
    rw[e] at hx
    simp at hx;subst hx
    exact⟨hv,by rw[List.take_of_length_le (by rw[e];simp)]⟩
theorem bO.closer(P:bO kvs pt){u v:Int}(hu:aJ kvs u)(hv:aJ kvs v)(hs:bJ pt u v)(de:u≠v):∃w,Nb kvs v w∧ds pt u w+1=ds pt u v:=by
 by_cases full:cp (pt u) (pt v)=(pt v).length
 ·have l1:=eY (pt u) (pt v)
  have cA:(pt v).length<(pt u).length:=by
   apply Classical.byContradiction;intro hn
   have e:pt u=pt v:=by
    have:=hY (pt u) (pt v) _ (Nat.le_refl _)
    rw[full,List.take_of_length_le (vD hn),List.take_of_length_le (Nat.le_refl _)] at this
    exact this
   exact de (P.inj hu hv e)
  obtain⟨x,hx⟩:∃x,(pt u)[(pt v).length]?=some x:=⟨_,List.getElem?_eq_getElem cA⟩
  refine q3 (P.on _ rfl hu _ x hx) fun kx px=>?_
  have pv:pt v=(pt u).take (pt v).length:=by
   have:=hY (pt u) (pt v) _ (Nat.le_refl _)
   rw[full,List.take_of_length_le (Nat.le_refl (pt v).length)] at this
   exact this.symm
  have pxv:pt x=pt v++[x]:=by
   rw[px,List.take_add_one,hx,← pv];rfl
  have xl:(pt x).length=(pt v).length+1:=by rw[pxv];simp
  refine q4 (id kx) fun dx qy=>?_
  rcases P.key x dx qy with rfl | ⟨b,d',rfl,hb⟩
  ·have h2:=congrArg List.length (P.root x qy)
   have:=P.ne hv
   simp at h2;exact(Yv xl this h2).elim
  ·have e:=P.step x b qy
   rw[pxv] at e
   have ebv:pt v=pt b:=List.append_cancel_right e
   have:v=b:=P.inj hv ⟨d',hb⟩ ebv
   subst this
   refine⟨x,.inr qy,?_⟩
   rcases P.up (u:=u) qy with ⟨q,_⟩ | ⟨_,q2⟩
   ·exact q
   ·have:(pt x).length≤cp (pt u) (pt x):=mq _ _ _ (Yt cA xl) (Nat.le_refl _) (by rw[List.take_of_length_le (l:=pt x) (Nat.le_refl _),xl];exact px.symm)
    exact Ys full xl q2 this
 ·refine q4 (id hv) fun d h=>?_
  rcases P.key v d h with rfl | ⟨b,d',rfl,hb⟩
  ·have e:=P.root v h
   have:cp (pt u) (pt v)≤1:=by have:=eR (pt u) (pt v);rw[e] at this ⊢;simpa using this
   unfold bJ at hs
   rw[e] at full hs this;simp at full;exact(Yq hs this full).elim
  ·refine⟨b,.inl h,?_⟩
   rcases P.up (u:=u) h with ⟨_,q⟩ | ⟨q,_⟩
   ·exact(full q).elim
   ·exact Yp q
end
end Mine
namespace Mine
open PySem PyProof.Rows PySem.Builtin PySem.W PySem.Calls
section
variable {prog:Program} {w:World} {A:Around} {E:Value→Shared→Prop} {s:Shared} {T:String} {r d:Addr} {n:Nat} {P:Nat→Value→Prop} {OK:Heap→Prop}
theorem qc{Q:List Value→Shared→Prop}(K:KdlSrc prog w T r d n P OK)(hh:A.handled=none)(Wq:OK s.heap)(hn:n≤sizeLine)(h:∀h' tk acc,aM s.heap h'→ItemsOf P acc n→Q acc.toList { s with heap:=h',toks:=tk }):
  wpAny (model prog w) A (collect (.ref r)) Q E s:=by
 unfold collect
 refine wpAny_bind (wpAny_runValue (codeAny_builtin entry_proto_collect' ?_))
 show wpAny _ _ (do again (.builtin "list.__iadd__" ⟨[← newList [],.ref r],[]⟩)) _ _ s
 refine wpAny_bind (wpAny_newList (wpAny_pure ⟨Code.quiet_builtin _ (by decide +kernel),codeAny_builtin entry_list_iadd' ?_⟩))
 refine q3 (K.there _ Wq) fun hr hd=>?_
 have gp:aM s.heap (s.heap.push { cls:=.type "list",data:=.seq #[] }):=aM.push _ _
 have eA:A.under (Code.builtin "list.__iadd__" { pos:=[Value.ref s.heap.objs.size,Value.ref r] })=A.in1:=by first | rfl | kernel_rfl
 rw[eA]
 refine kdl_extend (R:=fun r s'=>match r with
  | .ok (.ret v)=>wpAny (model prog w) A (match v with
   | .ref a => do
    let o ← load a
    match o.data with
    | .seq xs _=>pure xs.toList
    | _=>unsupported "internal:collect"
   | _=>unsupported "internal:collect") Q E s'
  | .ok _=>False
  | .error e=>E e s') (A:=A) (s:={ s with heap:=s.heap.push { cls:=.type "list",data:=.seq #[] } }) K hh (K.keep _ _ Wq fun b _ o e=>gp b o e) s.heap.objs.size (Nat.ne_of_gt hr) (Nat.ne_of_gt hd) (.ref s.heap.objs.size) 0 (Heap.get?_push_size _ rfl) (fun h' tk acc c' hk hS hi=>?_) hn
 show wpAny (model prog w) A (do
   let o ← load s.heap.objs.size
   match o.data with
   | .seq xs _=>pure xs.toList
   | _=>unsupported "internal:collect") Q E { s with heap:=h',toks:=tk }
 refine wpAny_bind (wpAny_load hS ?_)
 exact wpAny_pure (h h' tk acc (fun b o e=>hk b o (fun z=>by rw[z,c9] at e;cases e) (gp b o e)) hi)
theorem qI{ns:List Int}{Q:Value→Shared→Prop}(K:KdlSrc prog w T r d n P OK)(hh:A.handled=none)(Wq:OK s.heap)(hI:∀acc:Array Value,ItemsOf P acc n→IntsAre acc.toList ns)(UZ:n<64)
  (h:∀h' tk a o (out:List Value) (v3:List Int),aM s.heap h'→s.heap.get? a=none→(∀b o,s.heap.get? b=some o→b<a)→h'.get? a=some o→PlainL h' a out.toArray→IntsAre out v3→v3.Perm ns→v3.Pairwise (·≤·)→Q (.ref a) { s with heap:=h',toks:=tk }) :
  wpAny (model prog w) A (call (.builtin "sorted") [.ref r]) Q E s:=by
 refine Calls.call_function_entry kind_sorted plain_sorted entry_sorted (args_sorted1 _) ?_
 unfold Builtin.«sorted»
 refine wpAny_bind (m:=checkCount "sorted" 1 1 _) (wpAny_pure ?_)
 refine wpAny_bind (qc K hh Wq (Nat.le_trans (Nat.le_of_lt UZ) (by decide)) fun h₁ tk acc g₁ hi=>?_)
 have hl:acc.toList.length=n:=by simpa using hi.1
 refine wpAny_bind (wpAny_newList ?_ (hsz:=by rw[hl];exact Nat.le_trans (Nat.le_of_lt UZ) (by decide)))
 have hoL:(h₁.push (seqObj "list" acc.toList.toArray 0)).get? h₁.objs.size=some (seqObj "list" acc.toList.toArray 0):=Heap.get?_push_size _ rfl
 refine wpAny_bind (wpAny_holding (wpAny_call_entry slot_list_sort ⟨_,hoL,rfl⟩ entry_list_sort (list_sort_tree hoL (hI acc hi) (ML UZ hl) fun out v3 a1 a2 a3=>⟨_,rfl,?_⟩) (args_list_sort _)))
 refine q4 (sortedHeap_at (out:=out) hoL) fun e he=>?_
 have Uz:s.heap.get? h₁.objs.size=none:=by
  cases q:s.heap.get? h₁.objs.size with
  | none=>rfl
  | some o=>exact absurd (Heap.lt_size (g₁ _ _ q)) (Nat.lt_irrefl _)
 refine wpAny_pure ⟨_,rfl,h _ _ h₁.objs.size _ out.toList v3 (fun b o eb=>?_) Uz (fun b o eb=>Heap.lt_size (g₁ _ _ eb)) he ⟨_,e,he,rfl,rfl,by simp⟩ a1 a2 a3⟩
 have hb:=g₁ b o eb
 have cA:=Heap.lt_size hb
 rw[sortedHeap_old (Nat.ne_of_lt cA) (by rw[Heap.size_push];exact Nat.lt_succ_of_lt cA)]
 exact Heap.get?_push_of_some _ hb
end
end Mine
namespace Mine
open PySem PyProof.Rows PySem.Builtin PySem.W PySem.Calls
theorem dX{h:Heap}:∀ {l:List Int} {vs:List Value},aA h (l.map V.int) vs→IntsAre vs l
 | [],vs,i=>by simp only[List.map_nil,aA] at i;subst i;exact .nil
 | a::l,vs,i=>by
  simp only[List.map_cons,aA] at i
  refine z4 (d0:=vs) i fun v r j k=>?_;clear i
  refine q4 (aY j) fun t Ku=>?_;obtain rfl:=Ku
  exact .cons _ _ (dX k)
theorem jc{h:Heap}:∀ {l:List Int} {vs:List Value},IntsAre vs l→aA h (l.map V.int) vs:=by
 intro l vs k;induction k with
 | nil=>exact dJ _
 | cons _ _ _ ih=>exact cZ cI ih
section
variable {c:Cx} {f:Fx} {m:bL} {H:AH} {X:Value→AH→Prop} {Q:V→AH→Prop}
theorem w3{s:Shared}(K:cV c)(S:St c f m H s){a:Addr}(h:∀b o,s.heap.get? b=some o→b<a):cStatics<a:=by
 refine q2 (K.lim) fun mc Kt _=>?_;obtain⟨o,_,_,g,_⟩:=Kt
 exact h _ _ (S.base _ _ g)
theorem cK{a:Addr}{kvs:List (Int×V)}(K:cV c)(hh:f.A.handled=none)(h:ax H a kvs)(UZ:kvs.length<64)(q:∀b o (aX:List Int),H b=none→aX.Perm (kvs.map (·.1))→aX.Pairwise (·≤·)→Q (.ref b) (H.set b ⟨o,.list (aX.map V.int)⟩)):qk c f (fun vs=>call (.builtin "sorted") vs) [.ref a] m H Q X:=.mk fun s vs S ia=>by
 simp only[aA] at ia;refine uC (d0:=vs) ia fun v i=>?_;clear ia
 obtain rfl:=aG i
 have ns:(a == sysModules)=false:=q4 h fun o e=>jT S e
 refine q4 h fun o eo=>?_;clear h
 refine Mz (S.rep.dict eo) fun kv es ep g c1 c2 c3 c4 c5 p ia=>?_
 have hm:s.heap.DictAt (intKind c.prog c.w) a kv ep:=⟨o,es,g,c1,c2,c3,c4,c5⟩
 have el:kv.length=kvs.length:=by have:=congrArg List.length p;simpa using this
 refine qI (ns:=kvs.map (·.1)) (kdl_dict (knd:=intKind c.prog c.w) (kvs:=kv) (ep:=ep) ns) hh hm (fun acc hi=>?_) (ML UZ el) fun h' tk b ob out aX gr hn hb gb pl hI hp hs=>?_
 ·rw[← p]
  have key:∀(l:List Value) (ks:List Int),l.length=ks.length→(∀(j:Nat) v,l[j]?=some v→∃k,ks[j]?=some k∧∃t,v=Value.int k t)→IntsAre l ks:=by
   intro l
   induction l with
   | nil=>intro ks hl _;cases ks with
    | nil=>exact .nil
    | cons _ _=>simp at hl
   | cons v l ih=>intro ks hl hk;cases ks with
    | nil=>simp at hl
    | cons k ks=>
     refine q57 (hk 0 v rfl) fun k' t e' Kn=>?_;obtain rfl:=Kn
     simp at e';subst e'
     exact .cons _ _ (ih ks (by simpa using hl) fun j v hj=>by simpa using hk (j+1) v (by simpa using hj))
  refine key _ _ (by simp[hi.1]) fun j v hj=>?_
  refine i4 (hi.2 j v (by simpa using hj)) fun k x e1 e3=>?_
  refine⟨k,by rw[List.getElem?_map,e1];rfl,?_⟩
  cases v with
  | int k' t=>simp[intKind,Value.isInt] at e3;exact⟨t,by rw[e3]⟩
  | _=>simp[intKind,Value.isInt] at e3
 ·have hHb:H b=none:=by
   cases e:H b with
   | none=>rfl
   | some x=>refine q2 ((S.rep _ _ e).obj) fun o' e' _=>?_;rw[hn] at e';cases e'
  exact⟨gr.tk,.ref b,_,br,S.alloc (s':={ s with heap:=h',toks:=tk }) (x:=⟨ob,.list (aX.map V.int)⟩) gr rfl rfl hn (w3 K S hb) ⟨gb,out,pl,jc hI⟩,q _ _ _ hHb hp hs⟩
theorem su{l:List Int}{i:Nat}(h:i<l.length):l.getD i 0∈l:=by rw[List.getD_eq_getElem?_getD,List.getElem?_eq_getElem h];exact List.getElem_mem h
theorem w9{a:Addr}{l:List Int}{M:Int}(hh:f.A.handled=none)(h:ai H a (l.map V.int))(h1:M∈l)(h2:∀x∈l,x≤M):BN c f H (fun vs=>call (.builtin "max") vs) [.ref a] (.int M):=.mk fun m s vs S ia=>by
 simp only[aA] at ia;refine uC (d0:=vs) ia fun v i=>?_;clear ia
 obtain rfl:=aG i
 refine q2 (S.rep.plain h) fun us Kq ja=>?_;obtain⟨o,n,g,cl,dn,dt⟩:=Kq
 have hi:=dX ja
 refine q4 (hi.allInts.items) fun xs e=>?_
 have hns:l=xs.toList.map (·.1):=by rw[← hi.numsOf,← nums_intItems,← e]
 have hl:s.heap.IsList a (intItems xs):=e▸⟨o,g,cl,n,dt⟩
 have hsz:0<xs.size:=by
  have:0<l.length:=List.length_pos_iff.mpr (fun z=>by rw[z] at h1;cases h1)
  rw[hns,List.length_map,Array.length_toList] at this;exact this
 refine max_intList hh hl hsz fun v h' tk hv hk=>?_
 refine q4 (intItems_at hv) fun t Kp=>?_;obtain rfl:=Kp
 refine q3 (argBest_gt (numAt xs) (xs.size-1)) fun q1 q2=>?_
 have hb:numAt xs (argBest (fun i j=>decide (numAt xs i > numAt xs j)) (xs.size-1))=M:=by
  apply Int.le_antisymm
  ·apply h2
   rw[hns,numAt_eq];exact su (by rw[List.length_map,Array.length_toList];exact Yr hsz q1)
  ·rw[hns] at h1
   obtain⟨j,hj,e1⟩:=List.getElem_of_mem h1
   have Wv:j<xs.size:=by simpa using hj
   have:=q2 j (Yo Wv)
   rw[numAt_eq,List.getD_eq_getElem?_getD,List.getElem?_eq_getElem hj] at this
   simp only[Option.getD_some] at this
   rw[e1] at this;exact this
 rw[hb]
 exact⟨hk,rfl,rfl,cI⟩
theorem qw{a:Addr}{l:List Int}{k:Int}(h:ai H a (l.map V.int)):B2 c f H (compareOp .In) (.int k) (.ref a) (.bool (decide (k∈l))):=.mk fun m s v₁ v₂ S i₁ i₂=>by
 refine q4 (aY i₁) fun t Ks=>?_;obtain rfl:=Ks;obtain rfl:=aG i₂
 refine q2 (S.rep.plain h) fun us Kr ja=>?_;obtain⟨o,n,g,cl,dn,dt⟩:=Kr
 have hi:=dX ja
 refine SeqInW.in_listW (items:=us.toArray) (isInt k) (fun y hy=>eq_isInt k t hi y (by simpa using hy)) ⟨o,g,cl,n,dt⟩ ⟨aM.refl _,rfl,rfl,?_⟩
 have:us.toArray.any (isInt k)=decide (k∈l):=by
  have e1:us.toArray.any (isInt k)=us.any (isInt k):=by simp
  rw[e1,any_isInt k hi,Bool.eq_iff_iff,List.any_eq_true,decide_eq_true_iff]
  exact⟨fun C3=>q2 C3 fun x hx e=>by rw[beq_iff_eq] at e;exact e▸hx,fun hx=>⟨k,hx,beq_self_eq_true k⟩⟩
 rw[this];exact br
theorem oG{a:Addr}{l:List Int}{k:Int}{j:Nat}(h:ai H a (l.map V.int))(hj:l[j]?=some k)(oU:∀i,i<j→l[i]?≠some k)(hsz:l.length≤sizeLine):BN c f H (fun vs=>call (.builtin "list.index") vs) [.ref a,.int k] (.int j):=.mk fun m s vs S ia=>by
 simp only[aA] at ia;refine vh (d0:=vs) ia fun v v' i i'=>?_;clear ia
 obtain rfl:=aG i;refine q4 (aY i') fun t Km=>?_;obtain rfl:=Km
 refine q2 (S.rep.plain h) fun us Kl ja=>?_;obtain⟨⟨ocl,odd,od,osl⟩,n,g,cl,dn,dt⟩:=Kl
 have hi:=dX ja
 have el:=du hi
 have Wu:=(List.getElem?_eq_some_iff.mp hj).1
 dsimp only at cl dt
 subst cl;subst dt
 have at':∀(q:Nat) (hq:q<us.toArray.size),isInt k us.toArray[q]=(l[q]? == some k):=fun q hq=>by
  have hq':q<l.length:=by rw[← el];simpa using hq
  refine q4 (iJ hi (List.getElem?_eq_getElem hq')) fun t' e=>?_
  have e2:us.toArray[q]=.int l[q] t':=by
   have:us[q]?=some us.toArray[q]:=by rw[List.getElem?_eq_getElem (by simpa using hq)];simp
   rw[this] at e;injection e
  rw[e2,List.getElem?_eq_getElem hq'];simp[isInt]
 refine call_meets PySem.F.slot_list_index ⟨_,g,rfl⟩ PySem.F.entry_list_index (PySem.F.args_list_index_2 _ _) (SeqAt.list_indexAt a us.toArray n odd osl (.int k t) (isInt k) j (by rw[List.size_toArray,el];exact Wu) (by have:sizeLine=16777216:=rfl;omega) ?_ ?_) ⟨g,fun y hy=>(eq_isInt k t hi y (by simpa using hy)).at _ _,aM.refl _,rfl,rfl,cI⟩
 ·rw[at',hj];simp
 ·intro q hq cA
  rw[at']
  have:=oU q cA
  simpa using this
theorem iU{ke ve:Expr}{p:Pos}{k:Int}{d:V}(K:cV c)(hk:∀H',aC H H'→Pe c f ke m H' (.int k))(hv:∀H',aC H H'→Pe c f ve m H' d)(q:∀a o,H a=none→Q (.ref a) (H.set a ⟨o,.dict [(k,d)]⟩))
  (GB:autoParam ((evalEachOpt [some ke] f.env).zip ((evalEach [ve] f.env).map fun v=>do let x ← v;standAt p;pure x)=[(eval ke f.env,do let x ← eval ve f.env;standAt p;pure x)].map fun p=>(some p.1,p.2)) aR._auto_1):Ev c f (.Dict [some ke] [ve] p) m H Q X:=.mk fun s S=>by
 have g:aM s.heap (s.heap.push { cls:=.type "dict",data:=.dict #[] }):=aM.push _ _
 have hx:(s.heap.push { cls:=.type "dict",data:=.dict #[] }).get? s.heap.objs.size=some { cls:=.type "dict",data:=.dict #[] }:=Heap.get?_push_size _ rfl
 have S0:=S.alloc (s':={ s with heap:=s.heap.push { cls:=.type "dict",data:=.dict #[] } }) (x:=⟨_,.dict []⟩) g rfl rfl (c9 _) (S.d5 K) ⟨hx,[],⟨_,_,_,hx,⟨rfl,rfl,rfl⟩,rfl,(by intro e he;simp at he),.nil,List.nodup_nil⟩,rfl,dJ _⟩
 have hE:aC H (H.set s.heap.objs.size ⟨{ cls:=.type "dict",data:=.dict #[] },.dict []⟩):=aC.set (aC.refl _) S.lF
 refine wpAny_Dict_pairs (knd:=intKind c.prog c.w) GB (by simp) (by simp) ?_
 refine evalPairs_cons (wpAny_mono (hk _ hE _ S0) (fun kv s₁ z=>?_) fun _ _ C2=>q7 C2 fun _ _ _ _ _ _ z=>z.elim)
 refine jB z fun t₁ i₁ S₁=>?_;clear z
 refine q4 (aY i₁) fun u Kk=>?_;obtain rfl:=Kk
 refine wpAny_bind (wpAny_mono (hv _ hE _ S₁) (fun vv s₂ z=>?_) fun _ _ C1=>q7 C1 fun _ _ _ _ _ _ z=>z.elim)
 refine jB z fun t₂ i₂ S₂=>?_;clear z
 refine wpAny_bind (wpAny_standAt (wpAny_pure (evalPairs_nil ?_)))
 have hd:ax (H.set s.heap.objs.size ⟨{ cls:=.type "dict",data:=.dict #[] },.dict []⟩) s.heap.objs.size []:=ax.same _ _ _ _
 refine q1 (S₂.rep.dictOf hd) fun kv dd e ia=>?_
 have uG:kv=[]:=by simpa using e
 subst uG
 refine⟨[(k,vv)],?_,dd,fun h' xI sb=>?_⟩
 ·simp[Carries,intKind,Value.isInt]
 ·have nt:Tk s₂.heap h':=fun b o₁ _ _ e cl dt=>⟨o₁,by
   by_cases z:b=s.heap.objs.size
   ·subst z;refine q8 dd fun o' _ _ g' ex _=>?_;clear dd;rw[g'] at e;cases e;rw[ex.1] at cl;exact absurd cl (by decide)
   ·exact sb.extBut b o₁ z e,cl,dt⟩
  have B6:h'.DictOf (intKind c.prog c.w) s.heap.objs.size [(k,vv)]:=by simpa[merged,stored] using xI
  refine q4 hd fun o0 e0=>?_;clear hd
  refine q6 (id B6) fun o es ep gg r=>?_
  have:=S₂.upd (s':={ s₂ with heap:=h',toks:=s₂.toks+1 }) (y:=⟨o,.dict [(k,d)]⟩) e0 sb.extBut rfl rfl ⟨gg,_,B6,rfl,eh (i₂.tk nt)⟩
  rw[AH.set_set] at this
  exact⟨g.tk.trans (t₁.trans (t₂.trans this.2)),.ref _,_,br,this.1,q _ _ S.lF⟩
theorem gM{scope:Scope}{cl:List (Str×Addr)}{x:Str}{elt t:Expr}{ds:List V}{tr:List Addr}{H₁:AH}(g:Nat→V)(P:Nat→Bool)(hsz:ds.length≤sizeLine)
  (ht:∀(i:Nat) d C hE,ds[i]?=some d→Tp c (kA f scope cl C hE H₁) t (jJ m cl x d) H₁ (P i=true))
  (he:∀(i:Nat) d C hE,ds[i]?=some d→P i=true→Pe c (kA f scope cl C hE H₁) elt (jJ m cl x d) H₁ (g i))
  (fin:∀a o,H₁ a=none→Q (.ref a) (H₁.set a ⟨o,.list (((List.range ds.length).filter P).map g)⟩)) :
  mF c f m scope cl x elt [t] Q ds tr H₁:=by
 refine⟨hsz,fun i acc H'=>H'=H₁∧acc=((List.range i).filter P).map g,⟨rfl,by simp⟩,?_,?_⟩
 ·rintro i d acc H' C hE hd ⟨rfl,rfl⟩ yz
  refine Ts.mono (ht i d C hE hd) (fun b d8 C0=>q3 C0 fun e q=>?_) fun _ _ z=>z
  subst e
  refine⟨fun hb=>(he i d C hE hd (q.mp hb)).ev ⟨⟨rfl,?_⟩,yz⟩,fun hb=>⟨⟨rfl,?_⟩,yz⟩⟩
  ·rw[List.range_succ,List.filter_append,List.map_append]
   simp[q.mp hb]
  ·have hp:P i=false:=by
    cases hh:P i with
    | false=>rfl
    | true=>rw[q.mpr hh] at hb;cases hb
   rw[List.range_succ,List.filter_append,List.map_append]
   simp[hp]
 ·rintro acc H' a o ⟨rfl,rfl⟩ _ ha
  exact fin a o ha
theorem y8{x:Str}{o:Expr}{p₁ p p2 ap:Pos}{a:Addr}{kvs:List (Int×V)}{l:List Int}{M:Int}(K:cV c)(g:GN c x (.builtin "max"))(hh:f.A.handled=none)(ho:Pe c f o m H (.ref a))(hd:ax H a kvs)(hl:kvs.map (·.2)=l.map V.int)(h1:M∈l)(h2:∀y∈l,y≤M)
  (hg:autoParam (f.env.globals=mainGlobals) aR._auto_1) (hb:autoParam (f.env.builtins=builtinsNs) aR._auto_1) (hk:autoParam (f.env.scope.kind=.function) aR._auto_1) (hn:autoParam (f.env.kindOf x=some .globalImplicit) aR._auto_1) (hdb:autoParam ((x == ("__debug__":Str))=false) aD._auto_1) (dA:autoParam (attributeBase o (Str.ofString "values") f.env (eval o f.env)=eval o f.env) aR._auto_1) (dY:autoParam ((ap.endLine == p2.line)=true) aR._auto_1) :
  Pe c f (.Call (.Name x p₁) [.Call (.Attribute o (Str.ofString "values") ap) [] [] p2] [] p) m H (.int M):=.mk fun s S=>by
 refine Call_ (wpAny_mono ((bF (p:=p₁) (m:=m) (H:=H) K g hg hb hk hn hdb) s S) (fun v s₁ z=>?_) fun _ _ x=>x)
 refine jB z fun t₁ i₁ S₁=>?_;clear z
 obtain rfl:=aG i₁
 refine callWith_builtin1 (wpAny_items_cons ?_) rfl rfl
 refine wpAny_Call_method_lateS dA rfl dY (wpAny_mono (ho s₁ S₁) (fun v s₂ z=>?_) fun _ _ x=>x)
 refine jB z fun t₂ i₂ S₂=>?_;clear z
 obtain rfl:=aG i₂
 have ns:(a == sysModules)=false:=q4 hd fun o e=>jT S₂ e
 refine q3 (lW hd f m s₂ (.ref a) S₂ br) fun hT yD=>?_
 refine q4 hd fun o' eo=>?_;clear hd
 refine Mz (S₂.rep.dict eo) fun kv es ep gg c1 c2 c3 c4 c5 pk ia=>?_
 refine⟨"dict","dict.values",PySem.F.plainAttrs_dict,PySem.F.slot_dict_values,PySem.F.type_dict_values,hT,yD,callWith_method0 ?_⟩
 have dd:s₂.heap.DictOf (intKind c.prog c.w) a kv:=⟨o',es,ep,gg,c1,c2,c3,c4,c5⟩
 refine call_meetsIn PySem.F.slot_dict_values hT PySem.F.entry_dict_values (PySem.F.args_dict_values_1 _) (meets_dict_values (intKind c.prog c.w) a ns) ⟨⟨kv,dd⟩,?_⟩
 refine wpAny_items_nil ?_
 have hx:(s₂.heap.push { cls:=.type "dict_values",data:=.fields #[.ref a] }).get? s₂.heap.objs.size=some { cls:=.type "dict_values",data:=.fields #[.ref a] }:=Heap.get?_push_size _ rfl
 have gp:aM s₂.heap (s₂.heap.push { cls:=.type "dict_values",data:=.fields #[.ref a] }):=aM.push _ _
 have hz:0<l.length:=List.length_pos_iff.mpr (fun z=>by rw[z] at h1;cases h1)
 rw[hl] at ia
 have hi:=dX ia
 have el:=du hi
 rw[List.length_map] at el
 have Uu:∀(i:Nat) (v:Value),(∃k,kv[i]?=some (k,v))→∃t,v=Value.int (l.getD i 0) t:=fun i v CZ=>q4 CZ fun k e=>by
  have hil:i<l.length:=by rw[← el];exact(List.getElem?_eq_some_iff.mp e).1
  refine q4 (iJ hi (List.getElem?_eq_getElem hil)) fun t ht=>?_
  rw[List.getElem?_map,e] at ht
  refine⟨t,?_⟩
  rw[List.getD_eq_getElem?_getD,List.getElem?_eq_getElem hil]
  simpa using ht
 refine q0 ((kdl_values (prog:=c.prog) (w:=c.w) (knd:=intKind c.prog c.w) (r:=s₂.heap.objs.size) (d:=a) (kvs:=kv) (ep:=ep)).iter f.A.in1 { s₂ with heap:=s₂.heap.push { cls:=.type "dict_values",data:=.fields #[.ref a] } } hh ⟨⟨_,hx,rfl,rfl⟩,⟨o',es,gp _ _ gg,c1,c2,c3,c4,c5⟩⟩) fun oI sQ UK Wk st=>?_
 refine call_max_walk (UK _ _ ⟨_,_,_,_,_,_,_,rfl,Wk,st,fun b hb=>?_,by exact MG hz el,CmpOf.ints_gt (fun i=>l.getD i 0) Uu,fun v h' tk hP hk=>?_⟩)
 ·show b<((s₂.heap.push _).push _).objs.size
  rw[Heap.size_push,Heap.size_push]
  rcases List.mem_cons.mp hb with rfl | hb
  ·show(s₂.heap.push { cls:=.type "dict_values",data:=.fields #[.ref a] }).objs.size<s₂.heap.objs.size+1+1
   rw[Heap.size_push];exact Nat.lt_succ_self _
  ·rw[List.mem_singleton] at hb;subst hb
   exact Nat.lt_succ_of_lt (Nat.lt_succ_of_lt (Heap.lt_size gg))
 ·refine q4 (Uu _ v hP) fun t Kj=>?_;obtain rfl:=Kj
  refine q3 (argBest_gt (fun i=>l.getD i 0) (kv.length-1)) fun q1 q2=>?_
  have hM:l.getD (argBest (fun i j=>decide (l.getD i 0 > l.getD j 0)) (kv.length-1)) 0=M:=by
   apply Int.le_antisymm
   ·exact h2 _ (su (Yj hz el q1))
   ·obtain⟨j,hj,e1⟩:=List.getElem_of_mem h1
    have:=q2 j (Gf el hj)
    rw[List.getD_eq_getElem?_getD,List.getElem?_eq_getElem hj] at this
    simp only[Option.getD_some] at this
    rw[e1] at this;exact this
  have gr:aM s₂.heap h':=fun b o e=>by
   refine hk b o (fun hm=>?_) (Heap.get?_push_of_some _ (gp b o e))
   have:=Heap.lt_size e
   rw[List.mem_singleton] at hm
   subst hm
   have h3:s₂.heap.objs.size+1<s₂.heap.objs.size:=by
    have:=Heap.lt_size e
    rw[Heap.size_push] at this;exact this
   exact Nat.lt_irrefl _ (Nat.lt_of_succ_lt h3)
  refine⟨t₁.trans (t₂.trans gr.tk),.int M,_,?_,S₂.grow (s':={ s₂ with heap:=h',toks:=tk }) gr rfl rfl,rfl,rfl⟩
  rw[hM];exact cI
end
end Mine
namespace Mine
open PySem
theorem GX{pt:Int→List Int}{T:Int→Prop}{u a b:Int}(hu:T u)(ta:T a)(tb:T b)(ha:∀x,T x→ds pt u x≤ds pt u a)(hb:∀x,T x→ds pt a x≤ds pt a b){v w:Int}(hv:T v)(hw:T w):ds pt v w≤max (ds pt v a) (ds pt v b):=by
 have Va:∀x y,T x→T y→ds pt x y≤ds pt a b:=fun x y tx ty=>by
  have h1:=sL pt x y u a
  have h2:=ha x tx
  have h3:=ha y ty
  have h4:=hb x tx
  have h5:=hb y ty
  rw[gj pt x u,gj pt y u,gj pt x a,gj pt y a] at h1
  exact Yl h1 h2 h3 h4 h5
 have h1:=sL pt v w a b
 have h2:=Va w b hw tb
 have h3:=Va w a hw ta
 exact Yk h1 h2 h3
theorem av.uniq{kvs:List (Int×V)}{n:Int}{xs:List Int}(h:av kvs n xs):∀ {ys},av kvs n ys→xs=ys:=by
 induction h with
 | stop e=>intro ys k;cases k with
  | stop _=>rfl
  | step e' _=>rw[e] at e';cases e'
 | step e _ ih=>intro ys k;cases k with
  | stop e'=>rw[e] at e';cases e'
  | step e' k'=>rw[e] at e';cases e';rw[ih k']
theorem oA.chain{kvs:List (Int×V)}{rk:Int→Nat}(W:oA kvs rk):∀(n:Nat) (v:Int) (d:V),rk v≤n→aF kvs v=some d→∃xs,av kvs v xs∧xs.length≤rk v+1:=by
 intro n
 induction n with
 | zero=>
  intro v d hr hd
  rcases W.down v d hd with rfl | ⟨b,d',rfl,hb,cA⟩
  ·exact⟨[v],.stop hd,by simp⟩
  ·exact(Gg hr cA).elim
 | succ n ih=>
  intro v d hr hd
  rcases W.down v d hd with rfl | ⟨b,d',rfl,hb,cA⟩
  ·exact⟨[v],.stop hd,by simp⟩
  ·obtain⟨xs,hx,hl⟩:=ih b d' (MJ hr cA) hb
   exact⟨v::xs,.step hd hx,by simp;exact Ym cA hl⟩
theorem oA.vt{kvs:List (Int×V)}{rk:Int→Nat}(W:oA kvs rk):∃pt,bO kvs pt∧∀v xs,av kvs v xs→pt v=xs.reverse:=by
 classical
 refine⟨fun v=>if h:∃xs,av kvs v xs then(Classical.choose h).reverse else[],?_,?_⟩
 case refine_2=>
  intro v xs hx
  have h:∃xs,av kvs v xs:=⟨xs,hx⟩
  simp only[dif_pos h]
  rw[(Classical.choose_spec h).uniq hx]
 have key:∀v xs,av kvs v xs→(if h:∃xs,av kvs v xs then(Classical.choose h).reverse else[])=xs.reverse:=by
  intro v xs hx
  have h:∃xs,av kvs v xs:=⟨xs,hx⟩
  rw[dif_pos h,(Classical.choose_spec h).uniq hx]
 refine⟨fun v hv=>?_,fun v b hv=>?_,fun v d hd=>?_,fun v d hd=>?_⟩
 ·exact(key v [v] (.stop hv)).trans rfl
 ·rcases W.down v _ hv with e | ⟨b',d',e,hb,_⟩
  ·cases e
  ·cases e
   refine q2 (W.chain (rk b) b d' (Nat.le_refl _) hb) fun xs hx _=>?_
   have e1:=key b xs hx
   have e2:=key v (v::xs) (.step hv hx)
   show(if h:∃xs,av kvs v xs then _ else _)=(if h:∃xs,av kvs b xs then _ else _)++[v]
   rw[e1,e2,List.reverse_cons]
 ·rcases W.down v d hd with e | ⟨b,d',e,hb,_⟩
  ·exact .inl e
  ·exact .inr ⟨b,d',e,hb⟩
 ·refine q2 (W.chain (rk v) v d (Nat.le_refl _) hd) fun xs hx hl=>?_
  have e1:=key v xs hx
  have:=W.low v
  show(if h:∃xs,av kvs v xs then _ else _:List Int).length≤41
  rw[e1,List.length_reverse];exact MI hl this
end Mine
namespace Mine
open PySem
theorem eQ{kvs:List (Int×V)}{k:Int}:aF kvs k=none↔k∉kvs.map (·.1):=by
 constructor
 ·intro h hm
  refine q4 (iO hm) fun d e=>?_
  rw[h] at e;cases e
 ·intro h
  cases q:aF kvs k with
  | none=>rfl
  | some d=>exact(h (List.mem_map.mpr ⟨_,fL q,rfl⟩)).elim
theorem ay{kvs:List (Int×V)}{v:Int}:aJ kvs v↔v∈kvs.map (·.1):=
 ⟨fun CY=>q4 CY fun d h=>List.mem_map.mpr ⟨_,fL h,rfl⟩,fun h=>iO h⟩
theorem fM{g:Int→V}{k:Int}:∀ {ks:List Int},k∈ks→aF (ks.map fun k=>(k,g k)) k=some (g k)
 | x::r,h=>by
  by_cases e:x=k
  ·subst e;simp[aF]
  ·have:=fM (g:=g) (List.mem_of_ne_of_mem (fun z=>e z.symm) h)
   simp only[aF,List.map_cons,List.find?,e,decide_false]
   exact this
theorem bC{kvs:List (Int×V)}{w:Int}{d:V}(h:w∉kvs.map (·.1))(v:Int):aF (kvs++[(w,d)]) v=if v=w then some d else aF kvs v:=by
 unfold aF
 rw[List.find?_append]
 by_cases e:v=w
 ·subst e
  rw[if_pos rfl]
  have:kvs.find? (fun kv=>decide (kv.1=v))=none:=by
   rw[List.find?_eq_none]
   intro x hx hq
   exact h (List.mem_map.mpr ⟨x,hx,by simpa using hq⟩)
  rw[this];simp
 ·rw[if_neg e]
  have:([(w,d)]:List (Int×V)).find? (fun kv=>decide (kv.1=v))=none:=by simp;exact fun z=>e z.symm
  rw[this,Option.or_none]
theorem gQ:∀ {l l':List Int},l.Nodup→(∀x∈l,x∈l')→l.length≤l'.length
 | [],_,_,_=>Nat.zero_le _
 | x::r,l',nd,h=>by
  rw[List.nodup_cons] at nd
  have hx:=h x (.head _)
  have:=gQ (l':=l'.erase x) nd.2 fun y hy=>(List.mem_erase_of_ne (fun e:y=x=>nd.1 (e▸hy))).mpr (h y (.tail _ hy))
  rw[List.length_erase_of_mem hx] at this
  have:=List.length_pos_of_mem hx
  simp;exact MH (by assumption) this
structure qm(H H':AH)(an:Addr)(ks:List Int)(ad:Int→Addr)(L:Int→List Int):Prop where
 ext:aC H H'
 an0:H an=none
 d:ax H' an (ks.map fun k=>(k,V.ref (ad k)))
 l:∀k,k∈ks→ai H' (ad k) ((L k).map V.int)
 new:∀k,k∈ks→H (ad k)=none
 inj:∀k,k∈ks→∀k',k'∈ks→ad k=ad k'→k=k'
theorem ai.ne_dict{H:AH}{a b:Addr}{ds:List V}{kvs:List (Int×V)}(h:ai H a ds)(k:ax H b kvs):a≠b:=fun e=>by
 subst e;refine q4 h fun o zM=>?_;clear h;have h:=zM;clear zM;refine q4 k fun o' zL=>?_;clear k;have k:=zL;clear zL;rw[h] at k;cases k
theorem qm.put{H H':AH}{an a:Addr}{ks:List Int}{ad:Int→Addr}{L:Int→List Int}{k:Int}{o o':Obj}(N:qm H H' an ks ad L)(hk:k∉ks)(ha:H' a=none):
  qm H ((H'.set a ⟨o,.list ((L k).map V.int)⟩).set an ⟨o',.dict ((ks.map fun k=>(k,V.ref (ad k)))++[(k,.ref a)])⟩) an (ks++[k]) (fun x=>if x=k then a else ad x) L:=by
 have hna:a≠an:=fun e=>by refine q4 (N.d) fun o q=>?_;rw[← e,ha] at q;cases q
 have old:∀x,x∈ks→(if x=k then a else ad x)=ad x:=fun x hx=>if_neg fun e:x=k=>hk (e▸hx)
 refine⟨aC.upd (aC.set N.ext ha) N.an0,N.an0,?_,fun x hx=>?_,fun x hx=>?_,fun x hx y hy e=>?_⟩
 ·rw[List.map_append]
  have e1:(ks.map fun x=>(x,V.ref (if x=k then a else ad x)))=ks.map fun x=>(x,V.ref (ad x)):=List.map_congr_left fun x hx=>by rw[old x hx]
  rw[e1]
  simp only[List.map_cons,List.map_nil,if_true]
  exact ax.same _ _ _ _
 ·rcases List.mem_append.mp hx with hx | hx
  ·rw[old x hx]
   have:=N.l x hx
   exact(this.fresh ha).ne (this.ne_dict N.d)
  ·rw[List.mem_singleton] at hx;subst hx
   rw[if_pos rfl]
   exact(ai.same _ _ _ _).ne hna
 ·rcases List.mem_append.mp hx with hx | hx
  ·rw[old x hx];exact N.new x hx
  ·rw[List.mem_singleton] at hx;subst hx
   rw[if_pos rfl];exact N.ext.none ha
 ·have fr:∀z,z∈ks→ad z≠a:=fun z hz=>(N.l z hz).ne_new ha
  rcases List.mem_append.mp hx with yw | yw <;> rcases List.mem_append.mp hy with kV | kV
  ·rw[old x yw,old y kV] at e;exact N.inj x yw y kV e
  ·rw[List.mem_singleton] at kV
   rw[old x yw,if_pos kV] at e;exact(fr x yw e).elim
  ·rw[List.mem_singleton] at yw
   rw[old y kV,if_pos yw] at e;exact(fr y kV e.symm).elim
  ·rw[List.mem_singleton] at yw kV;rw[yw,kV]
theorem qm.app{H H':AH}{an:Addr}{ks:List Int}{ad:Int→Addr}{L:Int→List Int}{k w:Int}{o:Obj}(N:qm H H' an ks ad L)(hk:k∈ks):
  qm H (H'.set (ad k) ⟨o,.list ((L k).map V.int++[V.int w])⟩) an ks ad (fun x=>if x=k then L x++[w] else L x):=by
 refine⟨aC.upd N.ext (N.new k hk),N.an0,N.d.ne (Ne.symm ((N.l k hk).ne_dict N.d)),fun x hx=>?_,N.new,N.inj⟩
 by_cases e:x=k
 ·subst e
  rw[if_pos rfl,List.map_append]
  exact ai.same _ _ _ _
 ·rw[if_neg e]
  exact(N.l x hx).ne fun q=>e (N.inj x hx k hk q)
structure mz(H:AH)(kvs:List (Int×V))(an:Addr)(ad:Int→Addr)(L:Int→List Int):Prop where
 d:ax H an ((kvs.map (·.1)).map fun k=>(k,V.ref (ad k)))
 l:∀v,aJ kvs v→ai H (ad v) ((L v).map V.int)
 nb:∀v w,w∈L v↔Nb kvs v w
theorem mz.ext{H H':AH}{kvs:List (Int×V)}{an:Addr}{ad:Int→Addr}{L:Int→List Int}(N:mz H kvs an ad L)(e:aC H H'):mz H' kvs an ad L:=
 ⟨e.dict N.d,fun v k=>e.list (N.l v k),N.nb⟩
section
variable {kvs:List (Int×V)} {pt:Int→List Int} {u:Int}
structure jL(kvs:List (Int×V))(pt:Int→List Int)(u:Int)(s:Nat)(dQ:List (Int×V)):Prop where
 at_:∀v d,aF dQ v=some d↔(aJ kvs v∧bJ pt u v∧ds pt u v≤s∧d=.int (ds pt u v))
 nd:(dQ.map (·.1)).Nodup
structure gJ(kvs:List (Int×V))(pt:Int→List Int)(u:Int)(s:Nat)(dQ:List (Int×V))(nE:List Int):Prop where
 at_:∀v d,aF dQ v=some d↔(aJ kvs v∧bJ pt u v∧(ds pt u v≤s∨v∈nE)∧d=.int (ds pt u v))
 nd:(dQ.map (·.1)).Nodup
 next:∀v,v∈nE→aJ kvs v∧bJ pt u v∧ds pt u v=s+1
 bf:nE.length≤dQ.length
structure Cb(kvs:List (Int×V))(pt:Int→List Int)(u:Int)(dQ:List (Int×V)):Prop where
 at_:∀v d,aF dQ v=some d↔(aJ kvs v∧bJ pt u v∧d=.int (ds pt u v))
 nd:(dQ.map (·.1)).Nodup
theorem gJ.size{s:Nat}{dQ:List (Int×V)}{nE:List Int}(F:gJ kvs pt u s dQ nE):dQ.length≤kvs.length:=by
 have:=gQ (l':=kvs.map (·.1)) F.nd fun x hx=>by
  refine q4 (iO hx) fun d e=>?_
  exact ay.mp ((F.at_ x d).mp e).1
 simpa using this
theorem Cb.size{dQ:List (Int×V)}(F:Cb kvs pt u dQ):dQ.length≤kvs.length:=by
 have:=gQ (l':=kvs.map (·.1)) F.nd fun x hx=>by
  refine q4 (iO hx) fun d e=>?_
  exact ay.mp ((F.at_ x d).mp e).1
 simpa using this
theorem jL.mid{s:Nat}{dQ:List (Int×V)}(F:jL kvs pt u s dQ):gJ kvs pt u s dQ []:=
 ⟨fun v d=>by simpa using F.at_ v d,F.nd,(fun v h=>nomatch h),Nat.zero_le _⟩
theorem jL.zero(P:bO kvs pt)(hu:aJ kvs u):jL kvs pt u 0 [(u,.int 0)]:=by
 refine⟨fun v d=>?_,by simp⟩
 by_cases e:u=v
 ·subst e
  have:=P.self hu
  rw[jF]
  simp only[aF,List.find?,decide_true,Option.map_some,Option.some.injEq]
  exact⟨fun h=>⟨hu,this,Nat.le_refl _,h.symm⟩,fun h=>h.2.2.2.symm⟩
 ·simp only[aF,List.find?,e,decide_false,Option.map_none]
  refine⟨(fun h=>nomatch h),fun h=>?_⟩
  refine q2 (P.closer hu h.1 h.2.1 e) fun w _ q=>?_
  have:=h.2.2.1
  exact(TZ h.2.2.1 q).elim
theorem gJ.put{s:Nat}{dQ:List (Int×V)}{nE:List Int}(P:bO kvs pt)(F:gJ kvs pt u s dQ nE){v w:Int}(hv:aJ kvs v∧bJ pt u v∧ds pt u v=s)(hn:Nb kvs v w)(oU:aF dQ w=none):
  gJ kvs pt u s (dQ++[(w,.int ((s:Int)+1))]) (nE++[w]):=by
 refine iz hv fun k1 k2 k3=>?_;clear hv
 have kw:=(P.v7 hn).2
 have sw:=k2.trans (P.qP hn)
 have aad:¬(ds pt u w≤s∨w∈nE):=fun z=>by
  have:=(F.at_ w _).mpr ⟨kw,sw,z,rfl⟩
  rw[oU] at this;cases this
 have hds:ds pt u w=s+1:=by
  rcases P.near (u:=u) hn with q | q
  ·exact TV k3 q
  ·exact(aad (.inl (TQ k3 q))).elim
 have hwk:w∉dQ.map (·.1):=eQ.mp oU
 refine⟨fun x d=>?_,?_,fun x hx=>?_,by simp;exact F.bf⟩
 ·rw[bC hwk]
  by_cases e:x=w
  ·subst e
   rw[if_pos rfl,hds]
   refine⟨fun h=>⟨kw,sw,.inr (by simp),by injection h with h;rw[← h];rfl⟩,fun h=>by rw[h.2.2.2];rfl⟩
  ·rw[if_neg e,F.at_ x d]
   simp[e]
 ·rw[List.map_append,List.nodup_append]
  refine⟨F.nd,by simp,fun a ha b hb=>?_⟩
  simp at hb;subst hb
  exact fun e=>hwk (e▸ha)
 ·rcases List.mem_append.mp hx with hx | hx
  ·exact F.next x hx
  ·rw[List.mem_singleton] at hx;rw[hx];exact⟨kw,sw,hds⟩
theorem gJ.done{s:Nat}{dQ:List (Int×V)}{nE lay:List Int}(P:bO kvs pt)(hu:aJ kvs u)(F:gJ kvs pt u s dQ nE)(hl:∀v,v∈lay↔(aJ kvs v∧bJ pt u v∧ds pt u v=s))(hc:∀v,v∈lay→∀w,Nb kvs v w→aF dQ w≠none):
  jL kvs pt u (s+1) dQ∧∀v,v∈nE↔(aJ kvs v∧bJ pt u v∧ds pt u v=s+1):=by
 have full:∀v,aJ kvs v→bJ pt u v→ds pt u v=s+1→v∈nE:=fun v k1 k2 k3=>by
  have de:u≠v:=fun e=>by subst e;rw[jF] at k3;exact TY k3
  refine q2 (P.closer hu k1 k2 de) fun w hn q=>?_
  have yC:Nb kvs w v:=hn.elim .inr .inl
  have hw:w∈lay:=(hl w).mpr ⟨(P.v7 hn).2,k2.trans (P.qP hn),by exact TU k3 q⟩
  have:=hc w hw v yC
  cases z:aF dQ v with
  | none=>exact(this z).elim
  | some d=>
   rcases ((F.at_ v d).mp z).2.2.1 with q | q
   ·exact(TP k3 q).elim
   ·exact q
 refine⟨⟨fun v d=>?_,F.nd⟩,fun v=>⟨fun h=>F.next v h,fun h=>full v h.1 h.2.1 h.2.2⟩⟩
 rw[F.at_ v d]
 refine⟨fun CX=>uD CX fun a b e g=>⟨a,b,e.elim (fun e=>by exact qO e) (fun e=>by have:=(F.next v e).2.2;exact TL this),g⟩,fun CW=>uD CW fun a b e g=>⟨a,b,?_,g⟩⟩
 by_cases q:ds pt u v≤s
 ·exact .inl q
 ·exact .inr (full v a b (TJ e q))
theorem jL.all{s:Nat}{dQ:List (Int×V)}(P:bO kvs pt)(hu:aJ kvs u)(F:jL kvs pt u s dQ)(hl:∀v,¬(aJ kvs v∧bJ pt u v∧ds pt u v=s)):Cb kvs pt u dQ:=by
 have key:∀n v,aJ kvs v→bJ pt u v→ds pt u v=s+n→False:=by
  intro n
  induction n with
  | zero=>intro v k1 k2 k3;exact hl v ⟨k1,k2,k3⟩
  | succ n ih=>
   intro v k1 k2 k3
   have de:u≠v:=fun e=>by subst e;rw[jF] at k3;exact TX k3
   refine q2 (P.closer hu k1 k2 de) fun w hn q=>?_
   exact ih w (P.v7 hn).2 (k2.trans (P.qP hn)) (TS k3 q)
 refine⟨fun v d=>(F.at_ v d).trans ⟨fun CV=>uD CV fun a b _ e=>⟨a,b,e⟩,fun CU=>iz CU fun a b e=>⟨a,b,?_,e⟩⟩,F.nd⟩
 apply Classical.byContradiction;intro h
 exact key (ds pt u v-s) v a b (TN h)
theorem bO.ds_le(P:bO kvs pt){u v:Int}(hu:aJ kvs u)(hv:aJ kvs v):ds pt u v≤82:=by
 refine q4 hu fun _ e1=>?_;clear hu;refine q4 hv fun _ e2=>?_;clear hv
 have:=P.len _ _ e1;have:=P.len _ _ e2
 unfold ds;exact TR (by assumption) this
theorem bO.meet(P:bO kvs pt){u v:Int}(hu:aJ kvs u)(hv:aJ kvs v){i j:Nat}{y:Int}(e1:(pt u)[i]?=some y)(e2:(pt v)[j]?=some y):i=j∧i<cp (pt u) (pt v):=by
 refine q3 (P.on _ rfl hu i y e1) fun _ p1=>?_
 refine q3 (P.on _ rfl hv j y e2) fun _ p2=>?_
 have l1:=(List.getElem?_eq_some_iff.mp e1).1
 have l2:=(List.getElem?_eq_some_iff.mp e2).1
 have e:=p1.symm.trans p2
 have el:=congrArg List.length e
 rw[List.length_take,List.length_take] at el
 have hij:i=j:=by exact TK l1 l2 el
 subst hij
 exact⟨rfl,mq _ _ (i+1) (vx l1) (vx l2) e⟩
theorem bO.between(P:bO kvs pt){u v:Int}(hu:aJ kvs u)(hv:aJ kvs v)(hs:bJ pt u v){xs ys:List Int}(ex:pt u=xs.reverse)(ey:pt v=ys.reverse):
  ∃k j x,k<xs.length∧xs[k]?=some x∧ys[j]?=some x∧k+j=ds pt u v∧(∀i y,i<k→xs[i]?=some y→y∉ys)∧∀i,i<j→ys[i]?≠some x:=by
 have lx:(pt u).length=xs.length:=by rw[ex,List.length_reverse]
 have ly:(pt v).length=ys.length:=by rw[ey,List.length_reverse]
 have c1:=eY (pt u) (pt v)
 have c2:=eR (pt u) (pt v)
 have toX:∀ {i:Nat} {y:Int},xs[i]?=some y→(pt u)[xs.length-1-i]?=some y:=fun {i y} h=>by
  have:=(List.getElem?_eq_some_iff.mp h).1
  rw[ex,List.getElem?_reverse (ni this),show xs.length-1-(xs.length-1-i)=i by exact pH this,h]
 have toY:∀ {i:Nat} {y:Int},ys[i]?=some y→(pt v)[ys.length-1-i]?=some y:=fun {i y} h=>by
  have:=(List.getElem?_eq_some_iff.mp h).1
  rw[ey,List.getElem?_reverse (ni this),show ys.length-1-(ys.length-1-i)=i by exact pH this,h]
 unfold bJ at hs
 obtain⟨x,hx⟩:∃x,(pt u)[cp (pt u) (pt v)-1]?=some x:=⟨_,List.getElem?_eq_getElem (TH hs c1)⟩
 have hy:(pt v)[cp (pt u) (pt v)-1]?=some x:=by
  have h:=hY (pt u) (pt v) _ (Nat.le_refl _)
  have h1:((pt u).take (cp (pt u) (pt v)))[cp (pt u) (pt v)-1]?=((pt v).take (cp (pt u) (pt v)))[cp (pt u) (pt v)-1]?:=by rw[h]
  rw[List.getElem?_take,List.getElem?_take,if_pos (pG hs),if_pos (pG hs),hx] at h1
  exact h1.symm
 refine⟨xs.length-cp (pt u) (pt v),ys.length-cp (pt u) (pt v),x,by exact TG hs lx c1,?_,?_,?_,fun i y hi Wm hm=>?_,fun i hi e=>?_⟩
 ·rw[ex,List.getElem?_reverse (by rw[← ex];exact BH hs lx c1),← ex] at hx
  rw[← hx];congr 1;exact BG hs
 ·rw[ey,List.getElem?_reverse (by rw[← ey];exact BH hs ly c2),← ey] at hy
  rw[← hy];congr 1;exact BG hs
 ·unfold ds;exact TF lx ly c1 c2
 ·refine q4 (List.getElem?_of_mem hm) fun j hj=>?_
  have:=(P.meet hu hv (toX Wm) (toY hj)).2
  exact TC hi this
 ·have lt:=(List.getElem?_eq_some_iff.mp e).1
  have:=(P.meet hu hv hx (toY e)).1
  exact TB hs hi this
theorem eP:∀(l:List Int),l≠[]→∃M,M∈l∧∀x∈l,x≤M
 | [x],_=>⟨x,.head _,fun y hy=>by rw[List.mem_singleton] at hy;exact BI hy⟩
 | x::y::r,_=>by
  refine q2 (eP (y::r) (by simp)) fun M h1 h2=>?_
  by_cases h:x≤M
  ·exact⟨M,.tail _ h1,fun z hz=>(List.mem_cons.mp hz).elim (fun e=>e▸h) (h2 z)⟩
  ·exact⟨x,.head _,fun z hz=>(List.mem_cons.mp hz).elim (fun e=>by exact BI e) (fun q=>by have:=h2 z q;exact TM h this)⟩
end
end Mine
namespace Mine
open PySem PyProof.Rows PySem.Builtin PySem.W PySem.Calls
section
variable {c:Cx} {f:Fx} {m:bL} {H:AH} {X:Value→AH→Prop} {Q:V→AH→Prop}
theorem xu{x:Str}{p₁ p:Pos}{e:Expr}{fa:Addr}{o:Obj}{fd:FuncData}{k:Nat}(K:cV c)(g:GN c x (.ref fa))(ho:c.base.get? fa=some o)(jW:o.data=.func fd)(R:bw k f.A)(hf:f.A.frames=some f.bK)(h1:Ev c f e m H (fun d H₁=>Fn c k (.ref fa) [d] H₁ Q X) X)(hg:autoParam (f.env.globals=mainGlobals) aR._auto_1)(hb:autoParam (f.env.builtins=builtinsNs) aR._auto_1)
  (hk:autoParam (f.env.scope.kind=.function) aR._auto_1) (hn:autoParam (f.env.kindOf x=some .globalImplicit) aR._auto_1) (hd:autoParam ((x == ("__debug__":Str))=false) aD._auto_1) (he:autoParam (starEach [e] f.env=(false,eval e f.env)::starEach [] f.env) aR._auto_1):Ev c f (.Call (.Name x p₁) [e] [] p) m H Q X:=
 gA ho jW R hf ((bF K g hg hb hk hn hd).ev ⟨rfl,az (Ev.mono h1 (fun _ _ z=>bk z) fun _ _ z=>z) he⟩) he
theorem gK{x:Str}{p₁ p:Pos}{e e₂:Expr}{fa:Addr}{o:Obj}{fd:FuncData}{k:Nat}(K:cV c)(g:GN c x (.ref fa))(ho:c.base.get? fa=some o)(jW:o.data=.func fd)(R:bw k f.A)(hf:f.A.frames=some f.bK)(h1:Ev c f e m H (fun d H₁=>Ev c f e₂ m H₁ (fun d₂ H₂=>Fn c k (.ref fa) [d,d₂] H₂ Q X) X) X)(hg:autoParam (f.env.globals=mainGlobals) aR._auto_1)(hb:autoParam (f.env.builtins=builtinsNs) aR._auto_1)
  (hk:autoParam (f.env.scope.kind=.function) aR._auto_1) (hn:autoParam (f.env.kindOf x=some .globalImplicit) aR._auto_1) (hd:autoParam ((x == ("__debug__":Str))=false) aD._auto_1) (he:autoParam (starEach [e,e₂] f.env=(false,eval e f.env)::starEach [e₂] f.env) aR._auto_1) (ny:autoParam (starEach [e₂] f.env=(false,eval e₂ f.env)::starEach [] f.env) aR._auto_1):Ev c f (.Call (.Name x p₁) [e,e₂] [] p) m H Q X:=
 gA ho jW R hf ((bF K g hg hb hk hn hd).ev ⟨rfl,az (Ev.mono h1 (fun _ _ z=>az (Ev.mono z (fun _ _ z=>bk z) fun _ _ z=>z) ny) fun _ _ z=>z) he⟩) he
theorem cj{x:Str}{p₁ p:Pos}{e:Expr}{id:String}(K:cV c)(g:GN c x (.builtin id))(h1:Ev c f e m H (fun d H₁=>qk c f (fun vs=>call (.builtin id) vs) [d] m H₁ Q X) X)(hg:autoParam (f.env.globals=mainGlobals) aR._auto_1)(hb:autoParam (f.env.builtins=builtinsNs) aR._auto_1)
  (hk:autoParam (f.env.scope.kind=.function) aR._auto_1) (hn:autoParam (f.env.kindOf x=some .globalImplicit) aR._auto_1) (hd:autoParam ((x == ("__debug__":Str))=false) aD._auto_1) (he:autoParam (starEach [e] f.env=(false,eval e f.env)::starEach [] f.env) aR._auto_1):Ev c f (.Call (.Name x p₁) [e] [] p) m H Q X:=
 qq ((bF K g hg hb hk hn hd).ev ⟨rfl,az (Ev.mono h1 (fun _ _ z=>bk z) fun _ _ z=>z) he⟩) he rfl
end
end Mine
namespace Mine
open PySem PyProof.Rows PySem.Builtin PySem.W PySem.Calls
section
variable {c:Cx} {f:Fx} {m:bL} {H:AH} {X:Value→AH→Prop} {Q:V→AH→Prop}
structure my(K:Frag)(C:Addr):Prop where
 ga:findIn K (.ref C) "__getattribute__"=some (some (.builtin "object.__getattribute__"))
 gt:findIn K (.ref C) "__getattr__"=some none
 sa:findIn K (.ref C) "__setattr__"=some (some (.builtin "object.__setattr__"))
 over:plainOver K C=true
 has:(clsIn K C).any (·.hasDict)=true
theorem pS{K:Frag}(KX:K.In c.base){s:Shared}(S:St c f m H s):K.In s.heap:=fun a o e=>S.base a o (KX a o e)
theorem nr{h:Heap}{a:Addr}{mv:Str→Option Value}{o:Obj}(n:h.Ns a mv)(g:h.get? a=some o)(name:Str):lookIn name o=some (mv name):=by
 refine q7 n fun o' es ep g' hd sk hm=>?_;clear n
 rw[g] at g';cases g'
 unfold lookIn
 rw[hd];dsimp only
 have e:=hm name
 unfold nsFind findBy at e
 rw[← Array.find?_toList] at e
 cases q:es.toList.find? (·.key.isStr name) with
 | some en=>rw[q] at e;rw[← e];rfl
 | none=>
  rw[q] at e
  have:es.toList.any (·.refKey)=false:=by
   rw[List.any_eq_false];intro en tT;refine q60 (sk en (by simpa using tT)) fun n t h=>?_;simp[DictEntry.refKey,h]
  rw[this,← e];rfl
theorem nj{α:Type}[DecidableEq α]:∀ {l l':List α},l.Nodup→(∀x∈l,x∈l')→l.length≤l'.length
 | [],_,_,_=>Nat.zero_le _
 | x::r,l',nd,h=>by
  rw[List.nodup_cons] at nd
  have hx:=h x (.head _)
  have:=nj (l':=l'.erase x) nd.2 fun y hy=>(List.mem_erase_of_ne (fun e:y=x=>nd.1 (e▸hy))).mpr (h y (.tail _ hy))
  rw[List.length_erase_of_mem hx] at this
  have:=List.length_pos_of_mem hx
  simp;exact MH (by assumption) this
theorem lN{fs:List (Str×V)}{x:Str}(h:x∉fs.map (·.1)):fs.lookup x=none:=by
 induction fs with
 | nil=>rfl
 | cons p r ih=>
  simp only[List.map_cons,List.mem_cons,not_or] at h
  rw[List.lookup_cons,show(x == p.1)=false from beq_false_of_ne h.1]
  exact ih h.2
theorem ye{h:Heap}{a:Addr}{mv:Str→Option Value}{fs:List (Str×V)}(n:h.Ns1 a mv)(hn:∀x,fs.lookup x=none→mv x=none){o:Obj}{es:Array DictEntry}{ep:Nat}(g:h.get? a=some o)(d:o.data=.dict es ep):es.size≤fs.length:=by
 classical
 refine q61 n fun o' U8 WL g' d' sk uk hm=>?_;clear n
 rw[g] at g';cases g';rw[d] at d';cases d'
 have key:∀e∈es.toList,∃x,e.key.isStr x=true:=fun e he=>by refine q60 (sk e (by simpa using he)) fun x t hx=>?_;exact⟨x,by rw[hx];simp[Value.isStr]⟩
 let nm:DictEntry→Str:=fun e=>if h:∃x,e.key.isStr x=true then Classical.choose h else Str.empty
 have Zs:∀e∈es.toList,e.key.isStr (nm e)=true:=fun e he=>by
  have h:=key e he
  show e.key.isStr (if h:∃x,e.key.isStr x=true then Classical.choose h else Str.empty)=true
  rw[dif_pos h];exact Classical.choose_spec h
 have nd:(es.toList.map nm).Nodup:=by
  refine List.Pairwise.map _ ?_ (List.Pairwise.and_mem.mp uk)
  rintro a b rz1 e;refine iz rz1 fun ha hb jy=>?_;clear rz1
  exact jy (nm a) (Zs a ha) (by rw[e];exact Zs b hb)
 have sub:∀x∈es.toList.map nm,x∈fs.map (·.1):=fun x hx=>by
  refine q2 (List.mem_map.mp hx) fun e he Ka=>?_;obtain rfl:=Ka
  apply Classical.byContradiction
  intro oU
  have h1:=hn _ (lN oU)
  rw[← hm] at h1
  unfold nsFind findBy at h1
  rw[Option.map_eq_none_iff,Array.find?_eq_none] at h1
  exact h1 e (by simpa using he) (Zs e he)
 have:=nj nd sub
 simpa using this
noncomputable def cq(H:AH)(x C dx:Addr)(fs:List (Str×V)):Prop:=(∃o,H x=some ⟨o,.inst C dx⟩)∧∃od,H dx=some ⟨od,.attrs fs⟩
theorem cq.ext{H H':AH}{x C dx:Addr}{fs:List (Str×V)}(I:cq H x C dx fs)(e:aC H H'):cq H' x C dx fs:=by
 refine qK I fun od Ki b=>?_;clear I;obtain⟨o,a⟩:=Ki
 exact⟨⟨o,(e x (by rw[a];exact fun z=>nomatch z)).trans a⟩,od,(e dx (by rw[b];exact fun z=>nomatch z)).trans b⟩
theorem cq.ne{H:AH}{x C dx a:Addr}{fs:List (Str×V)}{y:fc}(I:cq H x C dx fs)(n1:x≠a)(n2:dx≠a):cq (H.set a y) x C dx fs:=by
 refine qK I fun od Kh q=>?_;clear I;obtain⟨o,p⟩:=Kh
 exact⟨⟨o,(bj H y n1).trans p⟩,od,(bj H y n2).trans q⟩
theorem cq.ne_list{H:AH}{x C dx a:Addr}{fs:List (Str×V)}{ds:List V}(I:cq H x C dx fs)(l:ai H a ds):x≠a∧dx≠a:=by
 refine qK I fun od Kg q=>?_;clear I;obtain⟨o,p⟩:=Kg
 refine q4 l fun ol zK=>?_;clear l;have l:=zK;clear zK
 exact⟨(fun e=>by rw[e,l] at p;cases p),(fun e=>by rw[e,l] at q;cases q)⟩
theorem cq.ne_dict{H:AH}{x C dx a:Addr}{fs:List (Str×V)}{ds:List (Int×V)}(I:cq H x C dx fs)(l:ax H a ds):x≠a∧dx≠a:=by
 refine qK I fun od Kf q=>?_;clear I;obtain⟨o,p⟩:=Kf
 refine q4 l fun ol zJ=>?_;clear l;have l:=zJ;clear zJ
 exact⟨(fun e=>by rw[e,l] at p;cases p),(fun e=>by rw[e,l] at q;cases q)⟩
theorem cq.apart{H:AH}{x C dx:Addr}{fs:List (Str×V)}(I:cq H x C dx fs):x≠dx:=by
 refine qK I fun od Ke q=>?_;clear I;obtain⟨o,p⟩:=Ke
 exact fun e=>by rw[e,q] at p;cases p
theorem cq.at{s:Shared}{x C dx:Addr}{fs:List (Str×V)}(I:cq H x C dx fs)(S:St c f m H s):
  ∃od T7 mv,H dx=some ⟨T7,.attrs fs⟩∧InstAt s.heap x (instObj C dx) C (some od)∧s.heap.get? dx=some od∧s.heap.Ns1 dx mv∧(∀y,fs.lookup y=none→mv y=none)∧∀y d,fs.lookup y=some d→∃v,mv y=some v∧Is s.heap d v:=by
 refine qK I fun od Kd e2=>?_;clear I;obtain⟨o,e⟩:=Kd
 have k:=(S.rep x _ e).2
 refine q27 (S.rep dx _ e2) fun mv g2 n p q=>?_
 exact⟨od,od,mv,e2,⟨k,rfl,rfl,g2⟩,g2,n,p,q⟩
noncomputable def xe(d:V):Prop:=∀h v,Is h d v→handedIn v=true
theorem dK{i:Int}:xe (.int i):=fun h v x=>by refine q4 (aY x) fun t Kb=>?_;obtain rfl:=Kb;rfl
theorem bz{a:Addr}:xe (.ref a):=fun h v x=>by obtain rfl:=aG x;rfl
theorem bA{K:Frag}(KX:K.In c.base){C:Addr}(PC:my K C){e:Expr}{name:Str}{pos:Pos}{x dx:Addr}{fs:List (Str×V)}{d:V}(he:Pe c f e m H (.ref x))(I:cq H x C dx fs)(hl:fs.lookup name=some d)(hd:xe d)(oU:findIn K (.ref C) name=some none)
  (dA:autoParam (attributeBase e name f.env (eval e f.env)=eval e f.env) aR._auto_1):Pe c f (.Attribute e name pos) m H d:=.mk fun s S=>by
 rw[arm_eval_Attribute,dA]
 refine wpAny_bind (wpAny_mono (he.run s S) (fun v s₁ z=>?_) fun _ _ z=>z)
 refine jB z fun t₁ i₁ S₁=>?_;clear z
 obtain rfl:=aG i₁
 refine vl (I.at S₁) fun od T7 mv e0 IA g n p q=>?_
 refine q2 (q name d hl) fun u ev iv=>?_
 refine q2 (any_some PC.has) fun cd hc hh=>?_
 refine wpAny_bind (wpAny_standAt (wpAny_bind (wpAny_holding (get_value (v:=u) (pS KX S₁) IA PC.ga ?_ (hd _ _ iv) ?_))))
 ·unfold findObj
  rw[hc,oU]
  have e1:W.ownOf cd (some od) name=some (some u):=by unfold W.ownOf;rw[if_pos hh];show lookIn name od=_;rw[nr n.ns g,ev]
  simp only[Option.bind_some]
  rw[e1];rfl
 ·refine wpAny_bind (wpAny_letTemporaryGo (wpAny_pure ⟨t₁,d,_,iv,S₁.grow (s':={ s₁ with toks:=s₁.toks+1 }) (aM.refl _) rfl rfl,rfl,rfl⟩))
theorem kc{od:Obj}{h:Heap}{dx:Addr}{mv:Str→Option Value}{name:Str}(n:h.Ns dx mv)(g:h.get? dx=some od)(e:mv name=none):shadowIn (some od) name=some false:=by
 show Option.map _ (lookIn name od)=_;rw[nr n g,e];rfl
theorem Fn.opA{k:Nat}{fv:Value}{args:List V}(h:Fn c k fv args H Q X){A:Around}(R:bw k A)(hf:A.frames=some f.bK){vs:List Value}{s:Shared}(S:St c f m H s)(i:aA s.heap args vs):
  codeAny c.M A (.call fv ⟨vs,[]⟩) (fun r s'=>match r with | .ok (.ret v)=>hA c f m Q s v s' | .ok _=>False | .error x=>iY c f m X x s') s:=by
 refine codeAny_mono (h.run A f.bK s vs R hf S.ent i) fun r s' z=>?_
 refine q2 z fun H' L zI=>?_;clear z;have z:=zI;clear zI
 refine q3 (S.back L) fun S' t=>?_
 cases r with
 | error x=>refine q0 z fun C e J8 g q=>?_;clear z;obtain rfl:=J8;exact⟨C,H',e,rfl,S',g.fly S,q⟩
 | ok fl=>cases fl with
  | ret v=>refine q2 z fun d i' q=>?_;clear z;exact⟨t,d,H',i',S',q⟩
  | _=>exact z.elim
theorem Ht{K:Frag}(KX:K.In c.base){C:Addr}(PC:my K C){o e:Expr}{es:List Expr}{name:Str}{ap p:Pos}{x dx fa:Addr}{of:Obj}{fd:FuncData}{fs:List (Str×V)}{k:Nat}(R:bw k f.A)(pW:f.A.frames=some f.bK)
  (ho:Pe c f o m H (.ref x)) (I:cq H x C dx fs) (hl:fs.lookup name=none) (hf:findIn K (.ref C) name=some (some (.ref fa))) (ht:typeIn K (.ref fa)=some (.type "function")) (GC:c.base.get? fa=some of) (jW:of.data=.func fd)
  (hs:oJ c f (e::es) p m H (fun ds H'=>Fn c k (.ref fa) (.ref x::ds) H' Q X) X)
  (dA:autoParam (attributeBase o name f.env (eval o f.env)=eval o f.env) aR._auto_1)
  (lV:autoParam (methodCallForm ((e::es).length+([]:List Keyword).length) (backTo p (starEach (e::es) f.env)) (backToKw p (keywordEach [] f.env))=true) aR._auto_1)
  (dY:autoParam ((ap.endLine == p.line)=true) aR._auto_1) (he:autoParam (starEach (e::es) f.env=(false,eval e f.env)::starEach es f.env) aR._auto_1) :
  Ev c f (.Call (.Attribute o name ap) (e::es) [] p) m H Q X:=.mk fun s S=>by
 rw[arm_eval_Call,dA]
 refine wpAny_bind (wpAny_mono (ho.run s S) (fun v s₁ z=>?_) fun _ _ z=>?_)
 ·refine jB z fun t₁ i₁ S₁=>?_;clear z
  obtain rfl:=aG i₁
  refine vl (I.at S₁) fun od T7 mv e0 IA g n pn q=>?_
  have wu:methodCallPos true o f.env ap p=pure p:=by unfold methodCallPos;simp[dY]
  refine wpAny_bind (wpAny_standAt ?_)
  unfold methodCall
  rw[lV]
  refine wpAny_bind (wpAny_holding ?_)
  show wpAny _ _ (getMethod (.ref x) name _) _ _ _
  refine method_fn (pS KX S₁) IA PC.ga PC.gt hf ht (kc n.ns g (pn name hl)) ?_
  show wpAny _ _ (methodCallPos true o f.env ap p >>= _) _ _ _
  rw[wu]
  refine wpAny_bind (wpAny_pure ?_)
  refine callWith_meth (h₀:=c.base) jW GC (wpAny_mono (hs.run s₁ S₁) (fun vs s₂ z=>?_) fun _ _ x=>x) he
  refine mL z fun ds H₂ t₂ i₂ S₂ q₂=>?_;clear z
  refine⟨fun b o e=>S₂.base b o e,?_⟩
  exact wpAny_mono (q₂.op R pW S₂ (cZ (br) i₂)) (fun v s₃ CT=>q3 CT fun t₃ r=>⟨t₁.trans (t₂.trans t₃),r⟩) fun _ _ x=>x
 ·refine q7 z fun _ _ _ _ _ _ zG=>?_;clear z;have z:=zG;clear zG;exact z.elim
theorem hF{K:Frag}(KX:K.In c.base){C:Addr}(PC:my K C){o:Expr}{name:Str}{ap p:Pos}{x dx fa:Addr}{of:Obj}{fd:FuncData}{fs:List (Str×V)}{k:Nat}(R:bw k f.A)(pW:f.A.frames=some f.bK)
  (ho:Pe c f o m H (.ref x)) (I:cq H x C dx fs) (hl:fs.lookup name=none) (hf:findIn K (.ref C) name=some (some (.ref fa))) (ht:typeIn K (.ref fa)=some (.type "function")) (GC:c.base.get? fa=some of) (jW:of.data=.func fd)
  (h:Fn c k (.ref fa) [.ref x] H Q X)
  (dA:autoParam (attributeBase o name f.env (eval o f.env)=eval o f.env) aR._auto_1)
  (dY:autoParam ((ap.endLine == p.line)=true) aR._auto_1) :
  Ev c f (.Call (.Attribute o name ap) [] [] p) m H Q X:=.mk fun s S=>by
 rw[arm_eval_Call,dA]
 refine wpAny_bind (wpAny_mono (ho.run s S) (fun v s₁ z=>?_) fun _ _ z=>?_)
 ·refine jB z fun t₁ i₁ S₁=>?_;clear z
  obtain rfl:=aG i₁
  refine vl (I.at S₁) fun od T7 mv e0 IA g n pn q=>?_
  have wu:methodCallPos true o f.env ap p=pure p:=by unfold methodCallPos;simp[dY]
  refine wpAny_bind (wpAny_standAt ?_)
  unfold methodCall
  rw[show methodCallForm (([]:List Expr).length+([]:List Keyword).length) (backTo p (starEach [] f.env)) (backToKw p (keywordEach [] f.env))=true from rfl]
  refine wpAny_bind (wpAny_holding ?_)
  show wpAny _ _ (getMethod (.ref x) name _) _ _ _
  refine method_fn (pS KX S₁) IA PC.ga PC.gt hf ht (kc n.ns g (pn name hl)) ?_
  show wpAny _ _ (methodCallPos true o f.env ap p >>= _) _ _ _
  rw[wu]
  refine wpAny_bind (wpAny_pure ?_)
  refine callWith_meth0 jW (S₁.base fa of GC) ?_
  exact wpAny_mono (h.op R pW S₁ (eh (br))) (fun v s₃ CS=>q3 CS fun t₃ r=>⟨t₁.trans t₃,r⟩) fun _ _ x=>x
 ·refine q7 z fun _ _ _ _ _ _ zF=>?_;clear z;have z:=zF;clear zF;exact z.elim
theorem c8{K:Frag}(KX:K.In c.base){C:Addr}(PC:my K C){o value:Expr}{name:Str}{p' p:Pos}{rest:List Stmt}{Q:Ko}
  (h:Ev c f value m H (fun dv H₁=>Ev c f o m H₁ (fun do_ H₂=>∃x dx fs WI,do_=.ref x∧cq H₂ x C dx fs∧fs.length≤1000∧(∀y,WI.lookup y=if y=name then some dv else fs.lookup y)∧∀od,Ex c f rest m (H₂.set dx ⟨od,.attrs WI⟩) Q) (fun C H'=>Q (.exc C) m H')) (fun C H'=>Q (.exc C) m H'))
  (ht:takerIn K C name=some none) (hs:autoParam (swapsWith value (some (.Attribute o name p')) p.line f.env=pure false) aR._auto_1):Ex c f (.Assign [.Attribute o name p'] value p::rest) m H Q:=.mk fun s S=>by
 refine wpAny_execs_cons (plainObj_wpAny_Assign_Attribute (wpAny_mono (h.run s S) (fun v s₁ z=>?_) fun x s' z=>z.ex fun _ _ y=>y) hs)
 refine mL z fun dv H₁ t₁ i₁ S₁ q₁=>?_;clear z
 refine wpAny_mono (q₁.run s₁ S₁) (fun vo s₂ z=>?_) fun x s' z=>z.ex fun _ _ y=>y
 refine q62 z fun H₂ x dx fs WI t₂ i₂ S₂ I lV HN k=>?_;clear z
 obtain rfl:=aG i₂
 refine vl (I.at S₂) fun od T7 mv e0 IA g n pn q=>?_
 refine q2 (any_some PC.has) fun cd hc hh=>?_
 have X:=pS KX S₂
 refine set_plain X IA PC.sa (osa_open (s:={ s₂ with toks:=s₂.toks+1 }) X IA PC.over ht fun b=>?_)
 have X':K.In ({ s₂ with toks:=s₂.toks+1 }:Shared).heap:=X
 refine wpAny_bind (wpAny_pure (wpAny_bind (wpAny_bind (wpAny_loadPart IA.at_ (wpAny_bind ((looks_clsIn X' hc).here ?_))))))
 rw[hh]
 refine wpAny_pure (a:=some dx) (wpAny_bind (wpAny_pure (wpAny_bind (wpAny_nsSet1 (s:={ s₂ with toks:=s₂.toks+1 }) n fun h' n' sb=>?_))))
 have nt:Tk s₂.heap h':=fun b o₁ _ _ e cl dt=>⟨o₁,by
  by_cases z:b=dx
  ·subst z;refine q8 n fun o' es ep g' dd _=>?_;clear n;rw[g'] at e;cases e;rw[dd] at dt;cases dt
  ·exact sb.extBut b o₁ z e,cl,dt⟩
 refine q6 (id n') fun o' U8 WL g' r'=>?_
 have iv:Is h' dv v:=(i₁.tk t₂).tk nt
 have:=S₂.upd (s':={ s₂ with heap:=h',toks:=s₂.toks+1+1 }) (y:=⟨o',.attrs WI⟩) e0 sb.extBut rfl rfl ⟨g',_,n',fun y hy=>?_,fun y d hy=>?_⟩
 ·have sz:=ye n' (fs:=(name,dv)::fs) (fun y hy=>by
   by_cases z:y=name
   ·subst z;simp at hy
   ·rw[if_neg z];refine pn y ?_
    rw[List.lookup_cons,show(y == name)=false from beq_false_of_ne z] at hy;exact hy) g' r'.1
  have wC:1000000≤sizeLine:=by decide
  have W8:U8.size≤sizeLine+1:=by rw[List.length_cons] at sz;exact TA lV sz wC
  exact wpAny_bind (wpAny_lookBehind g' (by rw[r'.1];exact pastItsLine_dict W8) (wpAny_pure ((k o').run _ this.1)))
 ·rw[HN] at hy
  by_cases z:y=name
  ·rw[if_pos z] at hy;cases hy
  ·rw[if_neg z] at hy;rw[if_neg z];exact pn y hy
 ·rw[HN] at hy
  by_cases z:y=name
  ·rw[if_pos z] at hy ⊢;cases hy;exact⟨v,rfl,iv⟩
  ·rw[if_neg z] at hy ⊢;refine q2 (q y d hy) fun u a b=>?_;exact⟨u,a,b.tk nt⟩
theorem bw.make{k:Nat}{A:Around}(h:bw (k+1) A)(C:Addr)(vs:List Value):bw k (A.under (.builtin "type.__call__" ⟨.ref C::vs,[]⟩)):=
 ⟨h.handled,by show A.depth+1+3*k+10<_;have:=h.depth;exact om0 this,by show A.units+1+12*k+200<_;have:=h.units;exact Tx this⟩
theorem zi{K:Frag}(KX:K.In c.base){C fI:Addr}{x:Str}{p₁ p:Pos}{e:Expr}{d:V}{k:Nat}(Kc:cV c)(g:GN c x (.ref C))(R:bw (k+1) f.A)(pW:f.A.frames=some f.bK)(hm:makesIn K C=true)(hi:findIn K (.ref C) "__init__"=some (some (.ref fI)))(hf:typeIn K (.ref fI)=some (.type "function"))(GG:keepIn K (.ref C)=true)
  (h1:Pe c f e m H d)
  (h:∀xa dx oi od,H xa=none→H dx=none→xa≠dx→Fn c k (.ref fI) [.ref xa,d] ((H.set dx ⟨od,.attrs []⟩).set xa ⟨oi,.inst C dx⟩) (fun r H'=>r=.none∧Q (.ref xa) H') X)
  (hg:autoParam (f.env.globals=mainGlobals) aR._auto_1) (hb:autoParam (f.env.builtins=builtinsNs) aR._auto_1)
  (hk:autoParam (f.env.scope.kind=.function) aR._auto_1) (hn:autoParam (f.env.kindOf x=some .globalImplicit) aR._auto_1) (hd:autoParam ((x == ("__debug__":Str))=false) aD._auto_1) (he:autoParam (starEach [e] f.env=(false,eval e f.env)::starEach [] f.env) aR._auto_1):Ev c f (.Call (.Name x p₁) [e] [] p) m H Q X:=.mk fun s S=>by
 refine Call_ (wpAny_mono ((bF Kc g hg hb hk hn hd).run s S) (fun v s₁ z=>?_) fun _ _ z=>?_)
 ·refine jB z fun t₁ i₁ S₁=>?_;clear z
  obtain rfl:=aG i₁
  refine callWith_K (h₀:=c.base) KX GG (wpAny_mono ((au h1 aU he p).run s₁ S₁) (fun vs s₂ z=>?_) fun _ _ z=>?_) he rfl
  ·refine jB z fun t₂ i₂ S₂=>?_;clear z
   have X2:=pS KX S₂
   refine⟨X2,wpAny_call ?_⟩
   obtain⟨hh,gg,dd,tt,os⟩:=s₂
   refine make_core (makes_of X2 hm) (looks_findIn X2 hi) (fun self=>bind_fn X2 self hf) (.inl rfl) ?_
   have big:=S₂.d5 Kc
   have S₃:=S₂.alloc (s':=⟨hh.push emptyDict,gg,dd,tt,os⟩) (a:=hh.objs.size) (x:=⟨emptyDict,.attrs []⟩) (aM.push _ _) rfl rfl (eM _) big
    ⟨Heap.get?_push_size _ rfl,_,Heap.Ns1.of_empty (Heap.Ns.new _ _),fun _ _=>rfl,fun _ _ e=>nomatch e⟩
   have S₄:=S₃.alloc (s':=⟨(hh.push emptyDict).push (instObj C hh.objs.size),gg,dd,tt,os⟩) (a:=hh.objs.size+1) (x:=⟨instObj C hh.objs.size,.inst C hh.objs.size⟩) (aM.push _ _) rfl rfl
    (by have:=eM (hh.push emptyDict);rwa [Heap.size_push] at this) (Nat.lt_succ_of_lt big) (by
     have:((hh.push emptyDict).push (instObj C hh.objs.size)).get? (hh.objs.size+1)=some (instObj C hh.objs.size):=by
      have:=Heap.get?_push_size (hh.push emptyDict) (o:=instObj C hh.objs.size) rfl
      rwa [Heap.size_push] at this
     exact⟨this,this⟩)
   have n1:=S₂.c6 (eM hh)
   have n2:=S₂.c6 (a:=hh.objs.size+1) (by
    cases q:hh.get? (hh.objs.size+1) with
    | none=>rfl
    | some o=>exact absurd (Heap.lt_size q) (Nat.not_lt.mpr (Nat.le_succ _)))
   have ii:aA ((hh.push emptyDict).push (instObj C hh.objs.size)) [.ref (hh.objs.size+1),d] (.ref (hh.objs.size+1)::vs):=cZ (br) (i₂.tk ((aM.push _ _).trans (aM.push _ _)).tk)
   refine codeAny_mono (Fn.opA (h (hh.objs.size+1) hh.objs.size _ _ n2.1 n1.1 (Nat.succ_ne_self _)) (R.make C vs) pW S₄ ii) fun r s' z=>?_
   cases r with
   | error x=>exact z
   | ok fl=>cases fl with
    | ret v=>
     refine z5 z fun H₃ t₃ i₃ S₃' q=>?_;clear z
     refine⟨aG i₃,t₁.trans (t₂.trans (((aM.push _ _).trans (aM.push _ _)).tk.trans t₃)),_,H₃,br,S₃',q⟩
    | _=>exact z.elim
  ·refine q7 z fun _ _ _ _ _ _ zE=>?_;clear z;have z:=zE;clear zE;exact z.elim
 ·refine q7 z fun _ _ _ _ _ _ zD=>?_;clear z;have z:=zD;clear zD;exact z.elim
end
end Mine
namespace Mine
open PySem PyProof.Rows PySem.Builtin PySem.W PySem.Calls
theorem qd:bootBuiltins (Str.ofString "reversed")=some (.type "reversed"):=by decide +kernel
section
variable {c:Cx} {f:Fx} {m:bL} {H:AH} {X:Value→AH→Prop}
theorem xw{x:Str}{p₁ p:Pos}{e:Expr}{Q:List V→List Addr→AH→Prop}(hh:f.A.handled=none)
  (h:Ev c f (.Name x p₁) m H (fun d H'=>d=.raw (.type "reversed")∧Ev c f e m H' (fun d H₁=>∃a ds,d=.ref a∧ai H₁ a ds∧Q ds.reverse [a] H₁) X) X)
  (he:autoParam (starEach [e] f.env=[(false,eval e f.env)]) aR._auto_1):mT c f (.Call (.Name x p₁) [e] [] p) m H Q X:=.mk fun s S=>by
 refine PyProof.Rows.Call_ (wpAny_mono (h s S) (fun v s₁ z=>?_) fun _ _ x=>x)
 refine z5 z fun H₁ t₁ i₁ S₁ q₁=>?_;clear z
 obtain rfl:=aG i₁
 refine PyProof.Rows.callWith_type1 (PyProof.Rows.args_cons (wpAny_mono (q₁ s₁ S₁) (fun v s₂ z=>?_) fun _ _ x=>x) he) he rfl
 refine X7 z fun H₂ a ds t₂ i₂ S₂ J0 q=>?_;clear z;obtain⟨o,ha⟩:=J0
 obtain rfl:=aG i₂
 refine tv (S₂.rep.list ha) fun vs n g c1 c2 c3 ia=>?_
 have hl:s₂.heap.IsList a vs.toArray:=⟨o,g,c1,n,c3⟩
 have hI:=eM s₂.heap
 refine vk (S₂.c6 hI) fun _ b2 _ _ _ b6=>?_
 have de:a≠s₂.heap.objs.size:=Nat.ne_of_lt (Heap.lt_size g)
 have hit:(s₂.heap.push (revObj a ((vs.toArray.size:Int)-1))).IsRevIter s₂.heap.objs.size a ((vs.toArray.size:Int)-1):=⟨_,Heap.get?_push_size _ rfl,rfl,rfl⟩
 refine PyProof.Rows.args_nil (call_reversed_list hl (wpAny_pyIter_revIter hit ⟨_,ds.reverse,[a],H₂,rfl,t₁.trans (t₂.trans (aM.push _ _).tk),S₂.grow (aM.push _ _) rfl rfl,b2,b6,?_,q⟩))
 have W:=Walks.listRev (prog:=c.prog) (w:=c.w) hh s₂.heap.objs.size a de vs.toArray
 have hsz:vs.toArray.size=ds.length:=by rw[List.size_toArray];exact ia.length
 have Ux:vs.toArray.size=ds.reverse.length:=by rw[hsz,List.length_reverse]
 rw[Ux] at W hit
 refine⟨_,_,_,W,⟨Nat.zero_le _,?_,hl.push _⟩,fun i h st=>?_,fun b hb=>?_,fun b hb=>?_,fun i v d H' h hP hd R B e=>?_⟩
 ·rw[Ux];simpa using hit
 ·refine iz st fun _ JZ _=>?_;clear st;obtain⟨o,g,_,d⟩:=JZ;exact⟨o,_,g,d⟩
 ·simp only[List.mem_cons,List.not_mem_nil,or_false] at hb
  rcases hb with rfl | rfl
  ·exact .inl rfl
  ·exact .inr (.inl (.head _))
 ·simp only[List.mem_cons,List.not_mem_nil,or_false] at hb;subst hb;exact⟨_,ha⟩
 ·refine tv (R.list ((e a (.head _)).trans ha)) fun WZ n' g' _ _ Vi jM=>?_
  rw[c3] at Vi
  injection Vi with hv _
  have:vs=WZ:=by simpa using hv
  subst this
  have hi:=(List.getElem?_eq_some_iff.mp hd).1
  rw[List.length_reverse] at hi
  rw[List.getElem?_reverse hi] at hd
  refine q2 (jM.get hd) fun v' e1 e2=>?_
  have:vs[ds.length-1-i]?=some v:=by simpa using hP
  rw[this] at e1;cases e1;exact e2
end
structure fT(old new:List Nat)(a:Int)(gone aS:List Nat):Prop where
 h0:0≤a
 h1:a≤old.length
 fit:(old.take (a+gone.length).toNat).drop a.toNat=gone
 new:new=old.take a.toNat++aS++old.drop (a+gone.length).toNat
theorem fT.gone_le{old new:List Nat}{a:Int}{gone aS:List Nat}(S:fT old new a gone aS):gone.length≤old.length:=by
 have:=congrArg List.length S.fit
 rw[List.length_drop,List.length_take] at this;exact Tv this
theorem fT.come_le{old new:List Nat}{a:Int}{gone aS:List Nat}(S:fT old new a gone aS):aS.length≤new.length:=by
 have:=congrArg List.length S.new
 rw[List.length_append,List.length_append] at this;exact Tw this
noncomputable abbrev gE(a:Int)(gone aS:List Nat):V:=.tup [.int a,.s gone,.s aS]
inductive eL(kvs:List (Int×V))(tx:Int→List Nat)(rk:Int→Nat)(k:Int):V→Prop
 | root:eL kvs tx rk k (.tup [.none,.s (tx k)])
 | lean (b a:Int) (gone aS:List Nat):aJ kvs b→rk b<rk k→fT (tx b) (tx k) a gone aS→eL kvs tx rk k (.tup [.int b,gE a gone aS])
structure bh(kvs:List (Int×V))(tx:Int→List Nat)(rk:Int→Nat):Prop where
 nd:(kvs.map (·.1)).Nodup
 bf:kvs.length≤40
 low:∀k,rk k≤40
 ent:∀k d,aF kvs k=some d→eL kvs tx rk k d
 short:∀k,aJ kvs k→(tx k).length≤20000
noncomputable def aP:V→V
 | .tup (b::_)=>b
 | _=>.none
noncomputable def je:V→V
 | .tup [_,x]=>x
 | _=>.none
noncomputable def bases(kvs:List (Int×V)):List (Int×V):=kvs.map fun p=>(p.1,aP p.2)
theorem aN{kvs:List (Int×V)}{k:Int}:aF (bases kvs) k=(aF kvs k).map aP:=by
 unfold aF bases
 rw[List.find?_map]
 cases q:kvs.find? (fun kv=>decide (kv.1=k)) with
 | none=>rw[show((fun kv:Int×V=>decide (kv.1=k))∘fun p:Int×V=>(p.1,aP p.2))=fun kv=>decide (kv.1=k) from rfl,q];rfl
 | some x=>rw[show((fun kv:Int×V=>decide (kv.1=k))∘fun p:Int×V=>(p.1,aP p.2))=fun kv=>decide (kv.1=k) from rfl,q];rfl
theorem cJ(kvs:List (Int×V)):(bases kvs).map (·.1)=kvs.map (·.1):=by unfold bases;rw[List.map_map];rfl
theorem bh.qD{kvs:List (Int×V)}{tx:Int→List Nat}{rk:Int→Nat}(E:bh kvs tx rk)(de:kvs≠[]):oA (bases kvs) rk:=by
 refine⟨fun e=>de ?_,by unfold bases;rw[List.length_map];exact E.bf,E.low,fun k d hd=>?_⟩
 ·exact List.map_eq_nil_iff.mp e
 ·rw[aN] at hd
  cases q:aF kvs k with
  | none=>rw[q] at hd;cases hd
  | some x=>
   rw[q] at hd;cases hd
   cases E.ent k x q with
   | root=>exact .inl rfl
   | lean b a gone aS hb cA st=>
    refine q4 hb fun d' e'=>?_;clear hb
    exact .inr ⟨b,aP d',rfl,by rw[aN,e'];rfl,cA⟩
theorem bh.MF{kvs:List (Int×V)}{tx:Int→List Nat}{rk:Int→Nat}(E:bh kvs tx rk){k:Int}{d:V}(h:aF kvs k=some d):d=.tup [aP d,je d]:=by
 cases E.ent k d h with
 | root=>rfl
 | lean b a gone aS hb cA st=>rfl
end Mine
namespace Mine
open PySem PyProof.Rows PySem.Builtin PySem.W PySem.Calls
section
variable {c:Cx} {f:Fx} {m:bL} {H:AH} {X:Value→AH→Prop} {Q:V→AH→Prop}
structure bH(c:Cx)(H:AH)(n:Nat)(d₁ d₂:V):Prop where
 eq:∀(s:Shared) (A:Around) (v₁ v₂:Value),mw c H s.heap→(∀a x,H a=some x→cStatics<a)→A.units+4*n<cLine→Is s.heap d₁ v₁→Is s.heap d₂ v₂→SeqAt.EqAt A s v₁ v₂ true
theorem kM.alike{n:Nat}{d₁ d₂:V}(E:kM n d₁ d₂ true):bH c H n d₁ d₂:=⟨fun s A v₁ v₂ S B u i j=>E.eq A s v₁ v₂ u i j⟩
theorem bH.up{n k:Nat}{d₁ d₂:V}(E:bH c H n d₁ d₂)(h:n≤k):bH c H k d₁ d₂:=⟨fun s A v₁ v₂ S B u i j=>E.eq s A v₁ v₂ S B (Tu h u) i j⟩
theorem bH.int(n:Nat)(i:Int):bH c H n (.int i) (.int i):=bH.up (kM.alike (by simpa using kM.int i i)) (Nat.zero_le n)
theorem bH.str(n:Nat)(x:Str):bH c H n (.str x) (.str x):=bH.up (kM.alike (by simpa using kM.str x x)) (Nat.zero_le n)
theorem bH.none(n:Nat):bH c H n .none .none:=bH.up (kM.alike kM.none) (Nat.zero_le n)
theorem bH.tup{n:Nat}{ds es:List V}(hl:ds.length=es.length)(he:∀(j:Nat) d₁ d₂,ds[j]?=some d₁→es[j]?=some d₂→bH c H n d₁ d₂):bH c H (n+1) (.tup ds) (.tup es) where
 eq:=fun s A v₁ v₂ S B u i j=>by
  simp only[Is] at i j
  refine z4 (d0:=v₁) i fun a us JY ia=>?_;clear i;obtain⟨o,k,g,cl,dt⟩:=JY
  refine z4 (d0:=v₂) j fun a' qE JX jM=>?_;clear j;obtain⟨o',k',g',mP,rf⟩:=JX
  by_cases q:a=a'
  ·subst q;exact SeqAt.EqAt.same _
  ·have:=SeqAt.RcAt.tuples (A:=A) (s:=s) (l:=a) (b:=a') (items:=us.toArray) (items2:=qE.toArray) (e:=fun _=>true) ⟨o,g,cl,k,dt⟩ ⟨o',g',mP,k',rf⟩ (qN u) (fun j h1 h2=>by
    simp only[List.size_toArray] at h1 h2
    refine q2 (ia.at h1) fun d₁ q₁ i₁=>?_
    refine q2 (jM.at h2) fun d₂ q₂ i₂=>?_
    exact(he j d₁ d₂ q₁ q₂).eq _ _ _ _ S B (by have:=eN A;exact qM u this) i₁ i₂)
   simp only[List.size_toArray,ia.length,jM.length,hl,Nat.min_self,beq_self_eq_true,Bool.and_true] at this
   have e1:(List.range es.length).all (fun _=>true)=true:=by simp
   rw[e1] at this
   exact SeqAt.EqAt.of_refs q this
theorem bH.list{n:Nat}{a b:Addr}{ds es:List V}(ha:ai H a ds)(hb:ai H b es)(hl:ds.length=es.length)(he:∀(j:Nat) d₁ d₂,ds[j]?=some d₁→es[j]?=some d₂→bH c H n d₁ d₂):bH c H (n+1) (.ref a) (.ref b) where
 eq:=fun s A v₁ v₂ S B u i j=>by
  obtain rfl:=aG i;obtain rfl:=aG j
  by_cases q:a=b
  ·subst q;exact SeqAt.EqAt.same _
  refine q2 (S.plain ha) fun us JW ia=>?_;obtain⟨o,k,g,cl,dn,dt⟩:=JW
  refine q2 (S.plain hb) fun qE JU jM=>?_;obtain⟨o',k',g',mP,HP,rf⟩:=JU
  have:=SeqAt.RcAt.lists (A:=A) (s:=s) (l:=a) (b:=b) (items:=us.toArray) (items2:=qE.toArray) (e:=fun _=>true) ⟨o,g,cl,k,dt⟩ ⟨o',g',mP,k',rf⟩ (by rw[List.size_toArray,List.size_toArray,ia.length,jM.length,hl]) (qN u) (fun j h1 h2=>by
    simp only[List.size_toArray] at h1 h2
    refine q2 (ia.at h1) fun d₁ q₁ i₁=>?_
    refine q2 (jM.at h2) fun d₂ q₂ i₂=>?_
    exact(he j d₁ d₂ q₁ q₂).eq _ _ _ _ S B (by have:=eN A;exact qM u this) i₁ i₂)
  have e1:(List.range us.toArray.size).all (fun _=>true)=true:=by simp
  rw[e1] at this
  exact SeqAt.EqAt.of_refs q this
theorem Hu{n:Nat}{a b:Addr}{ds es:List V}(ha:ai H a ds)(hb:ai H b es)(hl:ds.length=es.length)(he:∀(j:Nat) d₁ d₂,ds[j]?=some d₁→es[j]?=some d₂→bH c H n d₁ d₂)(hu:f.A.units+4*(n+1)<cLine):
  B2 c f H (compareOp .Eq) (.ref a) (.ref b) (.bool true):=.mk fun m s v₁ v₂ S i j=>by
 obtain rfl:=aG i;obtain rfl:=aG j
 refine q2 (S.rep.plain ha) fun us JT ia=>?_;obtain⟨o,k,g,cl,dn,dt⟩:=JT
 refine q2 (S.rep.plain hb) fun qE JR jM=>?_;obtain⟨o',k',g',mP,HP,rf⟩:=JR
 refine SeqAt.eq_listAt (e := fun _ => true) (items := us.toArray) (items2 := qE.toArray) ⟨o, g, cl, k, dt⟩ ⟨o', g', mP, k', rf⟩ (by rw [List.size_toArray, List.size_toArray, ia.length, jM.length, hl]) (qN hu) (fun j h1 h2 => by
    simp only[List.size_toArray] at h1 h2
    refine q2 (ia.at h1) fun d₁ q₁ i₁=>?_
    refine q2 (jM.at h2) fun d₂ q₂ i₂=>?_
    exact(he j d₁ d₂ q₁ q₂).eq _ _ _ _ S.rep S.big (by have:=eN f.A;exact qM hu this) i₁ i₂) ?_
 have e1:(List.range us.toArray.size).all (fun _=>true)=true:=by simp
 rw[e1]
 exact⟨aM.refl _,rfl,rfl,br⟩
theorem rq{n:Nat}{a b:Addr}{ds es:List V}(ha:ai H a ds)(hb:ai H b es)(hl:ds.length=es.length)(he:∀(j:Nat) d₁ d₂,ds[j]?=some d₁→es[j]?=some d₂→bH c H n d₁ d₂)(hu:f.A.units+4*(n+1)<cLine):
  B2 c f H (compareOp .NotEq) (.ref a) (.ref b) (.bool false):=.mk fun m s v₁ v₂ S i j=>by
 obtain rfl:=aG i;obtain rfl:=aG j
 refine q2 (S.rep.plain ha) fun us JS ia=>?_;obtain⟨o,k,g,cl,dn,dt⟩:=JS
 refine q2 (S.rep.plain hb) fun qE JQ jM=>?_;obtain⟨o',k',g',mP,HP,rf⟩:=JQ
 have := SeqAt.RcNeAt.lists (A := f.A) (s := s) (l := a) (b := b) (e := fun _ => true) (items := us.toArray) (items2 := qE.toArray) ⟨o, g, cl, k, dt⟩ ⟨o', g', mP, k', rf⟩ (by rw [List.size_toArray, List.size_toArray, ia.length, jM.length, hl]) (qN hu) (fun j h1 h2 => by
    simp only[List.size_toArray] at h1 h2
    refine q2 (ia.at h1) fun d₁ q₁ i₁=>?_
    refine q2 (jM.at h2) fun d₂ q₂ i₂=>?_
    exact(he j d₁ d₂ q₁ q₂).eq _ _ _ _ S.rep S.big (by have:=eN f.A;exact qM hu this) i₁ i₂)
 have e1:(!(List.range us.toArray.size).all (fun _=>true))=false:=by simp
 rw[e1] at this
 exact this c.prog c.w _ _ ⟨aM.refl _,rfl,rfl,br⟩
theorem ro{a:Addr}{ds:List V}(K:cV c)(h:ai H a ds)(hsz:ds.length≤sizeLine)(q:∀b o,H b=none→Q (.ref b) (H.set b ⟨o,.list ds⟩)):qk c f (fun vs=>call (.type "list") vs) [.ref a] m H Q X:=.mk fun s vs S ia=>by
 simp only[aA] at ia;refine uC (d0:=vs) ia fun v i=>?_;clear ia
 obtain rfl:=aG i
 refine q4 h fun o eo=>?_;clear h
 refine tv (S.rep.list eo) fun us n g c1 c2 c3 ja=>?_
 refine call_list_seq (hsz:=by rw[List.size_toArray,ja.length];exact hsz) a (.inl rfl) g c1 c3 fun h' c' gr hD=>?_
 have gr:aM s.heap h':=gr
 exact⟨gr.tk,.ref _,_,br,S.alloc (s':={ s with heap:=h' }) (x:=⟨_,.list ds⟩) gr rfl rfl (c9 _) (S.d5 K) ⟨hD,us,⟨_,c',hD,rfl,rfl,rfl⟩,ja.tk gr.tk⟩,q _ _ S.lF⟩
theorem aA.drop{h:Heap}:∀ {ds:List V} {vs:List Value} (n:Nat),aA h ds vs→aA h (ds.drop n) (vs.drop n)
 | ds,vs,0,x=>by simpa using x
 | [],_,n+1,x=>by simp only[aA] at x;subst x;simp[aA]
 | d::ds,_,n+1,x=>by
  simp only[aA] at x
  refine q0 x fun v r JP _ z=>?_;clear x;obtain rfl:=JP
  simpa using aA.drop n z
theorem nI{value lo:Expr}{p p':Pos}{a:Addr}{ds:List V}{i:Int}{k:Nat}(K:cV c)(hv:Pe c f value m H (.ref a))(hlo:Pe c f lo m H (.int i))(hl:ai H a ds)(hk:∀us:List Value,us.length=ds.length→slicePick us.toArray (some i) none none=(us.drop k).toArray)(hsz:ds.length≤sizeLine)
  (q:∀b o,H b=none→Q (.ref b) (H.set b ⟨o,.list (ds.drop k)⟩)) (ht:∀o r,letTemporaryGo value o r=pure ():=by intro _ _;rfl) (hp:autoParam (evalPart (some lo) f.env=eval lo f.env) aR._auto_1) :
  Ev c f (.Subscript value (.Slice (some lo) none none p) p') m H Q X:=.mk fun s S=>by
 refine wpAny_Subscript_list_slice (wpAny_mono (hv.run s S) (fun vo s₁ z=>?_) fun _ _ z=>?_) ht
 ·refine jB z fun t₁ i₁ S₁=>?_;clear z
  obtain rfl:=aG i₁
  rw[hp]
  refine wpAny_mono (hlo.run s₁ S₁) (fun vi s₂ z=>?_) fun _ _ z=>?_
  ·refine jB z fun t₂ i₂ S₂=>?_;clear z
   refine q4 (aY i₂) fun u JO=>?_;obtain rfl:=JO
   refine wpAny_pure ?_
   refine q4 hl fun o eo=>?_;clear hl
   refine tv (S₂.rep.list eo) fun us n g c1 c2 c3 ja=>?_
   have hlen:us.length=ds.length:=ja.length
   refine⟨a,us.toArray,some i,none,rfl,⟨o,g,c1,n,c3⟩,by rw[List.size_toArray,hlen];exact hsz,.int i u,.none,?_⟩
   have gr:aM s₂.heap ((s₂.heap.push { cls:=.type "slice",data:=.fields #[.int i u,.none,.none] }).push { cls:=.type "list",data:=.seq (slicePick us.toArray (some i) none none) }):=(aM.push _ _).trans (aM.push _ _)
   have e1:slicePick us.toArray (some i) none none=(us.drop k).toArray:=hk us hlen
   have g2:((s₂.heap.push { cls:=.type "slice",data:=.fields #[.int i u,.none,.none] }).push { cls:=.type "list",data:=.seq (slicePick us.toArray (some i) none none) }).get? (s₂.heap.objs.size+1)=some { cls:=.type "list",data:=.seq (slicePick us.toArray (some i) none none) }:=by
    have:=Heap.get?_push_size (s₂.heap.push { cls:=.type "slice",data:=.fields #[.int i u,.none,.none] }) (o:={ cls:=.type "list",data:=.seq (slicePick us.toArray (some i) none none) }) rfl
    rwa [Heap.size_push] at this
   have fresh:s₂.heap.get? (s₂.heap.objs.size+1)=none:=by
    cases q:s₂.heap.get? (s₂.heap.objs.size+1) with
    | none=>rfl
    | some o=>exact absurd (Heap.lt_size q) (Nat.not_lt.mpr (Nat.le_succ _))
   refine⟨t₁.trans (t₂.trans gr.tk),.ref _,_,br,S₂.alloc (x:=⟨_,.list (ds.drop k)⟩) gr rfl rfl fresh (Nat.lt_succ_of_lt (S₂.d5 K)) ⟨g2,us.drop k,⟨_,_,g2,rfl,rfl,by rw[e1]⟩,(ja.drop _).tk gr.tk⟩,q _ _ (S₂.c6 fresh).1⟩
  ·refine q7 z fun _ _ _ _ _ _ zC=>?_;clear z;have z:=zC;clear zC;exact z.elim
 ·refine q7 z fun _ _ _ _ _ _ zB=>?_;clear z;have z:=zB;clear zB;exact z.elim
theorem oM{value lo:Expr}{p p':Pos}{a:Addr}{ds:List V}{i:Int}(K:cV c)(hv:Pe c f value m H (.ref a))(hlo:Pe c f lo m H (.int i))(hl:ai H a ds)(UL:0≤i)(tS:i≤ds.length)(hsz:ds.length≤sizeLine)
  (q:∀b o,H b=none→Q (.ref b) (H.set b ⟨o,.list (ds.drop i.toNat)⟩)) (ht:∀o r,letTemporaryGo value o r=pure ():=by intro _ _;rfl) (hp:autoParam (evalPart (some lo) f.env=eval lo f.env) aR._auto_1) :
  Ev c f (.Subscript value (.Slice (some lo) none none p) p') m H Q X:=
 nI K hv hlo hl (fun us hlen=>by
  have:=slicePick_from us.toArray i.toNat (by rw[List.size_toArray,hlen];exact Tr tS)
  rw[Int.toNat_of_nonneg UL] at this
  exact this) hsz q ht hp
theorem w7{x:Str}{p:Pos}{i:Int}{t:Tok}(K:cV c)(hx:GN c x (.int i t))(hg:autoParam (f.env.globals=mainGlobals) aR._auto_1)(hb:autoParam (f.env.builtins=builtinsNs) aR._auto_1)
  (hk:autoParam (f.env.scope.kind=.function) aR._auto_1) (hn:autoParam (f.env.kindOf x=some .globalImplicit) aR._auto_1) (hd:autoParam ((x == ("__debug__":Str))=false) aD._auto_1):Pe c f (.Name x p) m H (.int i):=.mk fun s S=>
 wpAny_mono ((bF K hx hg hb hk hn hd).run s S) (fun v s' CR=>xY CR fun d H' t₁ i₁ S' e1 e2=>by subst e1;obtain rfl:=aG i₁;exact⟨t₁,.int i,H',cI,S',rfl,e2⟩) fun _ _ z=>z
end
end Mine
namespace Mine
open PySem
theorem iE:∀ {l l':List Int},l.Perm l'→l.Pairwise (·≤·)→l'.Pairwise (·≤·)→l=l'
 | [],l',p,_,_=>(List.nil_perm.mp p).symm
 | x::r,l',p,s,s'=>by
  cases l' with
  | nil=>exact absurd p.symm (by simp)
  | cons y r'=>
   rw[List.pairwise_cons] at s s'
   have hx:x∈y::r':=p.mem_iff.mp (.head _)
   have hy:y∈x::r:=p.mem_iff.mpr (.head _)
   have e:x=y:=by
    rcases List.mem_cons.mp hx with e | hx
    ·exact e
    ·rcases List.mem_cons.mp hy with e | hy
     ·exact e.symm
     ·have a:=s.1 y hy;have b:=s'.1 x hx;exact BF a b
   subst e
   rw[iE (List.perm_cons x |>.mp p) s.2 s'.2]
structure fR(kvs:List (Int×V))(aX:List Int):Prop where
 pm:aX.Perm (kvs.map (·.1))
 pw:aX.Pairwise (·≤·)
theorem fR.uniq{kvs:List (Int×V)}{s s':List Int}(h:fR kvs s)(h':fR kvs s'):s=s':=iE (h.pm.trans h'.pm.symm) h.pw h'.pw
theorem fR.mem{kvs:List (Int×V)}{s:List Int}(h:fR kvs s){k:Int}:k∈s↔aJ kvs k:=by rw[h.pm.mem_iff,ay]
theorem fR.nd{kvs:List (Int×V)}{s:List Int}(h:fR kvs s)(nd:(kvs.map (·.1)).Nodup):s.Nodup:=h.pm.nodup_iff.mpr nd
theorem fR.len{kvs:List (Int×V)}{s:List Int}(h:fR kvs s):s.length=kvs.length:=by have:=h.pm.length_eq;simpa using this
theorem fR.of_keys{kvs kvs':List (Int×V)}{s:List Int}(h:fR kvs s)(e:(kvs.map (·.1)).Perm (kvs'.map (·.1))):fR kvs' s:=⟨h.pm.trans e,h.pw⟩
noncomputable def aE(kvs:List (Int×V))(k:Int):V:=(aF kvs k).getD .none
theorem jH{kvs:List (Int×V)}{k:Int}{d:V}(h:aF kvs k=some d):aE kvs k=d:=by unfold aE;rw[h];rfl
theorem aB{kvs:List (Int×V)}{k:Int}(h:aJ kvs k):aF kvs k=some (aE kvs k):=by refine q4 h fun d e=>?_;clear h;rw[jH e,e]
noncomputable def row(kvs:List (Int×V))(k:Int):V:=.tup [.int k,aP (aE kvs k),je (aE kvs k)]
noncomputable def cX(kvs:List (Int×V))(aX:List Int):List V:=aX.map (row kvs)
noncomputable def heldOf(kvs:List (Int×V))(aX:List Int):List (Int×V):=aX.map fun k=>(k,aE kvs k)
theorem dr(kvs:List (Int×V))(aX:List Int):(heldOf kvs aX).map (·.1)=aX:=by unfold heldOf;rw[List.map_map];simp[Function.comp_def]
theorem iP{kvs:List (Int×V)}{aX:List Int}(h:fR kvs aX)(k:Int):aF (heldOf kvs aX) k=aF kvs k:=by
 by_cases hk:aJ kvs k
 ·rw[heldOf,fM (g:=fun k=>aE kvs k) (h.mem.mpr hk),aB hk]
 ·have e1:aF kvs k=none:=by cases q:aF kvs k with | none=>rfl | some d=>exact(hk ⟨d,q⟩).elim
  rw[e1,eQ,dr]
  exact fun q=>hk (h.mem.mp q)
noncomputable def dS(kvs kvs':List (Int×V)):Prop:=∀k,aF kvs k=aF kvs' k
theorem dS.key{kvs kvs':List (Int×V)}(h:dS kvs kvs'){k:Int}:aJ kvs k↔aJ kvs' k:=by unfold aJ;rw[h k]
theorem dS.aE{kvs kvs':List (Int×V)}(h:dS kvs kvs')(k:Int):aE kvs k=aE kvs' k:=by unfold Mine.aE;rw[h k]
theorem dS.row{kvs kvs':List (Int×V)}(h:dS kvs kvs'):row kvs=row kvs':=funext fun k=>by unfold Mine.row;rw[h.aE]
theorem dS.rows{kvs kvs':List (Int×V)}(h:dS kvs kvs')(s:List Int):cX kvs s=cX kvs' s:=by unfold cX;rw[h.row]
theorem i9{l l':List Int}(n:l.Nodup)(n':l'.Nodup)(h:∀x,x∈l↔x∈l'):l.Perm l':=by
 induction l generalizing l' with
 | nil=>cases l' with
  | nil=>exact .refl _
  | cons y r=>exact absurd ((h y).mpr (.head _)) (by simp)
 | cons x r ih=>
  rw[List.nodup_cons] at n
  have hx:x∈l':=(h x).mp (.head _)
  refine(List.Perm.cons x (ih n.2 (n'.erase x) fun y=>?_)).trans (List.perm_cons_erase hx).symm
  rw[n'.mem_erase_iff]
  constructor
  ·intro hy;exact⟨fun e=>n.1 (e▸hy),(h y).mp (.tail _ hy)⟩
  ·rintro⟨de,hy⟩
   rcases List.mem_cons.mp ((h y).mpr hy) with e | e
   ·exact(de e).elim
   ·exact e
theorem dS.aX{kvs kvs':List (Int×V)}(h:dS kvs kvs')(n:(kvs.map (·.1)).Nodup)(n':(kvs'.map (·.1)).Nodup){s:List Int}(S:fR kvs s):fR kvs' s:=
 S.of_keys (i9 n n' fun x=>by rw[← ay,← ay];exact h.key)
theorem dS.bases{kvs kvs':List (Int×V)}(h:dS kvs kvs'):dS (bases kvs) (bases kvs'):=fun k=>by rw[aN,aN,h k]
theorem dS.chain{kvs kvs':List (Int×V)}(h:dS kvs kvs'){k:Int}{xs:List Int}(c:av kvs k xs):av kvs' k xs:=by
 induction c with
 | stop e=>exact .stop ((h _).symm.trans e)
 | step e _ ih=>exact .step ((h _).symm.trans e) ih
theorem eL.grow{kvs kvs':List (Int×V)}{tx Ia:Int→List Nat}{rk:Int→Nat}{k:Int}{d:V}(E:eL kvs tx rk k d)(hk:aJ kvs k)(h:∀x,aJ kvs x→aJ kvs' x∧Ia x=tx x):eL kvs' Ia rk k d:=by
 cases E with
 | root=>rw[← (h k hk).2];exact .root
 | lean b a gone aS hb cA st=>exact .lean b a gone aS (h b hb).1 cA (by rw[(h b hb).2,(h k hk).2];exact st)
theorem bh.dj{kvs kvs':List (Int×V)}{tx:Int→List Nat}{rk:Int→Nat}(E:bh kvs tx rk)(h:dS kvs kvs')(nd:(kvs'.map (·.1)).Nodup)(bf:kvs'.length≤40):bh kvs' tx rk:=
 ⟨nd,bf,E.low,fun k d hd=>by rw[← h k] at hd;exact(E.ent k d hd).grow ⟨d,hd⟩ fun x hx=>⟨h.key.mp hx,rfl⟩,fun k hk=>E.short k (h.key.mpr hk)⟩
theorem bh.put{kvs:List (Int×V)}{tx:Int→List Nat}{rk:Int→Nat}(E:bh kvs tx rk){x:Int}{d:V}{l:List Nat}(hx:x∉kvs.map (·.1))(hf:kvs.length<40)(hl:l.length≤20000)
  (hd:d=.tup [.none,.s l]∨∃b a gone aS,d=.tup [.int b,gE a gone aS]∧aJ kvs b∧rk b<rk x∧fT (tx b) l a gone aS):bh (kvs++[(x,d)]) (fun y=>if y=x then l else tx y) rk:=by
 have kx:∀y,aJ kvs y→y≠x:=fun y hy e=>hx (e▸ay.mp hy)
 have up:∀y,aJ kvs y→aJ (kvs++[(x,d)]) y∧(if y=x then l else tx y)=tx y:=fun y hy=>by
  refine⟨?_,if_neg (kx y hy)⟩
  rw[ay,List.map_append];exact List.mem_append.mpr (.inl (ay.mp hy))
 refine⟨?_,by rw[List.length_append];exact hf,E.low,fun k d' hk=>?_,fun k hk=>?_⟩
 ·rw[List.map_append,List.nodup_append]
  refine⟨E.nd,by simp,fun a ha b hb=>?_⟩
  simp at hb;subst hb
  exact fun e=>hx (e▸ha)
 ·rw[bC hx] at hk
  by_cases e:k=x
  ·subst e
   rw[if_pos rfl] at hk;injection hk with hk;subst hk
   rcases hd with rfl | ⟨b,a,gone,aS,rfl,hb,cA,st⟩
   ·have:=eL.root (kvs:=kvs++[(k,V.tup [.none,.s l])]) (tx:=fun y=>if y=k then l else tx y) (rk:=rk) (k:=k)
    simpa using this
   ·refine .lean b a gone aS (up b hb).1 cA ?_
    rw[(up b hb).2,if_pos rfl];exact st
  ·rw[if_neg e] at hk
   exact(E.ent k d' hk).grow ⟨d',hk⟩ up
 ·by_cases e:k=x
  ·rw[if_pos e];exact hl
  ·rw[if_neg e]
   refine E.short k ?_
   rw[ay,List.map_append] at hk
   rcases List.mem_append.mp hk with q | q
   ·exact ay.mpr q
   ·simp at q;exact(e q).elim
theorem bh.nil{tx:Int→List Nat}{rk:Int→Nat}(h:∀k,rk k≤40):bh [] tx rk:=
 ⟨by simp,by simp,h,(fun k d e=>nomatch e),(fun k CQ=>q4 CQ fun d e=>nomatch e)⟩
theorem bh.chain{kvs:List (Int×V)}{tx:Int→List Nat}{rk:Int→Nat}(E:bh kvs tx rk){k:Int}(hk:aJ kvs k):∃xs,av (bases kvs) k xs∧xs.length≤41:=by
 have de:kvs≠[]:=fun e=>by subst e;refine q4 hk fun d q=>?_;clear hk;cases q
 refine q4 hk fun d e=>?_;clear hk
 refine q2 ((E.qD de).chain (rk k) k (aP d) (Nat.le_refl _) (by rw[aN,e];rfl)) fun xs h l=>?_
 have:=E.low k
 exact⟨xs,h,by exact MI l this⟩
noncomputable def Gq:V→Int
 | .str x=>x.length
 | _=>0
noncomputable def Ug:List V→Int
 | [_,g,c]=>Gq g+Gq c
 | _=>0
noncomputable def Uh:V→Int
 | .str x=>x.length
 | .tup l=>Ug l
 | _=>0
noncomputable def yk(d:V):Int:=Uh (je d)
theorem kj(d:V):0≤Gq d:=by
 cases d <;> first | exact Int.natCast_nonneg _ | exact Int.le_refl 0
theorem pL:∀l,0≤Ug l
 | []=>Int.le_refl 0
 | [_]=>Int.le_refl 0
 | [_,_]=>Int.le_refl 0
 | [_,g,c]=>Int.add_nonneg (kj g) (kj c)
 | _::_::_::_::_=>Int.le_refl 0
theorem pN(d:V):0≤Uh d:=by
 cases d <;> first | exact Int.natCast_nonneg _ | exact Int.le_refl 0 | exact pL _
noncomputable def iC(kvs:List (Int×V)):List Int→Int
 | []=>0
 | k::r=>yk (aE kvs k)+iC kvs r
theorem s7{kvs:List (Int×V)}{l l':List Int}(p:l.Perm l'):iC kvs l=iC kvs l':=by
 induction p with
 | nil=>rfl
 | cons x _ ih=>simp only[iC,ih]
 | swap x y l=>simp only[iC];exact Tq
 | trans _ _ ih1 ih2=>exact ih1.trans ih2
theorem s6{kvs:List (Int×V)}(l:List Int)(k:Int):iC kvs (l++[k])=iC kvs l+yk (aE kvs k):=by
 induction l with
 | nil=>simp[iC]
 | cons x r ih=>simp only[List.cons_append,iC,ih];exact To
section
variable {c:Cx} {H:AH}
theorem eL.alike{kvs:List (Int×V)}{tx:Int→List Nat}{rk:Int→Nat}{k:Int}{d:V}(E:eL kvs tx rk k d):bH c H 2 (aP d) (aP d)∧bH c H 2 (je d) (je d):=by
 cases E with
 | root=>exact⟨bH.none _,bH.str _ _⟩
 | lean b a gone aS hb cA st=>
  refine⟨bH.int _ _,bH.up (bH.tup (n:=0) rfl fun j d₁ d₂ h₁ h₂=>?_) (by decide)⟩
  rw[h₁] at h₂;cases h₂
  match j,h₁ with
  | 0,h=>cases h;exact bH.int _ _
  | 1,h=>cases h;exact bH.str _ _
  | 2,h=>cases h;exact bH.str _ _
theorem bh.alike_row{kvs:List (Int×V)}{tx:Int→List Nat}{rk:Int→Nat}(E:bh kvs tx rk){k:Int}(hk:aJ kvs k):bH c H 3 (row kvs k) (row kvs k):=by
 have e:=(E.ent k _ (aB hk)).alike (c:=c) (H:=H)
 refine bH.tup rfl fun j d₁ d₂ h₁ h₂=>?_
 rw[h₁] at h₂;cases h₂
 match j,h₁ with
 | 0,h=>cases h;exact bH.int _ _
 | 1,h=>cases h;exact e.1
 | 2,h=>cases h;exact e.2
theorem bh.alike_rows{kvs:List (Int×V)}{tx:Int→List Nat}{rk:Int→Nat}(E:bh kvs tx rk){aX:List Int}(S:fR kvs aX):∀(j:Nat) d₁ d₂,(cX kvs aX)[j]?=some d₁→(cX kvs aX)[j]?=some d₂→bH c H 3 d₁ d₂:=fun j d₁ d₂ h₁ h₂=>by
 rw[h₁] at h₂;cases h₂
 refine q2 (aI h₁) fun k hk JN=>?_;obtain rfl:=JN
 exact E.alike_row (S.mem.mp (List.mem_of_getElem? hk))
end
end Mine
namespace Mine
open PySem PyProof.Rows PySem.Builtin PySem.W PySem.Calls
section
variable {c:Cx} {f:Fx} {m:bL} {H:AH} {X:Value→AH→Prop} {Q:V→AH→Prop}
theorem dZ{K:Frag}(KX:K.In c.base){C:Addr}(PC:my K C){o e:Expr}{name:Str}{ap p:Pos}{x dx fa:Addr}{of:Obj}{fd:FuncData}{fs:List (Str×V)}{k:Nat}{d:V}(R:bw k f.A)(pW:f.A.frames=some f.bK)
  (ho:Pe c f o m H (.ref x)) (I:cq H x C dx fs) (hl:fs.lookup name=none) (hf:findIn K (.ref C) name=some (some (.ref fa))) (ht:typeIn K (.ref fa)=some (.type "function")) (GC:c.base.get? fa=some of) (jW:of.data=.func fd)
  (he:Pe c f e m H d) (h:Fn c k (.ref fa) [.ref x,d] H Q X)
  (dA:autoParam (attributeBase o name f.env (eval o f.env)=eval o f.env) aR._auto_1)
  (lV:autoParam (methodCallForm ([e].length+([]:List Keyword).length) (backTo p (starEach [e] f.env)) (backToKw p (keywordEach [] f.env))=true) aR._auto_1)
  (dY:autoParam ((ap.endLine == p.line)=true) aR._auto_1) (ik:autoParam (starEach [e] f.env=(false,eval e f.env)::starEach [] f.env) aR._auto_1):Ev c f (.Call (.Attribute o name ap) [e] [] p) m H Q X:=
 Ht KX PC R pW ho I hl hf ht GC jW (az (he.ev (bk h)) ik) dA lV dY ik
theorem nJ{K:Frag}(KX:K.In c.base){C:Addr}(PC:my K C){o e e2:Expr}{name:Str}{ap p:Pos}{x dx fa:Addr}{of:Obj}{fd:FuncData}{fs:List (Str×V)}{k:Nat}{d d2:V}(R:bw k f.A)(pW:f.A.frames=some f.bK)
  (ho:Pe c f o m H (.ref x)) (I:cq H x C dx fs) (hl:fs.lookup name=none) (hf:findIn K (.ref C) name=some (some (.ref fa))) (ht:typeIn K (.ref fa)=some (.type "function")) (GC:c.base.get? fa=some of) (jW:of.data=.func fd)
  (he:Pe c f e m H d) (ny:Pe c f e2 m H d2) (h:Fn c k (.ref fa) [.ref x,d,d2] H Q X)
  (dA:autoParam (attributeBase o name f.env (eval o f.env)=eval o f.env) aR._auto_1)
  (lV:autoParam (methodCallForm ([e,e2].length+([]:List Keyword).length) (backTo p (starEach [e,e2] f.env)) (backToKw p (keywordEach [] f.env))=true) aR._auto_1)
  (dY:autoParam ((ap.endLine == p.line)=true) aR._auto_1) (ik:autoParam (starEach [e,e2] f.env=(false,eval e f.env)::starEach [e2] f.env) aR._auto_1) (GA:autoParam (starEach [e2] f.env=(false,eval e2 f.env)::starEach [] f.env) aR._auto_1):Ev c f (.Call (.Attribute o name ap) [e,e2] [] p) m H Q X:=
 Ht KX PC R pW ho I hl hf ht GC jW (az (he.ev (az (ny.ev (bk h)) GA)) ik) dA lV dY ik
end
end Mine
namespace Mine
open PySem
structure qu(old new:List Nat)(a e:Nat):Prop where
 le:a+e≤old.length
 Ui:a+e≤new.length
 pre:old.take a=new.take a
 post:old.drop (old.length-e)=new.drop (new.length-e)
 Ic:a=min old.length new.length∨old[a]?≠new[a]?
 Ib:a+e=min old.length new.length∨old[old.length-1-e]?≠new[new.length-1-e]?
theorem z9(l:List Nat){p a b:Nat}(h1:p≤a)(h2:a≤b)(h3:b≤l.length):(l.take a).drop p++(l.take b).drop a=(l.take b).drop p:=by
 have e1:l.take a=(l.take b).take a:=by rw[List.take_take,Nat.min_eq_left h2]
 rw[e1]
 generalize hq:l.take b=q
 have hl:q.length=b:=by rw[← hq,List.length_take];exact Tj h3
 apply List.ext_getElem
 ·simp only[List.length_append,List.length_drop,List.length_take];rw[hl,Nat.min_eq_left h2];exact Th h1 h2
 ·intro i h4 h5
  rw[List.getElem_append]
  simp only[List.length_drop,List.length_take,List.getElem_drop,List.getElem_take]
  split
  ·rfl
  ·congr 1;simp only[List.length_drop,List.length_append,List.length_take] at *;exact Tb h1 (by assumption) h5
theorem qu.step{old new:List Nat}{a e p:Nat}(C:qu old new a e)(h:p≤a):fT old new p ((old.take a).drop p++(old.take (old.length-e)).drop a) ((old.take a).drop p++(new.take (new.length-e)).drop a):=by
 have h1:=C.le;have h2:=C.Ui
 have eg:(old.take a).drop p++(old.take (old.length-e)).drop a=(old.take (old.length-e)).drop p:=z9 old h (BE h1) (BD)
 have ec:(old.take a).drop p++(new.take (new.length-e)).drop a=(new.take (new.length-e)).drop p:=by rw[C.pre];exact z9 new h (BE h2) (BD)
 rw[eg,ec]
 have lg:((old.take (old.length-e)).drop p).length=old.length-e-p:=by rw[List.length_drop,List.length_take];exact Tc
 have et:((p:Int)+(((old.take (old.length-e)).drop p).length:Nat)).toNat=old.length-e:=by rw[lg];exact Ta h h1
 refine⟨by exact dW,by exact S8 h h1,?_,?_⟩
 ·rw[et];rfl
 ·rw[et,C.post,Int.toNat_natCast]
  have ep:old.take p=(new.take (new.length-e)).take p:=by
   rw[List.take_take,Nat.min_eq_left (S6 h h2)]
   have:=congrArg (List.take p) C.pre
   rwa [List.take_take,List.take_take,Nat.min_eq_left h] at this
  rw[ep,List.take_append_drop,List.take_append_drop]
theorem fT.whole(old new:List Nat):fT old new 0 old new:=⟨by exact Tn,by exact dW,by simp,by simp⟩
theorem Gx{l:List Int}(nd:l.Nodup){i:Nat}{x:Int}(h:l[i]?=some x):l.idxOf x=i:=by
 refine q4 (List.getElem?_eq_some_iff.mp h) fun hi e=>?_
 subst e
 have hm:l[i]∈l:=List.getElem_mem hi
 have h2:=List.idxOf_lt_length_of_mem hm
 exact(List.getElem_inj (h₀:=h2) (h₁:=hi) nd).mp (List.getElem_idxOf h2)
end Mine
namespace Mine
open PySem PyProof.Rows PySem.Builtin PySem.W PySem.Calls
section
variable {c:Cx} {f:Fx} {m:bL} {H:AH} {X:Value→AH→Prop} {Q:V→AH→Prop}
theorem nK{x:Str}{p₁ p:Pos}{e e₂ e₃:Expr}{fa:Addr}{o:Obj}{fd:FuncData}{k:Nat}{d d₂ d₃:V}(K:cV c)(g:GN c x (.ref fa))(ho:c.base.get? fa=some o)(jW:o.data=.func fd)(R:bw k f.A)(hf:f.A.frames=some f.bK)(h1:Pe c f e m H d)(h2:Pe c f e₂ m H d₂)(h3:Pe c f e₃ m H d₃)(h:Fn c k (.ref fa) [d,d₂,d₃] H Q X)(hg:autoParam (f.env.globals=mainGlobals) aR._auto_1)(hb:autoParam (f.env.builtins=builtinsNs) aR._auto_1)
  (hk:autoParam (f.env.scope.kind=.function) aR._auto_1) (hn:autoParam (f.env.kindOf x=some .globalImplicit) aR._auto_1) (hd:autoParam ((x == ("__debug__":Str))=false) aD._auto_1) (he:autoParam (starEach [e,e₂,e₃] f.env=(false,eval e f.env)::starEach [e₂,e₃] f.env) aR._auto_1) (ny:autoParam (starEach [e₂,e₃] f.env=(false,eval e₂ f.env)::starEach [e₃] f.env) aR._auto_1) (he3:autoParam (starEach [e₃] f.env=(false,eval e₃ f.env)::starEach [] f.env) aR._auto_1):Ev c f (.Call (.Name x p₁) [e,e₂,e₃] [] p) m H Q X:=
 gA ho jW R hf ((bF K g hg hb hk hn hd).ev ⟨rfl,(au h1 (au h2 (au h3 aU he3) ny) he).nz h⟩) he
end
theorem yg{m:Int}(hm:0<m){a b:Int}(h:a % m=b % m)(h1:a-b<m)(h2:b-a<m):a=b:=by
 have e1:=Int.mul_ediv_add_emod a m
 have e2:=Int.mul_ediv_add_emod b m
 rcases Int.lt_trichotomy (a / m) (b / m) with q | q | q
 ·have:m*(a / m+1)≤m*(b / m):=Int.mul_le_mul_of_nonneg_left (BC q) (yd hm)
  rw[Int.mul_add] at this;exact Tg h h2 e1 e2 this
 ·rw[q] at e1;exact Tf h e1 e2
 ·have:m*(b / m+1)≤m*(a / m):=Int.mul_le_mul_of_nonneg_left (BC q) (yd hm)
  rw[Int.mul_add] at this;exact Td h h1 e1 e2 this
end Mine
namespace Mine
open PySem PyProof.Rows PySem.Builtin PySem.W PySem.Calls
section
variable {c:Cx} {f:Fx} {m:bL} {H:AH} {X:Value→AH→Prop} {Q:V→AH→Prop}
theorem uy:B2 c f H (compareOp .NotEq) .none .none (.bool false):=.mk fun m s v₁ v₂ S i₁ i₂=>by
 obtain rfl:=aG i₁;obtain rfl:=aG i₂
 exact PySem.EqNone.ne_none_none ⟨aM.refl _,rfl,rfl,br⟩
theorem eL.neB{kvs:List (Int×V)}{tx:Int→List Nat}{rk:Int→Nat}{k:Int}{d:V}(E:eL kvs tx rk k d):B2 c f H (compareOp .NotEq) (aP d) (aP d) (.bool false):=by
 cases E with
 | root=>exact uy
 | lean b a gone aS hb cA st=>have:=qv (c:=c) (f:=f) (H:=H) (a:=b) (b:=b);rw[show(b != b)=false by simp] at this;exact this
theorem kN{scope:Scope}{cl:List (Str×Addr)}{x:Str}{elt:Expr}{ds:List V}{tr:List Addr}{H₁:AH}(hsz:ds.length≤sizeLine)(G:Nat→List V)(hT:∀b∈tr,H₁ b≠none)
  (he:∀(i:Nat) d C hE H',ds[i]?=some d→aC H₁ H'→Ev c (kA f scope cl C hE H') elt (jJ m cl x d) H' (fun d' d8=>∃a,d'=.ref a∧aC H' d8∧ai d8 a (G i)) (fun _ _=>False))
  (fin:∀(as:List Addr) H' a o,aC H₁ H'→H' a=none→as.length=ds.length→(∀(j:Nat) b,as[j]?=some b→ai H' b (G j))→Q (.ref a) (H'.set a ⟨o,.list (as.map V.ref)⟩)) :
  mF c f m scope cl x elt [] Q ds tr H₁:=by
 refine⟨hsz,fun i acc H'=>aC H₁ H'∧∃as:List Addr,acc=as.map V.ref∧as.length=i∧∀(j:Nat) b,as[j]?=some b→ai H' b (G j),⟨aC.refl _,[],rfl,rfl,fun j b e=>nomatch e⟩,?_,?_⟩
 ·rintro i d acc H' C hE hd rz2 ht;refine q64 (d0:=acc) rz2 fun as ex hl hG=>?_;clear rz2
  refine Ev.mono (he i d C hE H' hd ex) (fun d' d8 z=>?_) fun _ _ z=>z
  refine q65 (d0:=d') z fun a e2 la=>?_;clear z
  refine⟨⟨ex.trans e2,as++[a],by rw[List.map_append];rfl,by simp[hl],fun j b hj=>?_⟩,fun b hb=>(e2.trans (aC.refl _)) b (by rw[ht b hb];exact hT b hb) |>.trans (ht b hb)⟩
  by_cases q:j<as.length
  ·rw[List.getElem?_append_left q] at hj;exact e2.list (hG j b hj)
  ·rw[List.getElem?_append_right (vD q)] at hj
   have:j-as.length=0:=by
    cases e:j-as.length with
    | zero=>rfl
    | succ n=>rw[e] at hj;simp at hj
   rw[this] at hj;simp at hj;subst hj
   rw[show j=i by exact Te hl q this];exact la
 ·rintro acc H' a o rz3 ht ha;refine q64 (d0:=acc) rz3 fun as ex hl hG=>?_;clear rz3
  exact fin as H' a o ex ha hl hG
end
end Mine
namespace Mine
open PySem
theorem av.suffix{kvs:List (Int×V)}{n:Int}{xs:List Int}(h:av kvs n xs):∀x∈xs,∃ys,av kvs x ys∧ys.length≤xs.length∧∀y∈ys,y∈xs:=by
 induction h with
 | stop e=>intro x hx;rw[List.mem_singleton] at hx;subst hx;exact⟨_,.stop e,Nat.le_refl _,fun y hy=>hy⟩
 | step e c ih=>
  intro x hx
  rcases List.mem_cons.mp hx with rfl | hx
  ·exact⟨_,.step e c,Nat.le_refl _,fun y hy=>hy⟩
  ·refine q1 (ih x hx) fun ys h1 h2 h3=>?_
   exact⟨ys,h1,by simp;exact qO h2,fun y hy=>.tail _ (h3 y hy)⟩
theorem av.nodup{kvs:List (Int×V)}{n:Int}{xs:List Int}(h:av kvs n xs):xs.Nodup:=by
 induction h with
 | stop e=>simp
 | step e c ih=>
  rw[List.nodup_cons]
  refine⟨fun hm=>?_,ih⟩
  refine q1 (c.suffix _ hm) fun ys h1 h2 _=>?_
  have:=h1.uniq (.step e c)
  rw[this] at h2;simp at h2;exact Ti h2
theorem av.keys{kvs:List (Int×V)}{n:Int}{xs:List Int}(h:av kvs n xs):∀x∈xs,aJ kvs x:=by
 induction h with
 | stop e=>intro x hx;rw[List.mem_singleton] at hx;subst hx;exact⟨_,e⟩
 | step e c ih=>
  intro x hx
  rcases List.mem_cons.mp hx with rfl | hx
  ·exact⟨_,e⟩
  ·exact ih x hx
theorem aW{kvs:List (Int×V)}{k:Int}:aJ (bases kvs) k↔aJ kvs k:=by rw[ay,ay,cJ]
theorem av.bf{kvs:List (Int×V)}{n:Int}{xs:List Int}(h:av kvs n xs):xs.length≤kvs.length:=by
 have:=gQ (l':=kvs.map (·.1)) h.nodup fun x hx=>ay.mp (h.keys x hx)
 simpa using this
inductive xx(kvs:List (Int×V))(tx:Int→List Nat)(k:Int):V→Prop
 | root:xx kvs tx k (.tup [.none,.s (tx k)])
 | lean (b a:Int) (gone aS:List Nat):aJ kvs b→fT (tx b) (tx k) a gone aS→xx kvs tx k (.tup [.int b,gE a gone aS])
theorem eL.U9{kvs:List (Int×V)}{tx:Int→List Nat}{rk:Int→Nat}{k:Int}{d:V}(E:eL kvs tx rk k d):xx kvs tx k d:=by
 cases E with
 | root=>exact .root
 | lean b a gone aS hb cA st=>exact .lean b a gone aS hb st
theorem bh.of_chains{kvs:List (Int×V)}{tx:Int→List Nat}(nd:(kvs.map (·.1)).Nodup)(bf:kvs.length≤40)(ent:∀k d,aF kvs k=some d→xx kvs tx k d)(ch:∀k,aJ kvs k→∃xs,av (bases kvs) k xs)(short:∀k,aJ kvs k→(tx k).length≤20000):∃rk,bh kvs tx rk:=by
 classical
 have val:∀k xs,av (bases kvs) k xs→(if h:∃xs,av (bases kvs) k xs then(Classical.choose h).length-1 else 0)=xs.length-1:=fun k xs h=>by
  have hh:∃xs,av (bases kvs) k xs:=⟨xs,h⟩
  rw[dif_pos hh,(Classical.choose_spec hh).uniq h]
 refine⟨fun k=>if h:∃xs,av (bases kvs) k xs then(Classical.choose h).length-1 else 0,nd,bf,fun k=>?_,fun k d hd=>?_,short⟩
 ·by_cases h:∃xs,av (bases kvs) k xs
  ·refine q4 h fun xs zA=>?_;clear h;have h:=zA;clear zA
   have:=h.bf
   have e:=val k xs h
   show(if h:∃xs,av (bases kvs) k xs then(Classical.choose h).length-1 else 0)≤40
   rw[e]
   have:(bases kvs).length=kvs.length:=by unfold bases;rw[List.length_map]
   exact S5 bf (by assumption) this
  ·show(if h:∃xs,av (bases kvs) k xs then(Classical.choose h).length-1 else 0)≤40
   rw[dif_neg h];exact rW
 ·have e0:=ent k d hd
  cases e0 with
  | root=>exact .root
  | lean b a gone aS hb st=>
   refine .lean b a gone aS hb ?_ st
   refine q4 (ch b hb) fun xs h=>?_
   have h2:av (bases kvs) k (k::xs):=.step (by rw[aN,hd];rfl) h
   rw[val b xs h,val k (k::xs) h2]
   refine q4 (h.head) fun r hr=>?_
   rw[hr];simp
theorem bZ{kvs:List (Int×V)}{k:Int}{d:V}(x:Int):aF (bR kvs k d) x=if x=k then some d else aF kvs x:=by
 unfold bR
 split
 ·rename_i h
  rw[List.any_eq_true] at h
  induction kvs with
  | nil=>refine q2 h fun y hy _=>?_;clear h;cases hy
  | cons p r ih=>
   simp only[List.map_cons]
   by_cases e:p.1=k
   ·simp only[e,if_true]
    by_cases q:x=k
    ·subst q;simp[aF]
    ·rw[if_neg q]
     have:¬k=x:=fun z=>q z.symm
     have hp:¬p.1=x:=fun z=>q (z.symm.trans e)
     simp only[aF,List.find?,this,hp,decide_false]
     have key:∀l:List (Int×V),(l.map fun kv=>if kv.1=k then(k,d) else kv).find? (fun kv=>decide (kv.1=x))=l.find? (fun kv=>decide (kv.1=x)):=by
      intro l
      induction l with
      | nil=>rfl
      | cons s t iht=>
       simp only[List.map_cons,List.find?]
       by_cases e2:s.1=k
       ·simp only[e2,if_true,this,decide_false];exact iht
       ·simp only[e2,if_false]
        by_cases e3:s.1=x
        ·simp[e3]
        ·simp only[e3,decide_false];exact iht
     have fe:(fun kv:Int×V=>if kv.1=k then(kv.1,d) else kv)=fun kv=>if kv.1=k then(k,d) else kv:=funext fun kv=>by by_cases z:kv.1=k <;> simp[z]
     rw[fe,key]
   ·simp only[e,if_false]
    have hr:∃y∈r,decide (y.1=k)=true:=by
     refine q2 h fun y hy hk=>?_;clear h
     rcases List.mem_cons.mp hy with rfl | hy
     ·simp at hk;exact(e hk).elim
     ·exact⟨y,hy,hk⟩
    have:=ih hr
    by_cases e3:p.1=x
    ·have hx:¬x=k:=fun z=>e (e3.trans z)
     rw[if_neg hx]
     simp[aF,e3]
    ·simp only[aF,List.find?,e3,decide_false]
     exact this
 ·rename_i h
  rw[bC (fun q=>h (List.any_eq_true.mpr (by refine q2 (List.mem_map.mp q) fun y hy e=>?_;exact⟨y,hy,by simpa using e⟩)))]
theorem ef{kvs:List (Int×V)}{k:Int}{d:V}(h:aJ kvs k):(bR kvs k d).map (·.1)=kvs.map (·.1):=by
 unfold bR
 rw[if_pos (List.any_eq_true.mpr (by refine q2 (List.mem_map.mp (ay.mp h)) fun y hy e=>?_;exact⟨y,hy,by simpa using e⟩)),List.map_map]
 refine List.map_congr_left fun p _=>?_
 simp only[Function.comp];split <;> rfl
theorem dS.bR{kvs kvs':List (Int×V)}(h:dS kvs kvs')(k:Int)(d:V):dS (bR kvs k d) (bR kvs' k d):=fun x=>by rw[bZ,bZ,h x]
theorem bh.lean{kvs:List (Int×V)}{tx:Int→List Nat}{rk:Int→Nat}(E:bh kvs tx rk){n o a:Int}{gone aS:List Nat}(hn:aJ kvs n)(ho:aJ kvs o){xs:List Int}(hx:av (bases kvs) o xs)(oU:n∉xs)(st:fT (tx o) (tx n) a gone aS):
  ∃fk,bh (bR kvs n (.tup [.int o,gE a gone aS])) tx fk:=by
 have key:∀x,aJ (bR kvs n (.tup [.int o,gE a gone aS])) x↔aJ kvs x:=fun x=>by rw[ay,ef hn,ay]
 have db:∀x,aF (bases (bR kvs n (.tup [.int o,gE a gone aS]))) x=if x=n then some (.int o) else aF (bases kvs) x:=fun x=>by
  rw[aN,bZ]
  split
  ·rfl
  ·rw[aN]
 have keep:∀v ys,av (bases kvs) v ys→n∉ys→av (bases (bR kvs n (.tup [.int o,gE a gone aS]))) v ys:=by
  intro v ys h
  induction h with
  | stop e=>intro yC;exact .stop (by rw[db,if_neg (fun z=>yC (by simp[z]))];exact e)
  | step e c ih=>intro yC;rw[List.mem_cons,not_or] at yC;exact .step (by rw[db,if_neg (fun z=>yC.1 z.symm)];exact e) (ih yC.2)
 have i5:av (bases (bR kvs n (.tup [.int o,gE a gone aS]))) n (n::xs):=.step (by rw[db,if_pos rfl]) (keep o xs hx oU)
 refine bh.of_chains (by rw[ef hn];exact E.nd) (by have:=congrArg List.length (ef (d:=.tup [.int o,gE a gone aS]) hn);rw[List.length_map,List.length_map] at this;rw[this];exact E.bf) (fun k d hd=>?_) (fun k hk=>?_) (fun k hk=>E.short k ((key k).mp hk))
 ·rw[bZ] at hd
  by_cases e:k=n
  ·subst e;rw[if_pos rfl] at hd;injection hd with hd;subst hd
   exact .lean o a gone aS ((key o).mpr ho) st
  ·rw[if_neg e] at hd
   have:=(E.ent k d hd).U9
   cases this with
   | root=>exact .root
   | lean b a' g' c' hb uB=>exact .lean b a' g' c' ((key b).mpr hb) uB
 ·refine q2 (E.chain ((key k).mp hk)) fun ys hy _=>?_
  have gen:∀v ys,av (bases kvs) v ys→∃zs,av (bases (bR kvs n (.tup [.int o,gE a gone aS]))) v zs:=by
   intro v ys hy
   induction hy with
   | @stop v e=>
    by_cases q:v=n
    ·rw[q];exact⟨_,i5⟩
    ·exact⟨_,.stop (by rw[db,if_neg q];exact e)⟩
   | @step v b ys e c ih=>
    by_cases q:v=n
    ·rw[q];exact⟨_,i5⟩
    ·refine q4 ih fun zs hz=>?_;clear ih
     exact⟨_,.step (by rw[db,if_neg q];exact e) hz⟩
  exact gen k ys hy
structure Hi(kvs:List (Int×V))(n hi:Int):Prop where
 pos:0≤hi
 le:∀k xs,av (bases kvs) k xs→n∈xs→(xs.idxOf n:Int)≤hi
 at_:hi=0∨∃k xs,av (bases kvs) k xs∧n∈xs∧hi=(xs.idxOf n:Int)
theorem Hi.uniq{kvs:List (Int×V)}{n hi uH:Int}(h:Hi kvs n hi)(h':Hi kvs n uH):hi=uH:=by
 have a:hi≤uH:=by
  rcases h.at_ with e | ⟨k,xs,c,m,e⟩
  ·have:=h'.pos;exact BB e this
  ·rw[e];exact h'.le k xs c m
 have b:uH≤hi:=by
  rcases h'.at_ with e | ⟨k,xs,c,m,e⟩
  ·have:=h.pos;exact BB e this
  ·rw[e];exact h.le k xs c m
 exact BF a b
theorem Hi.dj{kvs kvs':List (Int×V)}{n hi:Int}(h:Hi kvs n hi)(s:dS kvs kvs'):Hi kvs' n hi:=by
 have s':dS kvs' kvs:=fun k=>(s k).symm
 refine⟨h.pos,fun k xs c m=>h.le k xs (s'.bases.chain c) m,?_⟩
 rcases h.at_ with e | ⟨k,xs,c,m,e⟩
 ·exact .inl e
 ·exact .inr ⟨k,xs,s.bases.chain c,m,e⟩
theorem qu.uniq{old new:List Nat}{a e a' e':Nat}(h:qu old new a e)(h':qu old new a' e'):a=a'∧e=e':=by
 have key:∀ {a e a' e':Nat},qu old new a e→qu old new a' e'→a'≤a:=fun {a e a' e'} h h'=>by
  apply Classical.byContradiction;intro q
  have l1:=h'.le;have l2:=h'.Ui
  rcases h.Ic with s | s
  ·exact S4 q l1 l2 s
  ·apply s
   have e1:(old.take a')[a]?=(new.take a')[a]?:=by rw[h'.pre]
   rwa [List.getElem?_take,List.getElem?_take,if_pos (BA q),if_pos (BA q)] at e1
 have ea:a=a':=Nat.le_antisymm (key h' h) (key h h')
 subst ea
 have Us:∀ {e e':Nat},qu old new a e→qu old new a e'→e'≤e:=fun {e e'} h h'=>by
  apply Classical.byContradiction;intro q
  have l1:=h'.le;have l2:=h'.Ui;have l3:=h.le;have l4:=h.Ui
  rcases h.Ib with s | s
  ·exact SZ q l1 l2 s
  ·apply s
   have e1:(old.drop (old.length-e'))[e'-1-e]?=(new.drop (new.length-e'))[e'-1-e]?:=by rw[h'.post]
   rw[List.getElem?_drop,List.getElem?_drop] at e1
   rwa [show old.length-e'+(e'-1-e)=old.length-1-e by exact Bz q l1,show new.length-e'+(e'-1-e)=new.length-1-e by exact Bz q l2] at e1
 exact⟨rfl,Nat.le_antisymm (Us h' h) (Us h h')⟩
end Mine
namespace Mine
open PySem
theorem av.keep{kvs kvs':List (Int×V)}{v:Int}{xs:List Int}(h:av kvs v xs)(k:∀x,aJ kvs x→aF kvs' x=aF kvs x):av kvs' v xs:=by
 induction h with
 | stop e=>exact .stop ((k _ ⟨_,e⟩).trans e)
 | step e _ ih=>exact .step ((k _ ⟨_,e⟩).trans e) ih
theorem fK{kvs:List (Int×V)}{n:Int}{d:V}(hn:¬aJ kvs n)(x:Int)(hx:aJ kvs x):aF (kvs++[(n,d)]) x=aF kvs x:=by
 rw[bC (fun q=>hn (ay.mpr q)),if_neg (fun e:x=n=>hn (e▸hx))]
theorem cO(kvs:List (Int×V))(n:Int)(d:V):bases (kvs++[(n,d)])=bases kvs++[(n,aP d)]:=by unfold bases;rw[List.map_append];rfl
theorem bh.put_lean{kvs:List (Int×V)}{tx:Int→List Nat}{rk:Int→Nat}(E:bh kvs tx rk){n o a:Int}{gone aS l:List Nat}(hn:¬aJ kvs n)(ho:aJ kvs o)(bf:kvs.length<40)(hl:l.length≤20000)(st:fT (tx o) l a gone aS):
  ∃fk,bh (kvs++[(n,.tup [.int o,gE a gone aS])]) (fun y=>if y=n then l else tx y) fk:=by
 have qV:n∉kvs.map (·.1):=fun q=>hn (ay.mpr q)
 have kx:∀y,aJ kvs y→y≠n:=fun y hy e=>hn (e▸hy)
 have up:∀y,aJ kvs y→aJ (kvs++[(n,.tup [.int o,gE a gone aS])]) y:=fun y hy=>by rw[ay,List.map_append];exact List.mem_append.mpr (.inl (ay.mp hy))
 have kb:∀x,aJ (bases kvs) x→aF (bases (kvs++[(n,.tup [.int o,gE a gone aS])])) x=aF (bases kvs) x:=fun x hx=>by
  rw[cO];exact fK (fun q=>hn (aW.mp q)) x hx
 refine bh.of_chains ?_ (by rw[List.length_append];exact bf) (fun k d hd=>?_) (fun k hk=>?_) (fun k hk=>?_)
 ·rw[List.map_append,List.nodup_append]
  refine⟨E.nd,by simp,fun a ha b hb=>?_⟩
  simp at hb;subst hb
  exact fun e=>qV (e▸ha)
 ·rw[bC qV] at hd
  by_cases e:k=n
  ·subst e;rw[if_pos rfl] at hd;injection hd with hd;subst hd
   refine .lean o a gone aS (up o ho) ?_
   rw[if_neg (kx o ho),if_pos rfl];exact st
  ·rw[if_neg e] at hd
   have e0:=(E.ent k d hd).U9
   cases e0 with
   | root=>
    have:=xx.root (kvs:=kvs++[(n,V.tup [.int o,gE a gone aS])]) (tx:=fun y=>if y=n then l else tx y) (k:=k)
    simp only[if_neg e] at this;exact this
   | lean b a' g' c' hb uB=>
    refine .lean b a' g' c' (up b hb) ?_
    rw[if_neg (kx b hb),if_neg e];exact uB
 ·by_cases e:k=n
  ·subst e
   refine q2 (E.chain ho) fun xs hx _=>?_
   exact⟨_,.step (by rw[cO,bC (by rw[cJ];exact qV),if_pos rfl];rfl) (hx.keep kb)⟩
  ·have:aJ kvs k:=by
    rw[ay,List.map_append] at hk
    rcases List.mem_append.mp hk with q | q
    ·exact ay.mpr q
    ·simp at q;exact(e q).elim
   refine q2 (E.chain this) fun xs hx _=>?_
   exact⟨xs,hx.keep kb⟩
 ·by_cases e:k=n
  ·rw[if_pos e];exact hl
  ·rw[if_neg e]
   refine E.short k ?_
   rw[ay,List.map_append] at hk
   rcases List.mem_append.mp hk with q | q
   ·exact ay.mpr q
   ·simp at q;exact(e q).elim
end Mine
namespace Mine
open PySem PyProof.Rows PySem.Builtin PySem.W PySem.F
theorem tw{p p':Program}{w w':World}{es:List DictEntry}{kv:List (Int×Value)}(h:Pairs (intKind p w) es kv):Pairs (intKind p' w') es kv:=by
 induction h with
 | nil=>exact .nil
 | cons a b _ ih=>exact .cons a b ih
theorem mi{p p':Program}{w w':World}{h:Heap}{a:Addr}{kv:List (Int×Value)}(d:h.DictOf (intKind p w) a kv):h.DictOf (intKind p' w') a kv:=by
 refine vl d fun o es ep g x dt k pr n=>?_;clear d
 exact⟨o,es,ep,g,x,dt,fun e he=>k e he,tw pr,n⟩
section
variable {c:Cx} {H:AH}
theorem bH.ext{G:AH}{n:Nat}{d₁ d₂:V}(E:bH c G n d₁ d₂)(e:aC G H):bH c H n d₁ d₂:=
 ⟨fun s A v₁ v₂ R B u i j=>E.eq s A v₁ v₂ (e.rep R) (fun a x q=>B a x ((e a (by rw[q];exact fun z=>nomatch z)).trans q)) u i j⟩
theorem rX{a:Addr}(h:cStatics<a):(a == sysModules)=false:=by
 have:a≠sysModules:=fun e=>by rw[e] at h;exact absurd h (by decide)
 simpa using this
theorem bH.dict{n:Nat}{a b:Addr}{kvs:List (Int×V)}(ha:ax H a kvs)(hb:ax H b kvs)(he:∀d∈kvs.map (·.2),kM n d d true):bH c H (n+1) (.ref a) (.ref b) where
 eq:=fun s A v₁ v₂ R B u i j=>by
  obtain rfl:=aG i;obtain rfl:=aG j
  by_cases q:a=b
  ·subst q;exact SeqAt.EqAt.same _
  have ns:(a == sysModules)=false:=q4 ha fun o e=>rX (B _ _ e)
  have v3:(b == sysModules)=false:=q4 hb fun o e=>rX (B _ _ e)
  refine q1 (R.dictOf ha) fun ka da ea ia=>?_
  refine q1 (R.dictOf hb) fun kb db eb ib=>?_
  have el:ka.length=kb.length:=by have:=congrArg List.length (ea.trans eb.symm);simpa using this
  have nd:(kvs.map (·.1)).Nodup:=by refine vl da fun _ _ _ _ _ _ _ _ n=>?_;clear da;rw[← ea];exact n
  refine SeqAt.EqAt.of_refs q fun prog w E Q hq=>?_
  refine keq_eq (knd:=intKind prog w) (r:=true) ns v3 (mi da) (mi db) (qN u) (fun _=>tR ea ia eb ib nd he (by have:=eN A;exact qM u this)) ?_
  have e1:(ka.length == kb.length && true)=true:=by rw[el];simp
  rw[e1];exact hq
end
end Mine
namespace Mine
open PySem PyProof.Rows PySem.Builtin PySem.W PySem.F
section
variable {c:Cx} {f:Fx} {m:bL} {H:AH} {X:Value→AH→Prop} {Q:V→AH→Prop}
theorem mD{value lo:Expr}{p p':Pos}{a:Addr}{ds:List V}(K:cV c)(hv:Pe c f value m H (.ref a))(hlo:Pe c f lo m H (.int (-1)))(hl:ai H a ds)(hsz:ds.length≤sizeLine)
  (q:∀b o,H b=none→Q (.ref b) (H.set b ⟨o,.list (ds.drop (ds.length-1))⟩)) (ht:∀o r,letTemporaryGo value o r=pure ():=by intro _ _;rfl) (hp:autoParam (evalPart (some lo) f.env=eval lo f.env) aR._auto_1) :
  Ev c f (.Subscript value (.Slice (some lo) none none p) p') m H Q X:=
 nI K hv hlo hl (fun us hlen=>by
  have:=slicePick_last us.toArray 1 (Nat.le_refl 1)
  rw[List.size_toArray,hlen] at this
  exact this) hsz q ht hp
noncomputable def over(G H H':AH):AH:=fun a=>match H a with | none=>H' a | some _=>G a
theorem lJ{G H H':AH}{a:Addr}(h:H a=none):over G H H' a=H' a:=by unfold over;rw[h]
theorem lI{G H H':AH}{a:Addr}(h:H a≠none):over G H H' a=G a:=by
 unfold over
 cases q:H a with
 | none=>exact(h q).elim
 | some _=>rfl
theorem wN{G H H':AH}(g:aC G H):aC G (over G H H'):=fun a h=>lI (by rw[g a h];exact h)
theorem vu{G H H':AH}(g:aC G H)(e:aC H H'):aC (over G H H') H':=fun a h=>by
 by_cases q:H a=none
 ·rw[lJ q]
 ·rw[lI q] at h ⊢;rw[e a q,g a h]
theorem dH{G H H':AH}{a:Addr}{ds:List V}(l:ai H' a ds)(h:H a=none):ai (over G H H') a ds:=by refine q4 l fun o e=>?_;clear l;exact⟨o,(lJ h).trans e⟩
theorem mZ{G H H':AH}{a:Addr}{ds:List (Int×V)}(l:ax H' a ds)(h:H a=none):ax (over G H H') a ds:=by refine q4 l fun o e=>?_;clear l;exact⟨o,(lJ h).trans e⟩
end
end Mine
namespace Mine
open PySem PyProof.Rows PySem.Builtin PySem.W PySem.F
section
variable {c:Cx} {f:Fx} {m:bL} {H:AH} {X:Value→AH→Prop} {Q:V→AH→Prop}
theorem qr{x:Str}{p₁ p:Pos}{e:Expr}{es:List Expr}{fa:Addr}{o:Obj}{fd:FuncData}{k:Nat}{ds:List V}(K:cV c)(g:GN c x (.ref fa))(ho:c.base.get? fa=some o)(jW:o.data=.func fd)(R:bw k f.A)(hf:f.A.frames=some f.bK)(h1:nG c f (e::es) m H ds)(h:Fn c k (.ref fa) ds H Q X)(hg:autoParam (f.env.globals=mainGlobals) aR._auto_1)(hb:autoParam (f.env.builtins=builtinsNs) aR._auto_1)
  (hk:autoParam (f.env.scope.kind=.function) aR._auto_1) (hn:autoParam (f.env.kindOf x=some .globalImplicit) aR._auto_1) (hd:autoParam ((x == ("__debug__":Str))=false) aD._auto_1) (he:autoParam (starEach (e::es) f.env=(false,eval e f.env)::starEach es f.env) aR._auto_1):Ev c f (.Call (.Name x p₁) (e::es) [] p) m H Q X:=
 gA ho jW R hf ((bF K g hg hb hk hn hd).ev ⟨rfl,h1.nz h⟩) he
theorem Hs{x:Str}{p₁ p:Pos}{e:Expr}{T:String}(K:cV c)(g:GN c x (.type T))(h1:Ev c f e m H (fun d H₁=>qk c f (fun vs=>call (.type T) vs) [d] m H₁ Q X) X)(hg:autoParam (f.env.globals=mainGlobals) aR._auto_1)(hb:autoParam (f.env.builtins=builtinsNs) aR._auto_1)
  (hk:autoParam (f.env.scope.kind=.function) aR._auto_1) (hn:autoParam (f.env.kindOf x=some .globalImplicit) aR._auto_1) (hd:autoParam ((x == ("__debug__":Str))=false) aD._auto_1) (he:autoParam (starEach [e] f.env=(false,eval e f.env)::starEach [] f.env) aR._auto_1):Ev c f (.Call (.Name x p₁) [e] [] p) m H Q X:=
 qp ((bF K g hg hb hk hn hd).ev ⟨rfl,az (Ev.mono h1 (fun _ _ z=>bk z) fun _ _ z=>z) he⟩) he rfl
theorem zm{e:Expr}{p:Pos}{op:BoolOp}(h:Ev c f e m H Q X):Ev c f (.BoolOp op [e] p) m H Q X:=.mk fun s S=>BoolOp_one (h s S)
end
theorem qa{kvs:List (Int×V)}{k:Int}{d:V}:(bR kvs k d).length≤kvs.length+1:=by
 unfold bR;split <;> simp
theorem qe{fd:FuncData}{x y z x4 x5:Str}{args:List V}(h:args.length=5)(e:∀v w u u4 u5,bindArgs fd ⟨[v,w,u,u4,u5],[]⟩=pure [(x,v),(y,w),(z,u),(x4,u4),(x5,u5)]):∀vs:List Value,vs.length=args.length→bindArgs fd ⟨vs,[]⟩=pure ([x,y,z,x4,x5].zip vs):=fun vs hv=>by
 have l0:=hv.trans h
 clear hv
 refine i4 (dq l0) fun v r1 JM l1=>?_;obtain rfl:=JM
 refine i4 (dq l1) fun w r2 JL l2=>?_;obtain rfl:=JL
 refine i4 (dq l2) fun u r3 JK l3=>?_;obtain rfl:=JK
 refine i4 (dq l3) fun u4 r4 JJ l4=>?_;obtain rfl:=JJ
 refine i4 (dq l4) fun u5 r5 JI l5=>?_;obtain rfl:=JI
 obtain rfl:=List.eq_nil_of_length_eq_zero l5
 exact e v w u u4 u5
theorem v9{α:Type}{p:α→Prop}{a b d e g:α}(h:p a)(h2:p b)(h3:p d)(h4:p e)(h5:p g):∀x∈[a,b,d,e,g],p x:=fun x hx=>by
 rcases List.mem_cons.mp hx with rfl | hx;exact h;exact tE h2 h3 h4 h5 x hx
end Mine
namespace Mine
open PySem PyProof.Rows PySem.Builtin PySem.W PySem.F
section
variable {c:Cx} {f:Fx} {m:bL} {H:AH} {X:Value→AH→Prop} {Q:V→AH→Prop}
theorem zl{e e₂:Expr}{es:List Expr}{p:Pos}(h:Ev c f e m H (fun d H₁=>d=.bool true∧Ev c f (.BoolOp .And (e₂::es) p) m H₁ Q X) X):Ev c f (.BoolOp .And (e::e₂::es) p) m H Q X:=.mk fun s S=>by
 refine BoolOp_and (wpAny_mono (h s S) (fun v s₁ z=>?_) fun _ _ x=>x)
 refine z5 z fun H' t i S₁ q=>?_;clear z
 obtain rfl:=aG i
 refine wpAny_pure ?_
 rw[if_pos rfl]
 refine wpAny_mono (q s₁ S₁) (fun v s₂ z=>?_) fun _ _ x=>x
 refine mL z fun d H' t' i S₂ q=>?_;clear z
 exact⟨t.trans t',d,H',i,S₂,q⟩
end
theorem fT.turned{old new:List Nat}{a:Int}{gone aS:List Nat}(S:fT old new a gone aS):fT new old a aS gone:=by
 obtain⟨h0,h1,fit,new_⟩:=S
 obtain⟨n,rfl⟩:∃n:Nat,a=n:=⟨a.toNat,by exact SY h0⟩
 have e1:((n:Int)+gone.length).toNat=n+gone.length:=by exact By
 have e2:((n:Int)+aS.length).toNat=n+aS.length:=by exact By
 have hl:n≤old.length:=by exact SX h1
 rw[e1] at fit new_
 simp only[Int.toNat_natCast] at fit new_
 have lt:(old.take n).length=n:=by rw[List.length_take];exact SW h1
 rw[← List.take_drop] at fit
 have hd:gone++old.drop (n+gone.length)=old.drop n:=by
  rw[← List.drop_drop];conv=>lhs;arg 1;rw[← fit]
  exact List.take_append_drop _ _
 refine⟨h0,by rw[new_];simp;exact SV h1,?_,?_⟩
 ·rw[e2,Int.toNat_natCast,← List.take_drop,new_,List.append_assoc,List.drop_left' lt,List.take_left]
 ·rw[e2,new_,Int.toNat_natCast,List.append_assoc (old.take n) aS,List.take_left' lt,← List.drop_drop,List.drop_left' lt,List.drop_left,List.append_assoc,hd,List.take_append_drop]
end Mine
namespace Mine
open PySem PyProof.Rows PySem.Builtin PySem.W PySem.F
noncomputable def wL(one:Int):V→V
 | .tup [_,.tup [a,g,d]]=>.tup [.int one,.tup [a,d,g]]
 | d=>d
noncomputable def jQ(kv:List (Int×V))(xs:List Int)(t0:List Nat):Nat→V
 | 0=>.tup [.none,.s t0]
 | j+1=>wL (xs.getD j 0) (aE kv (xs.getD j 0))
structure gF(kv bP:List (Int×V))(xs:List Int)(t0:List Nat)(D:Nat→Prop):Prop where
 keys:bP.map (·.1)=kv.map (·.1)
 done:∀j k,D j→xs[j]?=some k→aF bP k=some (jQ kv xs t0 j)
 off:∀x,(∀j,D j→xs[j]?≠some x)→aF bP x=aF kv x
theorem gF.start{kv:List (Int×V)}{xs:List Int}{t0:List Nat}{D:Nat→Prop}(h:∀j,¬D j):gF kv kv xs t0 D:=⟨rfl,fun j k d=>(h j d).elim,fun x _=>rfl⟩
theorem gF.step{kv bP:List (Int×V)}{xs:List Int}{t0:List Nat}{D D':Nat→Prop}{i:Nat}{k:Int}(T:gF kv bP xs t0 D)(nd:xs.Nodup)(hi:xs[i]?=some k)(hk:aJ kv k)(hD:∀j,j<xs.length→(D' j↔D j∨j=i)):gF kv (bR bP k (jQ kv xs t0 i)) xs t0 D':=by
 have lt:∀ {j:Nat} {x:Int},xs[j]?=some x→j<xs.length:=fun h=>(List.getElem?_eq_some_iff.mp h).1
 have inj:∀ {j:Nat},xs[j]?=some k→j=i:=fun {j} h=>by
  refine q4 (List.getElem?_eq_some_iff.mp h) fun h1 e1=>?_
  refine q4 (List.getElem?_eq_some_iff.mp hi) fun h2 e2=>?_
  exact(List.getElem_inj (h₀:=h1) (h₁:=h2) nd).mp (e1.trans e2.symm)
 have kR:aJ bP k:=by rw[ay,T.keys];exact ay.mp hk
 refine⟨by rw[ef kR,T.keys],fun j x d hx=>?_,fun x hx=>?_⟩
 ·rw[bZ]
  by_cases e:x=k
  ·subst e;rw[if_pos rfl,inj hx]
  ·rw[if_neg e]
   rcases (hD j (lt hx)).mp d with q | q
   ·exact T.done j x q hx
   ·subst q;rw[hi] at hx;injection hx with hx;exact(e hx.symm).elim
 ·have e:x≠k:=fun e=>hx i ((hD i (lt hi)).mpr (.inr rfl)) (by rw[e];exact hi)
  rw[bZ,if_neg e]
  refine T.off x fun j d q=>?_
  exact hx j ((hD j (lt q)).mpr (.inl d)) q
noncomputable def c7(kv bP:List (Int×V))(xs:List Int)(t0:List Nat):Prop:=gF kv bP xs t0 (fun _=>True)
theorem gF.all{kv bP:List (Int×V)}{xs:List Int}{t0:List Nat}{D:Nat→Prop}(T:gF kv bP xs t0 D)(h:∀j,j<xs.length→D j):c7 kv bP xs t0:=
 ⟨T.keys,fun j k _ hk=>T.done j k (h j (List.getElem?_eq_some_iff.mp hk).1) hk,fun x hx=>T.off x fun j _=>hx j trivial⟩
theorem c7.dj{bG dP kv bP:List (Int×V)}{xs:List Int}{t0:List Nat}(T:c7 bG dP xs t0)(T':c7 kv bP xs t0)(s:dS bG kv):dS dP bP:=fun x=>by
 by_cases h:x∈xs
 ·refine q4 (List.getElem?_of_mem h) fun j hj=>?_
  rw[T.done j x trivial hj,T'.done j x trivial hj]
  cases j with
  | zero=>rfl
  | succ j=>simp only[jQ,s.aE]
 ·have q:∀j,True→xs[j]?≠some x:=fun j _ e=>h (List.mem_of_getElem? e)
  rw[T.off x q,T'.off x q,s x]
theorem bh.turn{kv bP:List (Int×V)}{tx:Int→List Nat}{rk:Int→Nat}(E:bh kv tx rk){n:Int}{xs:List Int}(hx:av (bases kv) n xs)(T:c7 kv bP xs (tx n)):∃fk,bh bP tx fk:=by
 have key:∀x,aJ bP x↔aJ kv x:=fun x=>by rw[ay,T.keys,ay]
 have ln:bP.length=kv.length:=by have:=congrArg List.length T.keys;simpa using this
 have qz:xs[0]?=some n:=by refine q4 (hx.head) fun r hr=>?_;rw[hr];rfl
 have ek:∀(j:Nat) k k',xs[j]?=some k→xs[j+1]?=some k'→∃a gone aS,aF bP k'=some (.tup [.int k,gE a aS gone])∧fT (tx k) (tx k') a aS gone∧aJ kv k:=fun j k k' h1 h2=>by
  have hb:aF (bases kv) k=some (.int k'):=by have:=hx.next j k h1;rw[h2] at this;exact this
  rw[aN] at hb
  cases q:aF kv k with
  | none=>rw[q] at hb;cases hb
  | some d=>
   rw[q] at hb
   have ent:=E.ent k d q
   have hD:=T.done (j+1) k' trivial h2
   have g1:xs.getD j 0=k:=by rw[List.getD_eq_getElem?_getD,h1];rfl
   simp only[jQ,g1,jH q] at hD
   cases ent with
   | root=>cases hb
   | lean b a gone aS kb lt st=>
    obtain rfl:b=k':=by simp[aP] at hb;exact hb
    exact⟨a,gone,aS,hD,st.turned,⟨_,q⟩⟩
 refine bh.of_chains (by rw[T.keys];exact E.nd) (by rw[ln];exact E.bf) (fun x d hd=>?_) ?_ (fun x hk=>E.short x ((key x).mp hk))
 ·by_cases h:x∈xs
  ·refine q4 (List.getElem?_of_mem h) fun j hj=>?_
   cases j with
   | zero=>
    obtain rfl:n=x:=by rw[qz] at hj;injection hj
    have:=T.done 0 n trivial qz
    rw[hd] at this;injection this with this;subst this
    exact .root
   | succ j=>
    have cA:=(List.getElem?_eq_some_iff.mp hj).1
    obtain⟨a,gone,aS,e1,st,kk⟩:=ek j xs[j] x (List.getElem?_eq_getElem (pF cA)) hj
    rw[hd] at e1;injection e1 with e1;subst e1
    exact .lean _ a aS gone ((key _).mpr kk) st
  ·rw[T.off x fun j _ e=>h (List.mem_of_getElem? e)] at hd
   have ent:=E.ent x d hd
   cases ent with
   | root=>exact .root
   | lean b a gone aS kb lt st=>exact .lean b a gone aS ((key b).mpr kb) st
 ·have on:∀(j:Nat) k,xs[j]?=some k→∃ys,av (bases bP) k ys:=by
   intro j
   induction j with
   | zero=>
     intro k hk
     obtain rfl:n=k:=by rw[qz] at hk;injection hk
     exact⟨_,.stop (by rw[aN,T.done 0 n trivial qz];rfl)⟩
   | succ j ih=>
     intro k hk
     have cA:=(List.getElem?_eq_some_iff.mp hk).1
     have hj:=List.getElem?_eq_getElem (l:=xs) (i:=j) (pF cA)
     refine q4 (ih _ hj) fun ys hy=>?_
     refine q8 (ek j xs[j] k hj hk) fun a gone aS e1 _ _=>?_
     exact⟨_,.step (by rw[aN,e1];rfl) hy⟩
  intro k hk
  refine q2 (E.chain ((key k).mp hk)) fun ys hy _=>?_
  clear hk
  have gen:∀v ys,av (bases kv) v ys→∃zs,av (bases bP) v zs:=by
   intro v ys h
   induction h with
   | @stop v e=>
    by_cases q:v∈xs
    ·refine q4 (List.getElem?_of_mem q) fun j hj=>?_;exact on j v hj
    ·exact⟨_,.stop (by rw[aN,T.off v fun j _ e=>q (List.mem_of_getElem? e),← aN];exact e)⟩
   | @step v b zs e h ih=>
    by_cases q:v∈xs
    ·refine q4 (List.getElem?_of_mem q) fun j hj=>?_;exact on j v hj
    ·refine q4 ih fun ws hw=>?_;clear ih
     exact⟨_,.step (by rw[aN,T.off v fun j _ e=>q (List.mem_of_getElem? e),← aN];exact e) hw⟩
  exact gen k ys hy
end Mine
namespace Mine
open PySem PyProof.Rows PySem.Builtin PySem.W PySem.Calls
theorem GY:bootBuiltins (Str.ofString "zip")=some (.type "zip"):=by decide +kernel
noncomputable def Hy(n:Nat)(G:Addr→Option Obj):Heap:={ objs:=(Array.range n).map fun a=>(G a).getD { cls:=.none,data:=.freed } }
theorem yh{n:Nat}{G:Addr→Option Obj}(h:∀a o,G a=some o→a<n∧o.data≠.freed)(a:Addr):(Hy n G).get? a=G a:=by
 unfold Heap.get? Hy
 dsimp only
 by_cases ha:a<n
 ·rw[Array.getElem?_map,Array.getElem?_eq_getElem (by simpa using ha),Array.getElem_range]
  dsimp only[Option.map_some]
  cases e:G a with
  | none=>rfl
  | some o=>
   refine q3 (h a o e) fun _ nf=>?_
   obtain⟨c,d,dt,sl⟩:=o
   cases dt <;> first | rfl | exact absurd rfl nf
 ·rw[Array.getElem?_eq_none (by simpa using ha)]
  cases e:G a with
  | none=>rfl
  | some o=>exact absurd (h a o e).1 ha
theorem lY{h:Heap}{a:Addr}{o:Obj}(e:h.get? a=some o):o.data≠.freed:=by
 unfold Heap.get? at e
 intro q
 split at e
 ·cases e
 ·rename_i x nx
  obtain⟨c,d,dt,sl⟩:=o
  dsimp only at q;subst q
  exact nx _ _ _ e
noncomputable def WV(h:Heap)(T:Addr):Prop:=∃a b,IsPair h T a b∧((a=.none∧b=.none)∨∃i t x u,a=.int i t∧b=.str x u)
noncomputable def Tkx(T:Addr)(h h':Heap):Prop:=∀b o vs n,b≠T→h.get? b=some o→o.cls=.type "tuple"→o.data=.seq vs n→∃o',h'.get? b=some o'∧o'.cls=.type "tuple"∧o'.data=.seq vs n
noncomputable def cS(d:V):Prop:=∀(h h':Heap) (T:Addr) (v:Value),WV h T→Tkx T h h'→Is h d v→Is h' d v
theorem dU{i:Int}:cS (.int i):=fun _ _ _ _ _ _ x=>by simpa only[Is] using x
theorem dT{i:Str}:cS (.str i):=fun _ _ _ _ _ _ x=>by simpa only[Is] using x
theorem eW{i:Value}:cS (.raw i):=fun _ _ _ _ _ _ x=>by simpa only[Is] using x
theorem aA.imp{h h':Heap}:∀ {ds:List V} {vs:List Value},(∀d∈ds,∀v,Is h d v→Is h' d v)→aA h ds vs→aA h' ds vs
 | [],_,_,x=>by simpa only[aA] using x
 | d::ds,_,k,x=>by
  simp only[aA] at x ⊢
  refine q0 x fun v r e y z=>?_;clear x
  exact⟨v,r,e,k d (.head _) v y,aA.imp (fun d hd=>k d (.tail _ hd)) z⟩
theorem lG{ds:List V}(aas:∀d∈ds,cS d)(oU:∀h a b,aA h ds [a,b]→¬((a=.none∧b=.none)∨∃i t x u,a=.int i t∧b=.str x u)):cS (.tup ds):=fun h h' T v od tk x=>by
 simp only[Is] at x ⊢
 refine z4 (d0:=v) x fun a vs JH ia=>?_;clear x;obtain⟨o,n,g,c,dt⟩:=JH
 have ne:a≠T:=fun q=>by
  subst q
  refine i4 od fun p q ip z=>?_;clear od
  rw[show h.get? a=_ from ip] at g
  cases g
  simp only[Data.seq.injEq] at dt
  have:vs=[p,q]:=by have:=congrArg Array.toList dt.1;simpa using this.symm
  subst this
  exact oU h p q ia z
 refine q1 (tk a o _ n ne g c dt) fun o' g' c' d'=>?_
 exact⟨a,vs,rfl,⟨o',n,g',c',d'⟩,ia.imp fun d hd v i=>aas d hd h h' T v od tk i⟩
theorem mV{l:List Nat}:cS (.tup [.none,.s l]):=by
 refine lG (fun d hd=>?_) fun h a b ia=>?_
 ·simp only[List.mem_cons,List.not_mem_nil,or_false] at hd
  rcases hd with rfl | rfl
  ·exact eW
  ·exact dT
 ·simp only[aA,Is] at ia
  refine q48 ia fun v r v2 r2 e i1 e2 JG e3=>?_;clear ia;obtain⟨t,i2⟩:=JG
  cases e;cases e2
  subst i1;subst i2
  rintro(⟨_,q⟩ | ⟨i,t,x,u,q,_⟩)
  ·cases q
  ·cases q
theorem vf{a:Int}{g d:List Nat}:cS (gE a g d):=by
 refine lG (fun d hd=>?_) fun h a b ia=>?_
 ·simp only[List.mem_cons,List.not_mem_nil,or_false] at hd
  rcases hd with rfl | rfl | rfl
  ·exact dU
  ·exact dT
  ·exact dT
 ·have:=ia.length;simp at this
theorem mX{b a:Int}{g d:List Nat}:cS (.tup [.int b,gE a g d]):=by
 refine lG (fun d hd=>?_) fun h a b ia=>?_
 ·simp only[List.mem_cons,List.not_mem_nil,or_false] at hd
  rcases hd with rfl | rfl
  ·exact dU
  ·exact vf
 ·simp only[aA,Is] at ia
  refine q48 ia fun v r v2 r2 e JD e2 JC e3=>?_;clear ia;obtain⟨t,i1⟩:=JD;obtain⟨ad,vs,i2,_⟩:=JC
  cases e;cases e2
  subst i1;subst i2
  rintro(⟨q,_⟩ | ⟨i,t,x,u,_,q⟩)
  ·cases q
  ·cases q
noncomputable def qh:VL→Prop
 | .list ds=>∀d∈ds,cS d
 | .dict kvs=>∀p∈kvs,cS p.2
 | .inst _ _=>True
 | .attrs fs=>∀x d,fs.lookup x=some d→cS d
theorem j6.safe{c:Cx}{h h':Heap}{a T:Addr}{k:VL}(K:j6 c h a k)(sf:qh k)(g:∀o,h.get? a=some o→h'.get? a=some o)(od:WV h T)(tk:Tkx T h h'):j6 c h' a k:=by
 cases k with
 | list ds=>
  refine q2 K fun vs JF y=>?_;clear K;obtain⟨o,n,e,r⟩:=JF
  exact⟨vs,⟨o,n,g o e,r⟩,y.imp fun d hd v i=>sf d hd h h' T v od tk i⟩
 | dict kvs=>
  refine q1 K fun kv JE p y=>?_;clear K;obtain⟨o,es,ep,e,r⟩:=JE
  refine⟨kv,⟨o,es,ep,g o e,r⟩,p,y.imp fun d hd v i=>?_⟩
  refine q2 (List.mem_map.mp hd) fun q hq JB=>?_;obtain rfl:=JB
  exact sf q hq h h' T v od tk i
 | inst C dx=>exact g _ K
 | attrs fs=>
  refine q1 K fun mv JA p y=>?_;clear K;obtain⟨o',es,ep,e,r⟩:=JA
  exact⟨mv,⟨o',es,ep,g o' e,r⟩,p,fun x d q=>let ⟨v,a,b⟩:=y x d q;⟨v,a,sf x d q h h' T v od tk b⟩⟩
section
variable {c:Cx} {f:Fx} {m:bL} {H:AH}
structure sZ(f:Fx)(a:Addr):Prop where
 new:f.hE.get? a=none
 loc:a≠f.env.locals
 jd:∀x b,f.env.cells.lookup x=some b→b≠a
 fs:a∉f.fs
 kp:∀p∈f.keep,a≠p.1
theorem St.My{s s':Shared}(S:St c f m H s)(R0:mw c f.HE f.hE){T:Addr}{wr:List Addr}(ot:WV s.heap T)(only:∀b∈wr,b≠T→∀o vs n,s.heap.get? b=some o→o.cls=.type "tuple"→o.data≠.seq vs n)
  (ap:∀b∈wr,sZ f b) (hH:∀b∈wr,H b=none) (sf:∀a x,H a=some x→f.HE a=some x∨qh x.k) (sm:∀x d,m x=some d→cS d)
  (ext:∀b o,b∉wr→s.heap.get? b=some o→s'.heap.get? b=some o) (hg:s'.gens=s.gens) (ho:s'.os=s.os):St c f m H s':=by
 have nm:∀b,H b≠none→b∉wr:=fun b e q=>e (hH b q)
 have W7:Tkx T s.heap s'.heap:=fun b o vs n ne e cl dt=>⟨o,ext b o (fun q=>only b q ne o vs n e cl dt) e,cl,dt⟩
 have old:∀b o,f.hE.get? b=some o→b∉wr:=fun b o e q=>by rw[(ap b q).new] at e;cases e
 have tk0:Tk f.hE s'.heap:=fun b o vs n e cl dt=>by
  have hb:f.HE b=none:=by
   cases q:f.HE b with
   | none=>rfl
   | some x=>
    refine q1 ((R0 b x q).obj) fun o' g nt _=>?_
    rw[e] at g;cases g
    exact absurd dt (nt vs n cl)
  refine q3 (S.off b o e hb) fun k1 k2=>?_
  by_cases hf:b∈f.fs
  ·refine q4 (k2 hf) fun sl z=>?_
   exact⟨_,ext b _ (old b o e) z,cl,dt⟩
  ·exact⟨o,ext b o (old b o e) (k1 hf),cl,dt⟩
 have rep:mw c H s'.heap:=fun a x e=>by
  have k:=S.rep a x e
  have gx:s'.heap.get? a=some x.o:=ext a x.o (nm a (by rw[e];exact fun z=>nomatch z)) k.1
  rcases sf a x e with q | q
  ·have k0:=R0 a x q
   exact k0.keep tk0 fun o z=>by rw[k0.1] at z;cases z;exact gx
  ·exact⟨gx,k.2.safe q (fun o z=>by rw[k.1] at z;cases z;exact gx) ot W7⟩
 refine⟨rep,fun b o e=>ext b o (fun q=>?_) (S.base b o e),S.bE,S.hb,fun b o e q=>?_,S.i6,S.up,?_,S.gU,S.mG,fun x a e=>?_,S.apart,?_,S.fh,S.big,fun p hp=>?_,hg.trans S.gens,ho.trans S.os⟩
 ·have:=S.bE b o e
  rw[(ap b q).new] at this;cases this
 ·exact⟨fun n=>ext b o (old b o e) ((S.off b o e q).1 n),fun n=>let ⟨sl,z⟩:=(S.off b o e q).2 n;⟨sl,ext _ _ (old b o e) z⟩⟩
 ·refine q2 (S.loc) fun mv n k=>?_
  refine⟨mv,n.at fun o e=>ext _ o (fun q=>(ap _ q).loc rfl) e,fun x d e=>?_⟩
  rcases k x d e with ⟨z,v,p,i⟩ | ⟨z,a,v,p,ic,i⟩
  ·exact .inl ⟨z,v,p,sm x d e _ _ T v ot W7 i⟩
  ·refine q2 ic fun oc g1 g2=>?_;clear ic
   exact .inr ⟨z,a,v,p,⟨oc,ext a oc (fun q=>(ap a q).jd x a p rfl) g1,g2⟩,sm x d e _ _ T v ot W7 i⟩
 ·refine q9 (S.jd x a e) fun ov oc p q r g1 g2=>?_
  exact⟨p,q,r,ov,oc,ext a oc (fun q=>(ap a q).jd x a e rfl) g1,g2⟩
 ·exact cm S.ff fun b hb o e hd=>⟨o,ext b o (fun q=>(ap b q).fs hb) e,hd⟩
 ·exact⟨ext _ _ (fun q=>(ap _ q).kp p hp rfl) (S.kp p hp).1,(S.kp p hp).2⟩
noncomputable abbrev Fx.guard(f:Fx)(hE:Heap)(kp:List (Addr×Obj)):Fx:={ f with hE:=hE,keep:=kp }
theorem St.guard{s:Shared}(S:St c f m H s){T1 T2:Addr}{o1 o2:Obj}(g1:s.heap.get? T1=some o1)(g2:s.heap.get? T2=some o2)(a1:sZ f T1)(a2:sZ f T2)(h1:H T1=none)(h2:H T2=none){kp:List (Addr×Obj)}
  (GG:∀p∈kp,s.heap.get? p.1=some p.2∧∃vs,p.2.data=.fields vs) :
  ∃lX,(∀a o,f.hE.get? a=some o→lX.get? a=some o)∧lX.get? T1=some o1∧lX.get? T2=some o2∧St c (f.guard lX kp) m H s:=by
 have lv:∀a o,(if a=T1 then some o1 else if a=T2 then some o2 else f.hE.get? a)=some o→a<s.heap.objs.size∧o.data≠.freed:=fun a o e=>by
  split at e
  ·rename_i q;subst q;cases e;exact⟨Heap.lt_size g1,lY g1⟩
  split at e
  ·rename_i q;subst q;cases e;exact⟨Heap.lt_size g2,lY g2⟩
  ·refine⟨?_,lY e⟩
   cases z:s.heap.get? a with
   | none=>rw[S.old z] at e;cases e
   | some o'=>exact Heap.lt_size z
 have G:∀a,(Hy s.heap.objs.size fun a=>if a=T1 then some o1 else if a=T2 then some o2 else f.hE.get? a).get? a=if a=T1 then some o1 else if a=T2 then some o2 else f.hE.get? a:=yh lv
 have G0:∀a,a≠T1→a≠T2→(Hy s.heap.objs.size fun a=>if a=T1 then some o1 else if a=T2 then some o2 else f.hE.get? a).get? a=f.hE.get? a:=fun a n1 n2=>by rw[G,if_neg n1,if_neg n2]
 have sub:∀a o,f.hE.get? a=some o→(Hy s.heap.objs.size fun a=>if a=T1 then some o1 else if a=T2 then some o2 else f.hE.get? a).get? a=some o:=fun a o e=>by
  rw[G0 a (fun q=>by rw[q,a1.new] at e;cases e) (fun q=>by rw[q,a2.new] at e;cases e)];exact e
 generalize (Hy s.heap.objs.size fun a=>if a=T1 then some o1 else if a=T2 then some o2 else f.hE.get? a)=lX at G G0 sub
 have t1:lX.get? T1=some o1:=by rw[G,if_pos rfl]
 have t2:lX.get? T2=some o2:=by
  rw[G];split
  ·rename_i q;rw[← q] at g1;rw[g1] at g2;exact g2
  ·rw[if_pos rfl]
 refine⟨lX,sub,t1,t2,S.rep,S.base,fun b o e=>sub b o (S.bE b o e),S.hb,fun a o e q=>?_,fun a o e q=>?_,S.up,S.loc,fun hf=>?_,S.mG,fun x a e=>?_,S.apart,S.ff,S.fh,S.big,GG,S.gens,S.os⟩
 ·by_cases n1:a=T1
  ·subst n1;rw[t1] at e;cases e;exact⟨fun _=>g1,fun z=>(a1.fs z).elim⟩
  by_cases n2:a=T2
  ·subst n2;rw[t2] at e;cases e;exact⟨fun _=>g2,fun z=>(a2.fs z).elim⟩
  ·rw[show(f.guard lX kp).hE.get? a=_ from G0 a n1 n2] at e;exact S.off a o e q
 ·by_cases n1:a=T1
  ·subst n1;exact h1
  by_cases n2:a=T2
  ·subst n2;exact h2
  ·rw[show(f.guard lX kp).hE.get? a=_ from G0 a n1 n2] at e;exact S.i6 a o e q
 ·show lX.get? f.env.locals=none
  rw[G0 _ a1.loc.symm a2.loc.symm];exact S.gU hf
 ·refine uD (S.jd x a e) fun p q r z=>?_
  refine⟨p,q,fun hf hk=>?_,z⟩
  show lX.get? a=none
  rw[G0 a (fun q=>a1.jd x a e q) (fun q=>a2.jd x a e q)];exact r hf hk
theorem St.xK{s:Shared}{lX:Heap}{kp:List (Addr×Obj)}(S:St c (f.guard lX kp) m H s)(sub:∀a o,f.hE.get? a=some o→lX.get? a=some o)(bE:c.base.StaysIn f.hE)(hk:∀p∈f.keep,p∈kp):St c f m H s:=by
 have non:∀a,lX.get? a=none→f.hE.get? a=none:=fun a e=>by
  cases q:f.hE.get? a with
  | none=>rfl
  | some o=>rw[sub a o q] at e;cases e
 exact⟨S.rep,S.base,bE,S.hb,fun a o e q=>S.off a o (sub a o e) q,fun a o e q=>S.i6 a o (sub a o e) q,S.up,S.loc,fun hf=>non _ (S.gU hf),S.mG,fun x a e=>let ⟨p,q,r,z⟩:=S.jd x a e;⟨p,q,fun hf hk=>non _ (r hf hk),z⟩,S.apart,S.ff,S.fh,S.big,fun p hp=>S.kp p (hk p hp),S.gens,S.os⟩
noncomputable def Zst(z TI TO i1 i2 l1 l2:Addr)(i:Nat)(h:Heap):Prop:=IsZip h z TI TO .none∧IsPair h TI (.ref i1) (.ref i2)∧WV h TO∧h.IsListIter i1 l1 i∧h.IsListIter i2 l2 i
theorem nM{h:Heap}:∀ {l:List (List Nat)} {vs:List Value} {i:Nat} {t:List Nat},aA h (l.map V.s) vs→l[i]?=some t→∃u,vs[i]?=some (.str ⟨t.toArray⟩ u):=fun ia e=>by
 refine q2 (ia.get (aQ (g:=V.s) e)) fun v hv iv=>?_
 refine q4 (cM iv) fun u Jz=>?_;obtain rfl:=Jz
 exact⟨u,hv⟩
theorem n5{h:Heap}:∀ {l:List Int} {vs:List Value} {i:Nat} {t:Int},aA h (l.map V.int) vs→l[i]?=some t→∃u,vs[i]?=some (.int t u):=fun ia e=>by
 refine q2 (ia.get (aQ (g:=V.int) e)) fun v hv iv=>?_
 refine q4 (aY iv) fun u Jy=>?_;obtain rfl:=Jy
 exact⟨u,hv⟩
theorem rp(O:iw f){x y zx:Str}{p1 p2 pt q pz pc:Pos}{kt:Nat}{e1 e2:Expr}{body rest:List Stmt}{Q:Ko}{l1 l2:Addr}{is:List Int}{ts:List (List Nat)}
  (K:cV c) (hh:f.A.handled=none) (R0:mw c f.HE f.hE) (gz:Pe c f (.Name zx pz) m H (.raw (.type "zip"))) (h1:Pe c f e1 m H (.ref l1)) (h2:Pe c f e2 m H (.ref l2)) (L1:ai H l1 (is.map V.int)) (L2:ai H l2 (ts.map V.s)) (hlen:ts.length=is.length)
  (J:Nat→bL→AH→Prop) (j0:J 0 m H)
  (safe:∀i m' H',J i m' H'→(∀a x,H' a=some x→f.HE a=some x∨qh x.k)∧(∀x d,m' x=some d→cS d)∧H' l1=H l1∧H' l2=H l2)
  (turn:∀i n t m' H' lX kp,is[i]?=some n→ts[i]?=some t→J i m' H'→Ex c (f.guard lX kp) body ((m'.set x (.int n)).set y (.s t)) H' (fun o m₂ H₂=>o=.next∧J (i+1) m₂ H₂))
  (done:∀m' H',J is.length m' H'→Ex c f rest m' H' Q)
  (hx:(f.env.kindOf x=some .local)∨(f.env.kindOf x=some .cell∧(f.env.cells.lookup x).isSome=true)) (hy:(f.env.kindOf y=some .local)∨(f.env.kindOf y=some .cell∧(f.env.cells.lookup y).isSome=true)) (oV:autoParam (f.fn=true) aR._auto_1)
  (he:autoParam (starEach [e1,e2] f.env=[(false,eval e1 f.env),(false,eval e2 f.env)]) aR._auto_1) (ny:autoParam (starEach [e2] f.env=[(false,eval e2 f.env)]) aR._auto_1)
  (hs:∀x,foldedSetIterable (.Call (.Name zx pz) [e1,e2] [] pc) f.env x=pure x:=by intro _;rfl):Ex c f (.For (.Tuple [.Name x p1,.Name y p2] kt pt) (.Call (.Name zx pz) [e1,e2] [] pc) body [] q::rest) m H Q:=.mk fun s S=>by
 refine wpAny_execs_cons (wpAny_For ?_ hs)
 refine PyProof.Rows.Call_ (wpAny_mono (gz s S) (fun v s₁ z=>?_) fun x s' z=>z.ex fun _ _ y=>y.elim)
 refine jB z fun t₁ i₁ S₁=>?_;clear z
 obtain rfl:=aG i₁
 refine PyProof.Rows.callWith_type1 (PyProof.Rows.args_cons (wpAny_mono (h1 s₁ S₁) (fun v s₂ z=>?_) fun x s' z=>z.ex fun _ _ y=>y.elim) (by rw[he,ny])) (by rw[he,ny]) (by rw[ny];rfl)
 refine jB z fun t₂ i₂ S₂=>?_;clear z
 obtain rfl:=aG i₂
 refine PyProof.Rows.args_cons (wpAny_mono (h2 s₂ S₂) (fun v s₃ z=>?_) fun x s' z=>z.ex fun _ _ y=>y.elim) ny
 refine jB z fun t₃ i₃ S₃=>?_;clear z
 obtain rfl:=aG i₃
 refine q4 (id L1) fun ol1 La1=>?_
 refine q4 (id L2) fun ol2 La2=>?_
 refine tv (S₃.rep.list La1) fun VN k1 U2 cl1 _ dt1 Wh=>?_
 refine tv (S₃.rep.list La2) fun VM k2 U1 cl2 _ dt2 Wg=>?_
 refine PyProof.Rows.args_nil (call_zip_2 (xs:=VN.toArray) (ys:=VM.toArray) ⟨_,U2,cl1,k1,dt1⟩ ⟨_,U1,cl2,k2,dt2⟩ fun h₄ hz xH GO tS fQ hsz hk=>?_)
 have D:=zipApart_new (Heap.lt_size U2) (Heap.lt_size U1)
 have fresh:∀a,s₃.heap.objs.size≤a→sZ f a:=fun a ha=>by
  have e:s₃.heap.get? a=none:=by
   cases z:s₃.heap.get? a with
   | none=>rfl
   | some o=>exact absurd (Heap.lt_size z) (Nat.not_lt.mpr ha)
  refine vk (S₃.c6 e) fun b1 b2 b3 b4 b5 b6=>?_
  exact⟨b2,b3,b4,b5,b6⟩
 have aI1:=fresh _ (Nat.le_refl _)
 have aI2:=fresh _ (Nat.le_add_right s₃.heap.objs.size 1)
 have aTI:=fresh _ (Nat.le_add_right s₃.heap.objs.size 2)
 have WS:=fresh _ (Nat.le_add_right s₃.heap.objs.size 3)
 have aZ:=fresh _ (Nat.le_add_right s₃.heap.objs.size 4)
 have S₄:=S₃.grow (s':={ s₃ with heap:=h₄ }) (fun b o e=>hk b o e) rfl rfl
 refine wpAny_pyIter_zip hz ?_
 generalize s₃.heap.objs.size+4=z at D aZ hz ⊢
 generalize s₃.heap.objs.size+3=TO at D WS hz GO
 generalize s₃.heap.objs.size+2=TI at D aTI hz xH
 generalize s₃.heap.objs.size+1=i2 at D aI2 xH fQ
 generalize s₃.heap.objs.size=i1 at D aI1 xH tS
 clear fresh hk hsz
 refine codeAny_forLoop_any (fun n s'=>∃i m' H',n+i=is.length+1∧i≤is.length∧St c f m' H' s'∧Zst z TI TO i1 i2 l1 l2 i s'.heap∧J i m' H') (fun n s₅ zz=>?_) (is.length+1) ⟨0,m,H,rfl,Nat.zero_le _,S₄,⟨hz,xH,⟨_,_,GO,.inl ⟨rfl,rfl⟩⟩,tS,fQ⟩,j0⟩
 clear S₄ hz xH GO tS fQ Wh Wg U2 U1
 refine q61 zz fun i m₅ H₅ hn hle S₅ Jq j₅=>?_;clear zz;obtain⟨hz,xH,od,tS,fQ⟩:=Jq
 refine i4 (id od) fun pa pb GO _=>?_
 refine uD (safe i m₅ H₅ j₅) fun sf sm e1' e2'=>?_
 have abc:=e1'.trans La1
 have abb:=e2'.trans La2
 refine tv (S₅.rep.list abc) fun WY k1' U2 _ _ GU Wh=>?_
 refine tv (S₅.rep.list abb) fun WX k2' U1 _ _ GS Wg=>?_
 rw[dt1] at GU;rw[dt2] at GS
 simp only[Data.seq.injEq] at GU GS
 obtain rfl:VN=WY:=by have:=congrArg Array.toList GU.1;simpa using this
 obtain rfl:VM=WX:=by have:=congrArg Array.toList GS.1;simpa using this
 have HL:s₅.heap.IsList l1 VN.toArray:=⟨_,U2,cl1,k1,dt1⟩
 have HK:s₅.heap.IsList l2 VM.toArray:=⟨_,U1,cl2,k2,dt2⟩
 have tJ:VN.length=is.length:=by have:=Wh.length;simpa using this
 have ae7:VM.length=is.length:=by have:=Wg.length;rw[List.length_map] at this;exact Bx hlen this
 have T9:∀ {h:Heap} {H':AH} {a:Addr} {o:Obj} {vs n},mw c H' h→h.get? a=some o→o.cls=.type "tuple"→o.data=.seq vs n→H' a=none:=fun {h H' a o vs n} R g cl dt=>by
  cases q:H' a with
  | none=>rfl
  | some x=>refine q1 ((R a x q).obj) fun o' g' nt _=>?_;rw[g] at g';cases g';exact absurd dt (nt vs n cl)
 have Gl:∀ {h:Heap} {H':AH} {a:Addr} {o:Obj} {vs},mw c H' h→h.get? a=some o→o.data=.fields vs→H' a=none:=fun {h H' a o vs} R g dt=>by
  cases q:H' a with
  | none=>rfl
  | some x=>refine q5 ((R a x q).obj) fun o' g' _ nf _=>?_;rw[g] at g';cases g';exact absurd dt (nf vs)
 refine q1 (id tS) fun oi1 gi1 ci1 di1=>?_
 refine q1 (id fQ) fun oi2 gi2 ci2 di2=>?_
 have zH:H₅ z=none:=Gl S₅.rep hz rfl
 have i1H:H₅ i1=none:=Gl S₅.rep gi1 di1
 have i2H:H₅ i2=none:=Gl S₅.rep gi2 di2
 have W4:H₅ TO=none:=T9 S₅.rep GO rfl rfl
 have tiH:H₅ TI=none:=T9 S₅.rep xH rfl rfl
 have tE:∀ {p:Addr→Prop},p z→p TO→p i1→p i2→∀b∈[z,TO,i1,i2],p b:=fun a b d e=>Mine.tE a b d e
 have move:∀ {h':Heap} {tk:Nat},(∀b o,b≠z→b≠TO→b≠i1→b≠i2→s₅.heap.get? b=some o→h'.get? b=some o)→St c f m₅ H₅ { s₅ with heap:=h',toks:=tk }:=fun {h' tk} hk=>
  S₅.My R0 (wr:=[z,TO,i1,i2]) (T:=TO) od (tE (fun _ o vs n g cl=>by rw[show s₅.heap.get? z=_ from hz] at g;cases g;exact absurd (show Value.type "zip"=Value.type "tuple" from cl) (by decide)) (fun ne=>(ne rfl).elim) (fun _ o vs n g cl=>by rw[gi1] at g;cases g;rw[ci1] at cl;exact absurd cl (by decide)) (fun _ o vs n g cl=>by rw[gi2] at g;cases g;rw[ci2] at cl;exact absurd cl (by decide)))
   (tE aZ WS aI1 aI2) (tE zH W4 i1H i2H) sf sm (fun b o hb e=>hk b o (fun q=>hb (by simp[q])) (fun q=>hb (by simp[q])) (fun q=>hb (by simp[q])) (fun q=>hb (by simp[q])) e) rfl rfl
 by_cases cA:i<is.length
 ·refine q4 (n5 Wh (List.getElem?_eq_getElem cA)) fun tn Ut=>?_
  obtain⟨tt,hyt⟩:=nM Wg (List.getElem?_eq_getElem (show i<ts.length by exact vY hlen cA))
  refine wpAny_pyNext_zip_item D hz xH GO tS fQ HL HK (by simpa using Ut) (by simpa using hyt) fun h₆ z6 to6 i16 i26 T6 sz6 hk6=>?_
  refine wpAny_letOwnedTupleGo_zip z6 fun h₇ z7 BQ=>?_
  replace BQ:Heap.SameBut z h₆ h₇:=BQ
  have Tz:s₅.heap.objs.size≠z:=Nat.ne_of_gt (Heap.lt_size hz)
  refine wpAny_assign_Tuple hh (show Heap.IsTuple h₇ s₅.heap.objs.size _ from⟨_,BQ.extBut _ _ Tz T6,rfl,_,rfl⟩) rfl rfl fun h₈ ZX=>?_
  replace ZX:Heap.ExtBut h₇.objs.size h₇ h₈:=ZX
  have up:∀b o,h₇.get? b=some o→h₈.get? b=some o:=fun b o e=>ZX b o (Nat.ne_of_lt (Heap.lt_size e)) e
  have S₈:St c f m₅ H₅ { s₅ with heap:=h₈ }:=move (tk:=s₅.toks) fun b o n1 n2 n3 n4 e=>up b o (BQ.extBut b o n1 (hk6 b o n1 n2 n3 n4 e))
  have z8:IsZip h₈ z TI TO .none:=up _ _ z7
  have ti8:IsPair h₈ TI (.ref i1) (.ref i2):=up _ _ (BQ.extBut _ _ D.TIz (hk6 _ _ D.TIz D.TITO D.TIi1 D.TIi2 xH))
  have to8:IsPair h₈ TO _ _:=up _ _ (BQ.extBut _ _ D.TOz to6)
  have i18:h₈.IsListIter i1 l1 (i+1):=i16.at fun o e=>up _ _ (BQ.extBut _ _ D.i1z e)
  have i28:h₈.IsListIter i2 l2 (i+1):=i26.at fun o e=>up _ _ (BQ.extBut _ _ D.i2z e)
  refine q1 (id i18) fun oj1 gj1 cj1 dj1=>?_
  refine q1 (id i28) fun oj2 gj2 cj2 dj2=>?_
  obtain⟨lX,sub,tE1,tE2,S₉⟩:=S₈.guard (T1:=TO) (T2:=TI) to8 ti8 WS aTI W4 tiH (kp:=(z,_)::(i1,oj1)::(i2,oj2)::f.keep) fun p hp=>by
   cases hp with
   | head=>exact⟨z8,_,rfl⟩
   | tail _ hp=>cases hp with
    | head=>exact⟨gj1,_,dj1⟩
    | tail _ hp=>cases hp with
     | head=>exact⟨gj2,_,dj2⟩
     | tail _ hp=>exact S₈.kp p hp
  refine wpAny_bind (wpAny_holding (wpAny_assign_Name (iD (f:=f.guard lX _) S₉ cI hx oV O.kind fun s₁₀ S₁₀ _ _=>?_)))
  refine wpAny_bind (wpAny_holding (wpAny_assign_Name (iD (f:=f.guard lX _) S₁₀ ji hy oV O.kind fun s₁₁ S₁₁ _ _=>wpAny_pure ?_)))
  refine wpAny_mono ((turn i _ _ m₅ H₅ lX _ (List.getElem?_eq_getElem cA) (List.getElem?_eq_getElem (show i<ts.length by exact vY hlen cA)) j₅).run s₁₁ S₁₁) (fun fl s₁₂ w=>?_) fun x s' w=>?_
  ·refine q66 w fun m₆ H₆ fi HU j₆=>?_;clear w
   have kz:=(HU.kp _ (.head _)).1
   have k1:=(HU.kp _ (.tail _ (.head _))).1
   have k2:=(HU.kp _ (.tail _ (.tail _ (.head _)))).1
   have HEn:∀a,H₅ a=none→f.HE a=none:=fun a e=>by
    cases q:f.HE a with
    | none=>rfl
    | some x=>exact absurd e (S₅.up a (by rw[q];exact fun z=>nomatch z))
   have oTO:=(HU.off TO _ tE1 (HEn _ W4)).1 WS.fs
   have oTI:=(HU.off TI _ tE2 (HEn _ tiH)).1 aTI.fs
   have S₁₃:=HU.xK (f:=f) sub S₅.bE fun p hp=>.tail _ (.tail _ (.tail _ hp))
   cases fl with
   | next=>exact⟨n-1,by exact MK hn cA,i+1,m₆,H₆,by exact vZ hn cA,cA,S₁₃,⟨kz,oTI,⟨_,_,oTO,.inr ⟨_,_,_,_,rfl,rfl⟩⟩,⟨oj1,k1,cj1,dj1⟩,⟨oj2,k2,cj2,dj2⟩⟩,j₆⟩
   | brk=>cases fi
   | cont=>cases fi
   | ret v=>refine q2 fi fun d q _=>?_;clear fi;cases q
  ·refine q67 w fun C m' H' e _ _ _ q _=>?_;clear w
   cases q
 ·obtain rfl:i=is.length:=by exact Gj hle cA
  refine wpAny_pyNext_zip_end hh D hz xH GO tS fQ HL HK (.inl (by rw[List.getElem?_toArray,List.getElem?_eq_none (Bw tJ)])) fun h₆ hk=>?_
  exact wpAny_execs_nil ((done m₅ H₅ j₅).run _ (move (tk:=s₅.toks) hk))
end
end Mine
namespace Mine
open PySem PyProof.Rows PySem.Builtin PySem.W PySem.Calls
noncomputable def jI(kvs:List (Int×V))(k:Int):List (Int×V):=kvs.filter fun p=>decide (p.1≠k)
theorem sM{h:Heap}{k:Int}:∀ {kvs:List (Int×V)} {kv:List (Int×Value)},kv.map (·.1)=kvs.map (·.1)→aA h (kvs.map (·.2)) (kv.map (·.2))→
  (without kv k).map (·.1)=(jI kvs k).map (·.1)∧aA h ((jI kvs k).map (·.2)) ((without kv k).map (·.2))
 | [],[],_,_=>⟨rfl,dJ _⟩
 | [],_::_,e,_=>by simp at e
 | _::_,[],e,_=>by simp at e
 | (x,d)::kvs,(y,v)::kv,e,i=>by
  simp only[List.map_cons,List.cons.injEq] at e
  refine q3 e fun Jw zy=>?_;clear e;have e:=zy;clear zy;obtain rfl:=Jw
  simp only[List.map_cons,aA] at i
  refine q0 i fun v' r q iv ir=>?_;clear i
  cases q
  refine q3 (sM (k:=k) e ir) fun h1 h2=>?_
  by_cases q:y=k
  ·simp only[without,jI,List.filter_cons,q,ne_eq,not_true_eq_false,decide_false,Bool.false_eq_true,if_false]
   exact⟨h1,h2⟩
  ·simp only[without,jI,List.filter_cons,q,ne_eq,not_false_eq_true,decide_true,if_true,List.map_cons]
   refine⟨?_,cZ iv h2⟩
   rw[List.cons.injEq];exact⟨rfl,h1⟩
theorem j1{kvs:List (Int×V)}{k:Int}(x:Int):aF (jI kvs k) x=if x=k then none else aF kvs x:=by
 unfold jI
 induction kvs with
 | nil=>simp[aF]
 | cons p r ih=>
  rw[List.filter_cons]
  by_cases q:p.1=k
  ·rw[if_neg (by simp[q]),ih]
   split
   ·rfl
   ·rename_i n;unfold aF;rw[List.find?_cons_of_neg (by simp;rw[q];exact fun z=>n z.symm)]
  ·rw[if_pos (by simp[q])]
   by_cases z:p.1=x
   ·rw[if_neg (by rw[← z];exact q)];unfold aF;rw[List.find?_cons_of_pos (by simp[z]),List.find?_cons_of_pos (by simp[z])]
   ·unfold aF at ih ⊢;rw[List.find?_cons_of_neg (by simp[z]),List.find?_cons_of_neg (by simp[z])];exact ih
theorem yV{kvs:List (Int×V)}{k:Int}(nd:(kvs.map (·.1)).Nodup):((jI kvs k).map (·.1)).Nodup:=nd.sublist (List.filter_sublist.map _)
theorem qb{kvs:List (Int×V)}{k:Int}:(jI kvs k).length≤kvs.length:=List.length_filter_le _ _
section
variable {c:Cx} {f:Fx} {m:bL} {H:AH} {X:Value→AH→Prop} {Q:V→AH→Prop}
theorem iS{e:Expr}{p:Pos}{rest:List Stmt}{Q:Ko}(h:Ev c f e m H (fun d H'=>Ex c f rest m H' Q) (fun C H'=>Q (.exc C) m H'))
  (hi:autoParam (interactive f.env=false) aR._auto_1) (hs:autoParam (swapsWith e none p.line f.env=pure false) aR._auto_1):Ex c f (.Expr e p::rest) m H Q:=.mk fun s S=>by
 refine wpAny_execs_cons (wpAny_Expr_any (wpAny_mono (h s S) (fun v s₁ z=>?_) fun x s' z=>z.ex fun _ _ y=>y) hi hs)
 refine mL z fun d H' t i S₁ q=>?_;clear z
 exact q s₁ S₁
theorem Vz{a:Addr}{kvs:List (Int×V)}{k:Int}{d:V}(h:ax H a kvs)(hd:aF kvs k=some d)(hsz:kvs.length≤sizeLine)(q:∀o,Q d (H.set a ⟨o,.dict (jI kvs k)⟩)):qk c f (fun vs=>call (.builtin "dict.pop") vs) [.ref a,.int k] m H Q X:=.mk fun s vs S ia=>by
 simp only[aA] at ia;refine vh (d0:=vs) ia fun v v' i i'=>?_;clear ia
 obtain rfl:=aG i;refine q4 (aY i') fun u Jx=>?_;obtain rfl:=Jx
 refine q1 (S.rep.dictOf h) fun kv dd e ia=>?_
 have el:kv.length=kvs.length:=by have:=congrArg List.length e;simpa using this
 rcases jG (k:=k) e ia with ⟨z,_⟩ | ⟨d',v,z,hv,iv⟩
 ·rw[hd] at z;cases z
 rw[hd] at z;cases z
 refine call_meetsIn PySem.F.slot_dict_pop dd.typeIs PySem.F.entry_dict_pop (PySem.F.args_dict_pop_2 _ _) (meets_dict_pop_there (intKind c.prog c.w) a (k:=k) qR [] (.inl rfl) rfl) ⟨kv,v,dd,by exact yc hsz el,hv,fun h' xI sb=>?_⟩
 refine q4 h fun o0 e0=>?_;clear h
 have nt:Tk s.heap h':=fun b o₁ _ _ e cl dt=>⟨o₁,by
  by_cases z:b=a
  ·subst z;refine q8 dd fun o' _ _ g' ex _=>?_;clear dd;rw[g'] at e;cases e;rw[ex.1] at cl;exact absurd cl (by decide)
  ·exact sb.extBut b o₁ z e,cl,dt⟩
 refine q6 (id xI) fun o es ep g r=>?_
 refine q3 (sM (k:=k) e (ia.tk nt)) fun p1 p2=>?_
 have:=S.upd (s':={ s with heap:=h',toks:=s.toks+1 }) (y:=⟨o,.dict (jI kvs k)⟩) e0 sb.extBut rfl rfl ⟨g,_,xI,p1,p2⟩
 exact⟨this.2,d,_,iv.tk nt,this.1,q o⟩
theorem zf{o e:Expr}{ap p p':Pos}{rest:List Stmt}{Q:Ko}{a:Addr}{kvs:List (Int×V)}{k:Int}{d:V}(ho:Pe c f o m H (.ref a))(he:Pe c f e m H (.int k))(h:ax H a kvs)(hd:aF kvs k=some d)(hsz:kvs.length≤sizeLine)(kk:∀o',Ex c f rest m (H.set a ⟨o',.dict (jI kvs k)⟩) Q)
  (dA:autoParam (attributeBase o (Str.ofString "pop") f.env (eval o f.env)=eval o f.env) aR._auto_1) (ik:autoParam (starEach [e] f.env=(false,eval e f.env)::starEach [] f.env) aR._auto_1) (dY:autoParam ((ap.endLine == p.line)=true) aR._auto_1) (hi:autoParam (interactive f.env=false) aR._auto_1) (Gz:autoParam (swapsWith (.Call (.Attribute o (Str.ofString "pop") ap) [e] [] p) none p'.line f.env=pure false) aR._auto_1) :
  Ex c f (.Expr (.Call (.Attribute o (Str.ofString "pop") ap) [e] [] p) p'::rest) m H Q:=
 iS (hZ PySem.F.plainAttrs_dict PySem.F.slot_dict_pop (ho.ev ⟨lW h,az (he.ev (bk (Vz h hd hsz kk))) ik⟩) PySem.F.type_dict_pop dA (by rw[ik];rfl) dY ik rfl) hi Gz
theorem iZ{e:Expr}{a b:Int}(h:a=b)(p:Pe c f e m H (.int a)):Pe c f e m H (.int b):=h▸p
noncomputable def leansOn(n:Int):V→Bool
 | .int b=>b == n
 | _=>false
theorem fY{n:Int}{d:V}:leansOn n d=true↔d=.int n:=by
 cases d <;> simp[leansOn]
theorem eL.eqI{kvs:List (Int×V)}{tx:Int→List Nat}{rk:Int→Nat}{k n:Int}{d:V}(E:eL kvs tx rk k d):B2 c f H (compareOp .Eq) (aP d) (.int n) (.bool (leansOn n (aP d))):=by
 cases E with
 | root=>
  refine .mk fun m s v₁ v₂ S i₁ i₂=>?_
  obtain rfl:=aG i₁;refine q4 (aY i₂) fun u Ju=>?_;obtain rfl:=Ju
  exact PySem.EqNone.eq_none_int ⟨aM.refl _,rfl,rfl,br⟩
 | lean b a gone aS hb cA st=>exact fg
theorem eL.neI{kvs:List (Int×V)}{tx:Int→List Nat}{rk:Int→Nat}{k n:Int}{d:V}(E:eL kvs tx rk k d):B2 c f H (compareOp .NotEq) (aP d) (.int n) (.bool (!leansOn n (aP d))):=by
 cases E with
 | root=>
  refine .mk fun m s v₁ v₂ S i₁ i₂=>?_
  obtain rfl:=aG i₁;refine q4 (aY i₂) fun u Jt=>?_;obtain rfl:=Jt
  exact PySem.EqNone.ne_none_int ⟨aM.refl _,rfl,rfl,br⟩
 | lean b a gone aS hb cA st=>exact qv
end
end Mine
namespace Mine
open PySem
noncomputable def er(b0:V)(ls:List Int)(i:Nat):V:=match b0 with
 | .int b=>.int b
 | _=>if i=0 then .none else .int (ls.getD 0 0)
noncomputable def qo(b0:V)(ls:List Int)(tx:Int→List Nat)(i:Nat)(k:Int)(d:V):Prop:=
 (er b0 ls i=.none∧d=.tup [.none,.s (tx k)])∨∃(b:Int) (a e:Nat),er b0 ls i=.int b∧qu (tx b) (tx k) a e∧d=.tup [.int b,gE a (((tx b).take ((tx b).length-e)).drop a) (((tx k).take ((tx k).length-e)).drop a)]
theorem qo.uniq{b0:V}{ls:List Int}{tx:Int→List Nat}{i:Nat}{k:Int}{d d':V}(h:qo b0 ls tx i k d)(h':qo b0 ls tx i k d'):d=d':=by
 rcases h with ⟨e,rfl⟩ | ⟨b,a,e1,e,C,rfl⟩ <;> rcases h' with ⟨e',rfl⟩ | ⟨b',a',e1',e',C',rfl⟩
 ·rfl
 ·rw[e] at e';cases e'
 ·rw[e] at e';cases e'
 ·rw[e] at e';cases e'
  refine q3 (C.uniq C') fun Js Jr=>?_;obtain rfl:=Js;obtain rfl:=Jr
  rfl
structure gy(kvs:List (Int×V))(n:Int)(ls:List Int):Prop where
 pw:ls.Pairwise (· < ·)
 mem:∀y,y∈ls↔aJ kvs y∧aP (aE kvs y)=.int n
theorem gy.nd{kvs:List (Int×V)}{n:Int}{ls:List Int}(L:gy kvs n ls):ls.Nodup:=L.pw.imp fun h=>Int.ne_of_lt h
theorem gy.dj{kvs kvs':List (Int×V)}{n:Int}{ls:List Int}(L:gy kvs n ls)(s:dS kvs kvs'):gy kvs' n ls:=⟨L.pw,fun y=>by rw[L.mem,s.key,s.aE]⟩
theorem gy.uniq{kvs:List (Int×V)}{n:Int}{ls ls':List Int}(L:gy kvs n ls)(L':gy kvs n ls'):ls=ls':=
 iE (i9 L.nd L'.nd fun y=>by rw[L.mem,L'.mem]) (L.pw.imp Int.le_of_lt) (L'.pw.imp Int.le_of_lt)
theorem Cg{kvs:List (Int×V)}{aX:List Int}(S:fR kvs aX)(nd:(kvs.map (·.1)).Nodup):aX.Pairwise (· < ·):=
 (S.pw.and (S.nd nd)).imp fun h=>Int.lt_iff_le_and_ne.mpr h
theorem lR{kvs:List (Int×V)}{aX:List Int}(S:fR kvs aX)(nd:(kvs.map (·.1)).Nodup)(n:Int):gy kvs n (aX.filter fun k=>leansOn n (aP (aE kvs k))) where
 pw:=(Cg S nd).sublist List.filter_sublist
 mem:=fun y=>by rw[List.mem_filter,S.mem,fY]
structure iR(kv bP:List (Int×V))(n:Int)(b0:V)(ls:List Int)(tx:Int→List Nat):Prop where
 nd:(bP.map (·.1)).Nodup
 len:bP.length≤kv.length
 key:∀x,aJ bP x↔aJ kv x∧x≠n
 off:∀x,x≠n→x∉ls→aF bP x=aF kv x
 on:∀(i:Nat) k d,ls[i]?=some k→aF bP k=some d→qo b0 ls tx i k d
theorem iR.dj{bG dP kv bP:List (Int×V)}{n:Int}{b0:V}{ls:List Int}{tx:Int→List Nat}(F:iR bG dP n b0 ls tx)(F':iR kv bP n b0 ls tx)(s:dS bG kv):dS dP bP:=fun x=>by
 have kk:aJ dP x↔aJ bP x:=by rw[F.key,F'.key,s.key]
 by_cases hn:aJ bP x
 ·have hx:=((F'.key x).mp hn).2
  by_cases hl:x∈ls
  ·refine q4 (List.getElem?_of_mem hl) fun i hi=>?_
   refine q4 (kk.mpr hn) fun d hd=>?_
   refine q4 hn fun d' sq=>?_;clear hn
   rw[hd,sq,(F.on i x d hi hd).uniq (F'.on i x d' hi sq)]
  ·rw[F.off x hx hl,F'.off x hx hl];exact s x
 ·have h1:aF bP x=none:=by
   cases q:aF bP x with
   | none=>rfl
   | some d=>exact absurd ⟨d,q⟩ hn
  have h2:aF dP x=none:=by
   cases q:aF dP x with
   | none=>rfl
   | some d=>exact absurd (kk.mp ⟨d,q⟩) hn
  rw[h1,h2]
theorem bh.forget{kv bP:List (Int×V)}{tx:Int→List Nat}{rk:Int→Nat}(E:bh kv tx rk){n:Int}{ls:List Int}(hn:aJ kv n)(L:gy kv n ls)(F:iR kv bP n (aP (aE kv n)) ls tx):∃fk,bh bP tx fk:=by
 have up:∀k b,aJ kv k→aP (aE kv k)=.int b→aJ kv b∧rk b<rk k:=fun k b hk hb=>by
  have:=E.ent k _ (aB hk)
  generalize aE kv k=d at this hb
  cases this with
  | root=>cases hb
  | lean b' a gone aS h1 h2 h3=>cases hb;exact⟨h1,h2⟩
 have fb:∀(i:Nat) k b,ls[i]?=some k→er (aP (aE kv n)) ls i=.int b→(aJ bP b∧((rk b<rk n)∨(ls[0]?=some b∧er (aP (aE kv n)) ls 0=.none))):=fun i k b hi hb=>by
  have hnn:=up n
  have tT:=E.ent n _ (aB hn)
  generalize aE kv n=d0 at hb hnn tT
  cases tT with
  | root=>
   have hb:(if i=0 then V.none else .int (ls.getD 0 0))=.int b:=hb
   by_cases i0:i=0
   ·rw[if_pos i0] at hb;cases hb
   ·rw[if_neg i0] at hb
    have h0:0<ls.length:=by have:=(List.getElem?_eq_some_iff.mp hi).1;exact vX this
    have e0:ls[0]?=some (ls.getD 0 0):=by rw[List.getD_eq_getElem?_getD,List.getElem?_eq_getElem h0];rfl
    cases hb
    have hm:=(L.mem _).mp (List.mem_of_getElem? e0)
    refine⟨(F.key _).mpr ⟨hm.1,fun q=>?_⟩,.inr ⟨e0,rfl⟩⟩
    have:=(up _ n hm.1 hm.2).2
    rw[q] at this;exact rV this
  | lean b' a gone aS h1 h2 h3=>
   have hb:V.int b'=.int b:=hb
   cases hb
   exact⟨(F.key _).mpr ⟨h1,fun q=>by rw[q] at h2;exact rV h2⟩,.inl h2⟩
 refine bh.of_chains F.nd (Nat.le_trans F.len E.bf) (fun k d hd=>?_) (fun k hk=>?_) fun k hk=>E.short k ((F.key k).mp hk).1
 ·have hk:=(F.key k).mp ⟨d,hd⟩
  by_cases hl:k∈ls
  ·refine q4 (List.getElem?_of_mem hl) fun i hi=>?_
   rcases F.on i k d hi hd with ⟨_,rfl⟩ | ⟨b,a,e,hb,C,rfl⟩
   ·exact .root
   ·have st:=C.step (Nat.le_refl a)
    rw[List.drop_eq_nil_of_le (by rw[List.length_take];exact pE),List.nil_append,List.nil_append] at st
    exact .lean b a _ _ (fb i k b hi hb).1 st
  ·rw[F.off k hk.2 hl] at hd
   have en:=E.ent k d hd
   cases en with
   | root=>exact .root
   | lean b a gone aS h1 h2 h3=>
    refine .lean b a gone aS ((F.key b).mpr ⟨h1,fun q=>hl ((L.mem k).mpr ⟨hk.1,?_⟩)⟩) h3
    rw[jH hd,q];rfl
 ·have main:∀r k,rk k≤r→aJ bP k→∃xs,av (bases bP) k xs:=by
   intro r
   induction r with
   | zero=>
    intro k hr kR
    refine q4 kR fun d hd=>?_;clear kR
    have hk:=(F.key k).mp ⟨d,hd⟩
    by_cases hl:k∈ls
    ·have hm:=(L.mem k).mp hl
     have:=(up k n hm.1 hm.2).2
     exact(Gg hr this).elim
    ·have tU:=hd
     rw[F.off k hk.2 hl] at tU
     have en:=E.ent k d tU
     cases en with
     | root=>exact⟨_,.stop (by rw[aN,hd];rfl)⟩
     | lean b a gone aS h1 h2 h3=>exact(Gg hr h2).elim
   | succ r ih=>
    intro k hr kR
    refine q4 kR fun d hd=>?_;clear kR
    have hk:=(F.key k).mp ⟨d,hd⟩
    by_cases hl:k∈ls
    ·refine q4 (List.getElem?_of_mem hl) fun i hi=>?_
     have hm:=(L.mem k).mp hl
     have hrn:=(up k n hm.1 hm.2).2
     rcases F.on i k d hi hd with ⟨_,rfl⟩ | ⟨b,a,e,hb,C,rfl⟩
     ·exact⟨_,.stop (by rw[aN,hd];rfl)⟩
     ·obtain⟨kb,h | ⟨h0,hf0⟩⟩:=fb i k b hi hb
      ·obtain⟨xs,hx⟩:=ih b (SR hr hrn h) kb
       exact⟨_,.step (by rw[aN,hd];rfl) hx⟩
      ·refine q4 (id kb) fun d0 qz=>?_
       rcases F.on 0 b d0 h0 qz with ⟨_,rfl⟩ | ⟨b2,a2,e2,BY,_,_⟩
       ·exact⟨_,.step (by rw[aN,hd];rfl) (.stop (by rw[aN,qz];rfl))⟩
       ·rw[hf0] at BY;cases BY
    ·have tU:=hd
     rw[F.off k hk.2 hl] at tU
     have en:=E.ent k d tU
     cases en with
     | root=>exact⟨_,.stop (by rw[aN,hd];rfl)⟩
     | lean b a gone aS h1 h2 h3=>
      have kb:aJ bP b:=(F.key b).mpr ⟨h1,fun q=>hl ((L.mem k).mpr ⟨hk.1,by rw[jH tU,q];rfl⟩)⟩
      obtain⟨xs,hx⟩:=ih b (MJ hr h2) kb
      exact⟨_,.step (by rw[aN,hd];rfl) hx⟩
  exact main (rk k) k (Nat.le_refl _) hk
theorem hX{α:Type}(l:List Int)(p:Int→Bool)(g:Int→α):((List.range l.length).filter fun i=>p (l.getD i 0)).map (fun i=>g (l.getD i 0))=(l.filter p).map g:=by
 have e:l=(List.range l.length).map fun i=>l.getD i 0:=by
  apply List.ext_getElem?
  intro i
  by_cases h:i<l.length
  ·rw[List.getElem?_map,List.getElem?_range h,List.getElem?_eq_getElem h,Option.map_some,List.getD_eq_getElem?_getD,List.getElem?_eq_getElem h];rfl
  ·rw[List.getElem?_eq_none (vD h),List.getElem?_eq_none (by simp;exact vD h)]
 generalize hl:l.length=n at e
 rw[e,List.filter_map,List.map_map]
 have:∀i∈List.range n,((List.range n).map fun i=>l.getD i 0).getD i 0=l.getD i 0:=fun i hi=>by rw[← e]
 rw[List.filter_congr (fun i hi=>by rw[this i hi];rfl:∀i∈List.range n,p (((List.range n).map fun i=>l.getD i 0).getD i 0)=(p∘fun i=>l.getD i 0) i)]
 apply List.map_congr_left
 intro i hi
 rw[this i (List.mem_filter.mp hi).1];rfl
theorem ud{l:List Int}{p:Int→Bool}{j:Nat}{k:Int}(hj:l[j]?=some k)(hk:p k=true):(l.filter p)[((l.take j).filter p).length]?=some k:=by
 have cA:=(List.getElem?_eq_some_iff.mp hj).1
 have e:l=l.take j++k::l.drop (j+1):=by
  have:=List.take_append_drop j l
  rw[List.drop_eq_getElem_cons cA,(List.getElem?_eq_some_iff.mp hj).2] at this
  exact this.symm
 conv=>lhs;rw[e]
 rw[List.filter_append,List.filter_cons_of_pos hk]
 rw[show(List.take j (List.take j l++k::List.drop (j+1) l))=List.take j l by rw[← e]]
 rw[List.getElem?_append_right (Nat.le_refl _),Nat.sub_self];rfl
end Mine
namespace Mine
open PySem
theorem uc{one:Int}{kvs:List (Int×V)}{tx:Int→List Nat}{rk:Int→Nat}{k:Int}{d:V}(E:eL kvs tx rk k d){b:Int}(h:aP d=.int b):aP (wL one d)=.int one:=by
 cases E with
 | root=>cases h
 | lean b' a gone aS _ _ _=>rfl
theorem c7.up{kv bP:List (Int×V)}{tx:Int→List Nat}{rk:Int→Nat}(E:bh kv tx rk){n:Int}{xs:List Int}{t0:List Nat}(hx:av (bases kv) n xs)(T:c7 kv bP xs t0):∀(j:Nat) x,xs[j]?=some x→av (bases bP) x ((xs.take (j+1)).reverse):=by
 intro j
 induction j with
 | zero=>
  intro x h
  have e:(xs.take (0+1)).reverse=[x]:=by rw[List.take_add_one,h];simp
  rw[e]
  refine .stop ?_
  rw[aN,T.done 0 x trivial h];rfl
 | succ j ih=>
  intro x h
  have cA:j<xs.length:=by have:=(List.getElem?_eq_some_iff.mp h).1;exact pF this
  have hj:=List.getElem?_eq_getElem cA
  have e:(xs.take (j+1+1)).reverse=x::(xs.take (j+1)).reverse:=by rw[List.take_add_one,h];simp
  rw[e]
  refine .step (b:=xs[j]) ?_ (ih _ hj)
  rw[aN,T.done (j+1) x trivial h]
  have nx:=hx.next j _ hj
  rw[h] at nx
  have hk:aJ kv xs[j]:=aW.mp (hx.keys _ (List.mem_of_getElem? hj))
  rw[aN,aB hk] at nx
  have gt:xs.getD j 0=xs[j]:=by rw[List.getD_eq_getElem?_getD,hj];rfl
  show some (aP (wL (xs.getD j 0) (aE kv (xs.getD j 0))))=_
  rw[gt]
  simp only[Option.map_some,Option.some.injEq,vw] at nx
  rw[uc (E.ent _ _ (aB hk)) nx]
theorem c7.chain{kv bP:List (Int×V)}{tx:Int→List Nat}{rk:Int→Nat}(E:bh kv tx rk){n:Int}{xs:List Int}{t0:List Nat}(hx:av (bases kv) n xs)(T:c7 kv bP xs t0){v:Int}{ys:List Int}(hy:av (bases kv) v ys):
  ∃zs,av (bases bP) v zs∧(((∀y∈ys,y∉xs)∧zs=ys)∨∃(i j:Nat) (x:Int),ys[i]?=some x∧xs[j]?=some x∧(∀i' y,i'<i→ys[i']?=some y→y∉xs)∧zs=ys.take i++(xs.take (j+1)).reverse):=by
 have off:∀y,y∉xs→aF (bases bP) y=aF (bases kv) y:=fun y h=>by
  rw[aN,aN,T.off y fun j _ q=>h (List.mem_of_getElem? q)]
 induction hy with
 | @stop v h=>
  by_cases hv:v∈xs
  ·refine q4 (List.getElem?_of_mem hv) fun j hj=>?_
   exact⟨_,T.up E hx j v hj,.inr ⟨0,j,v,rfl,hj,fun i' y h=>by exact(vW h).elim,rfl⟩⟩
  ·exact⟨[v],.stop (by rw[off v hv];exact h),.inl ⟨fun y hy=>by rw[List.mem_singleton] at hy;subst hy;exact hv,rfl⟩⟩
 | @step v b r h hr ih=>
  by_cases hv:v∈xs
  ·refine q4 (List.getElem?_of_mem hv) fun j hj=>?_
   exact⟨_,T.up E hx j v hj,.inr ⟨0,j,v,rfl,hj,fun i' y h=>by exact(vW h).elim,rfl⟩⟩
  ·refine q2 ih fun zs hz q=>?_;clear ih
   refine⟨v::zs,.step (by rw[off v hv];exact h) hz,?_⟩
   rcases q with ⟨q1,rfl⟩ | ⟨i,j,x,h1,h2,h3,rfl⟩
   ·refine .inl ⟨fun y hy=>?_,rfl⟩
    cases hy with
    | head=>exact hv
    | tail _ hy=>exact q1 y hy
   ·refine .inr ⟨i+1,j,x,h1,h2,fun i' y hi hy=>?_,rfl⟩
    cases i' with
    | zero=>simp at hy;subst hy;exact hv
    | succ i'=>exact h3 i' y (SU hi) hy
theorem c7.length{kv bP:List (Int×V)}{tx:Int→List Nat}{rk:Int→Nat}(E:bh kv tx rk){n:Int}{xs:List Int}{t0:List Nat}(hx:av (bases kv) n xs)(T:c7 kv bP xs t0){pt:Int→List Int}(PT:bO (bases kv) pt)(jN:∀v ys,av (bases kv) v ys→pt v=ys.reverse){v:Int}{ys zs:List Int}(hy:av (bases kv) v ys)(hz:av (bases bP) v zs):
  (bJ pt n v∧zs.length=ds pt n v+1)∨(¬bJ pt n v∧zs=ys):=by
 have kn:aJ (bases kv) n:=q4 (hx.head) fun r e=>hx.keys n (by rw[e];exact .head _)
 have kv_:aJ (bases kv) v:=q4 (hy.head) fun r e=>hy.keys v (by rw[e];exact .head _)
 refine q2 (T.chain E hx hy) fun WW Wj q=>?_
 have:=hz.uniq Wj
 subst this
 by_cases hs:bJ pt n v
 ·refine .inl ⟨hs,?_⟩
  refine vl (PT.between kv_ kn hs.symm (jN v ys hy) (jN n xs hx)) fun k j x k1 k2 k3 k4 k5 k6=>?_
  rcases q with ⟨q1,_⟩ | ⟨i,j',x',h1,h2,h3,rfl⟩
  ·exact absurd (List.mem_of_getElem? k3) (q1 x (List.mem_of_getElem? k2))
  ·have ei:i=k:=by
    rcases Nat.lt_trichotomy i k with h | h | h
    ·exact absurd (List.mem_of_getElem? h2) (k5 i x' h h1)
    ·exact h
    ·exact absurd (List.mem_of_getElem? k3) (h3 k x h k2)
   subst ei
   rw[h1] at k2;cases k2
   have ej:j'=j:=by
    refine q4 (List.getElem?_eq_some_iff.mp h2) fun a1 b1=>?_
    refine q4 (List.getElem?_eq_some_iff.mp k3) fun a2 b2=>?_
    exact(List.getElem_inj (h₀:=a1) (h₁:=a2) hx.nodup).mp (b1.trans b2.symm)
   subst ej
   have:=(List.getElem?_eq_some_iff.mp h2).1
   rw[List.length_append,List.length_take,List.length_reverse,List.length_take,gj]
   exact SS k1 k4 this
 ·refine .inr ⟨hs,?_⟩
  rcases q with ⟨_,rfl⟩ | ⟨i,j',x',h1,h2,h3,rfl⟩
  ·rfl
  ·exfalso
   apply hs
   have e1:=jN v ys hy
   have e2:=jN n xs hx
   have rv:∀ {l:List Int} {i:Nat} {x:Int},l[i]?=some x→l.reverse[l.length-1-i]?=some x:=fun {l i x} h=>by
    have hl:=(List.getElem?_eq_some_iff.mp h).1
    rw[List.getElem?_reverse (ni hl)]
    rw[show l.length-1-(l.length-1-i)=i by exact pH hl];exact h
   have g1:=rv h2;rw[← e2] at g1
   have g2:=rv h1;rw[← e1] at g2
   have:=(PT.meet kn kv_ g1 g2).2
   show 1≤cp (pt n) (pt v)
   exact Bv this
structure qB(kb:List (Int×V))(pt:Int→List Int)(u x:Int)(Ec:Int→Nat):Prop where
 key:aJ kb x
 same:bJ pt u x
 yT:∀v,aJ kb v→bJ pt u v→(∃w,aJ kb w∧bJ pt u w∧Ec v=ds pt v w)∧∀w,aJ kb w→bJ pt u w→ds pt v w≤Ec v
 best:∀v,aJ kb v→bJ pt u v→Ec x≤Ec v∧(Ec v=Ec x→v≤x)
theorem qB.dj{kb kb':List (Int×V)}{pt:Int→List Int}{u x:Int}{Ec:Int→Nat}(M:qB kb pt u x Ec)(s:dS kb kb'):qB kb' pt u x Ec where
 key:=s.key.mp M.key
 same:=M.same
 yT:=fun v kv sv=>let ⟨⟨w,a,b,e⟩,q⟩:=M.yT v (s.key.mpr kv) sv;⟨⟨w,s.key.mp a,b,e⟩,fun w kw sw=>q w (s.key.mpr kw) sw⟩
 best:=fun v kv sv=>M.best v (s.key.mpr kv) sv
theorem qB.uniq{kb:List (Int×V)}{pt:Int→List Int}{u x x':Int}{Ec uK:Int→Nat}(M:qB kb pt u x Ec)(M':qB kb pt u x' uK):x=x'∧Ec x=uK x:=by
 have e:∀v,aJ kb v→bJ pt u v→Ec v=uK v:=fun v kv sv=>by
  refine q3 (M.yT v kv sv) fun Jp q=>?_;obtain⟨w,a,b,e⟩:=Jp
  refine q3 (M'.yT v kv sv) fun Jo q'=>?_;obtain⟨w',a',b',e'⟩:=Jo
  have:=q w' a' b'
  have:=q' w a b
  exact SQ e e' (by assumption) this
 have e1:=e x M.key M.same
 have e2:=e x' M'.key M'.same
 refine q3 (M.best x' M'.key M'.same) fun b1 b2=>?_
 refine q3 (M'.best x M.key M.same) fun b3 b4=>?_
 have:Ec x'=Ec x:=by exact SO e1 e2 b1 b3
 have:=b2 this
 have:=b4 (SN e1 e2 b1 b3)
 exact⟨by exact SM (by assumption) this,e1⟩
noncomputable def cu(o:Int)(old new:List Nat)(a e:Nat):V:=.tup [.int o,.tup [.int a,.s ((old.take (old.length-e)).drop a),.s ((new.take (new.length-e)).drop a)]]
inductive eE(kvs kvs':List (Int×V))(tx:Int→List Nat)(b n:Int)(l:List Nat):V→Prop
 | none:kvs'=kvs++[(n,.tup [.none,.s l])]→eE kvs kvs' tx b n l .none
 | lean (o:Int) (a e:Nat) (xs:List Int):qu (tx o) l a e→av (bases kvs) o xs→(xs.length:Int)≤b→kvs'=kvs++[(n,cu o (tx o) l a e)]→eE kvs kvs' tx b n l (.int o)
 | dQ (o:Int) (xs:List Int) (pt:Int→List Int) (mid:Int) (Ec:Int→Nat):av (bases kvs) o xs→b<(xs.length:Int)→bO (bases kvs++[(n,.int o)]) pt→(∀v ys,av (bases kvs++[(n,.int o)]) v ys→pt v=ys.reverse)→qB (bases kvs++[(n,.int o)]) pt n mid Ec→b<(Ec mid:Int)→kvs'=kvs++[(n,.tup [.none,.s l])]→eE kvs kvs' tx b n l (.int o)
 | turned (o:Int) (a e:Nat) (xs:List Int) (pt:Int→List Int) (mid:Int) (Ec:Int→Nat) (zs:List Int):qu (tx o) l a e→av (bases kvs) o xs→b<(xs.length:Int)→bO (bases kvs++[(n,.int o)]) pt→(∀v ys,av (bases kvs++[(n,.int o)]) v ys→pt v=ys.reverse)→qB (bases kvs++[(n,.int o)]) pt n mid Ec→(Ec mid:Int)≤b→
   av (bases (kvs++[(n,cu o (tx o) l a e)])) mid zs→c7 (kvs++[(n,cu o (tx o) l a e)]) kvs' zs (if mid=n then l else tx mid)→eE kvs kvs' tx b n l (.int o)
noncomputable def uu(kvs:List (Int×V))(b:Int):Prop:=∀k xs,av (bases kvs) k xs→(xs.length:Int)≤b+1
theorem iW{o:Int}{old new:List Nat}{a e:Nat}(C:qu old new a e):∃g d,cu o old new a e=.tup [.int o,gE a g d]∧fT old new a g d:=by
 have st:=C.step (Nat.le_refl a)
 rw[List.drop_eq_nil_of_le (by rw[List.length_take];exact pE),List.nil_append,List.nil_append] at st
 exact⟨_,_,rfl,st⟩
theorem eC{kvs:List (Int×V)}{n:Int}{d:V}(y:Int):aJ (kvs++[(n,d)]) y↔aJ kvs y∨y=n:=by
 rw[ay,ay,List.map_append,List.mem_append];simp
theorem bh.put_root{kvs:List (Int×V)}{tx:Int→List Nat}{rk:Int→Nat}(E:bh kvs tx rk){n:Int}{l:List Nat}(hn:¬aJ kvs n)(bf:kvs.length<40)(hl:l.length≤20000):bh (kvs++[(n,.tup [.none,.s l])]) (fun y=>if y=n then l else tx y) rk:=
 E.put (fun q=>hn (ay.mpr q)) bf hl (.inl rfl)
theorem uu.put{kvs:List (Int×V)}{b n:Int}{d:V}(F:uu kvs b)(hn:¬aJ kvs n)(ch:∀k,aJ kvs k→∃xs,av (bases kvs) k xs)(h0:0≤b)(hd:aP d=.none∨∃o xs,aP d=.int o∧av (bases kvs) o xs∧(xs.length:Int)≤b):uu (kvs++[(n,d)]) b:=fun k xs h=>by
 have kb:∀x,aJ (bases kvs) x→aF (bases (kvs++[(n,d)])) x=aF (bases kvs) x:=fun x hx=>by
  rw[cO];exact fK (fun q=>hn (aW.mp q)) x hx
 have dn:aF (bases (kvs++[(n,d)])) n=some (aP d):=by rw[cO,bC (by rw[cJ];exact fun q=>hn (ay.mpr q)),if_pos rfl]
 have hk:aJ (kvs++[(n,d)]) k:=aW.mp (q4 (h.head) fun r e=>h.keys k (by rw[e];exact .head _))
 rcases (eC k).mp hk with hk | rfl
 ·refine q4 (ch k hk) fun ys hy=>?_
  rw[h.uniq (hy.keep kb)]
  exact F k ys hy
 ·rcases hd with e | ⟨o,ys,e,hy,hl⟩
  ·rw[e] at dn
   rw[h.uniq (.stop dn)];simp;exact SJ h0
  ·rw[e] at dn
   rw[h.uniq (.step dn (hy.keep kb))];simp;exact SH hl
theorem c7.fits{kv bP:List (Int×V)}{tx:Int→List Nat}{rk:Int→Nat}(E:bh kv tx rk){n b:Int}{xs:List Int}{t0:List Nat}(hx:av (bases kv) n xs)(T:c7 kv bP xs t0){pt:Int→List Int}(PT:bO (bases kv) pt)(jN:∀v ys,av (bases kv) v ys→pt v=ys.reverse)
  (h1:∀v,aJ (bases kv) v→bJ pt n v→(ds pt n v:Int)≤b) (h2:∀v ys,av (bases kv) v ys→¬bJ pt n v→(ys.length:Int)≤b+1):uu bP b:=fun v zs hz=>by
 have HF:aJ kv v:=by
  have:aJ bP v:=aW.mp (q4 (hz.head) fun r e=>hz.keys v (by rw[e];exact .head _))
  rw[ay,T.keys,← ay] at this;exact this
 refine q2 (E.chain HF) fun ys hy _=>?_
 rcases T.length E hx PT jN hy hz with ⟨s,e⟩ | ⟨s,rfl⟩
 ·have:=h1 v (aW.mpr HF) s
  exact SI e this
 ·exact h2 v _ hy s
theorem eE.facts{kvs kvs':List (Int×V)}{tx:Int→List Nat}{rk:Int→Nat}{b n:Int}{l:List Nat}{j4:V}(S:eE kvs kvs' tx b n l j4)(E:bh kvs tx rk)(hn:¬aJ kvs n)(bf:kvs.length<40)(hl:l.length≤20000)(h0:0≤b):
  (∃fk,bh kvs' (fun y=>if y=n then l else tx y) fk)∧(∀y,aJ kvs' y↔aJ kvs y∨y=n)∧kvs'.length=kvs.length+1∧(uu kvs b→uu kvs' b):=by
 have ch:∀k,aJ kvs k→∃xs,av (bases kvs) k xs:=fun k hk=>let ⟨xs,h,_⟩:=E.chain hk;⟨xs,h⟩
 cases S with
 | none e=>subst e;exact⟨⟨rk,E.put_root hn bf hl⟩,eC,by simp,fun F=>F.put hn ch h0 (.inl rfl)⟩
 | lean o a e xs C hx hb q=>
  subst q
  refine i4 (iW (o:=o) C) fun g d hd st=>?_
  have ko:aJ kvs o:=aW.mp (q4 (hx.head) fun r e=>hx.keys o (by rw[e];exact .head _))
  refine⟨?_,eC,by simp,fun F=>F.put hn ch h0 (.inr ⟨o,xs,rfl,hx,hb⟩)⟩
  rw[hd];exact E.put_lean hn ko bf hl st
 | dQ o xs pt mid Ec hx hb PT jN M hm q=>subst q;exact⟨⟨rk,E.put_root hn bf hl⟩,eC,by simp,fun F=>F.put hn ch h0 (.inl rfl)⟩
 | turned o a e xs pt mid Ec zs C hx hb PT jN M hm hz T=>
  refine i4 (iW (o:=o) C) fun g d hd st=>?_
  have ko:aJ kvs o:=aW.mp (q4 (hx.head) fun r e=>hx.keys o (by rw[e];exact .head _))
  obtain⟨xW,E1⟩:∃fk,bh (kvs++[(n,cu o (tx o) l a e)]) (fun y=>if y=n then l else tx y) fk:=by rw[hd];exact E.put_lean hn ko bf hl st
  have keys:=T.keys
  have bp:bases (kvs++[(n,cu o (tx o) l a e)])=bases kvs++[(n,.int o)]:=by rw[cO];rfl
  refine⟨E1.turn hz T,fun y=>?_,?_,fun F=>?_⟩
  ·rw[ay,keys,← ay];exact eC y
  ·have:=congrArg List.length keys;simpa using this
  ·rw[← bp] at PT jN M
   have same:=M.same
   refine T.fits E1 hz PT jN (fun v kv sv=>?_) fun v ys hy ns=>?_
   ·have:=(M.yT mid M.key M.same).2 v kv (M.same.trans sv)
    exact SG hm this
   ·have HF:=aW.mp (q4 (hy.head) fun r e=>hy.keys v (by rw[e];exact .head _))
    rcases (eC v).mp HF with hk | rfl
    ·refine q4 (ch v hk) fun ws hw=>?_
     have tO:=hw.keep (kvs':=bases (kvs++[(n,cu o (tx o) l a e)])) fun x hx=>by rw[cO];exact fK (fun q=>hn (aW.mp q)) x hx
     rw[hy.uniq tO];exact F v ws hw
    ·exact(ns M.same.symm).elim
end Mine
namespace Mine
open PySem PyProof.Rows PySem.Builtin PySem.W PySem.Calls
section
variable {c:Cx} {f:Fx} {m:bL} {H:AH} {X:Value→AH→Prop} {Q:V→AH→Prop}
theorem He{a b:Addr}{ds es:List V}(K:cV c)(ha:ai H a ds)(hb:ai H b es)(hsz:ds.length+es.length≤sizeLine)(q:∀d o,H d=none→Q (.ref d) (H.set d ⟨o,.list (ds++es)⟩)):Hb c f (binaryOp .Add) (.ref a) (.ref b) m H Q X:=.mk fun s v₁ v₂ S i j=>by
 obtain rfl:=aG i;obtain rfl:=aG j
 refine q4 ha fun o1 e1=>?_;clear ha
 refine q4 hb fun o2 e2=>?_;clear hb
 refine tv (S.rep.list e1) fun vs n ho hc hn hd ia=>?_
 refine tv (S.rep.list e2) fun ws n2 ho2 hc2 uF tU ib=>?_
 obtain⟨cls,dd,data,sl⟩:=o1
 obtain⟨agt,B6,data2,Ig⟩:=o2
 simp only at hc hd hc2 tU
 subst hc hd hc2 tU
 have e:vs.toArray++ws.toArray=(vs++ws).toArray:=by simp
 have l1:=ia.length
 have l2:=ib.length
 refine concat_meets ⟨_,ho,rfl⟩ ⟨_,ho2,rfl⟩ noFill_list_add seq_list_add PySem.F.slot_list_add PySem.F.entry_list_add (PySem.F.args_list_add_2 _ _) (list_addW a b vs.toArray ws.toArray n n2 dd B6 sl Ig (by rw[List.size_toArray,List.size_toArray,l1,l2];exact hsz)) ⟨ho,ho2,?_⟩
 rw[e]
 have g:aM s.heap (s.heap.push { cls:=.type "list",data:=.seq (vs++ws).toArray }):=aM.push _ _
 have hx:(s.heap.push { cls:=.type "list",data:=.seq (vs++ws).toArray }).get? s.heap.objs.size=some { cls:=.type "list",data:=.seq (vs++ws).toArray }:=Heap.get?_push_size _ rfl
 exact⟨g.tk,.ref _,_,br,S.alloc (s':={ s with heap:=s.heap.push { cls:=.type "list",data:=.seq (vs++ws).toArray } }) (x:=⟨_,.list (ds++es)⟩) g rfl rfl (c9 _) (S.d5 K) ⟨hx,vs++ws,⟨_,_,hx,rfl,rfl,rfl⟩,(ia.append ib).tk g.tk⟩,q _ _ S.lF⟩
theorem qT(n:Nat):((List.range n).map fun i:Nat=>V.int i).length=n:=by rw[List.length_map,List.length_range]
theorem xt{x:Str}{p₁ p:Pos}{e:Expr}{es:List Expr}{fa:Addr}{o:Obj}{fd:FuncData}{k:Nat}(K:cV c)(g:GN c x (.ref fa))(ho:c.base.get? fa=some o)(jW:o.data=.func fd)(R:bw k f.A)(hf:f.A.frames=some f.bK)(h1:oJ c f (e::es) p m H (fun ds H₁=>Fn c k (.ref fa) ds H₁ Q X) X)(hg:autoParam (f.env.globals=mainGlobals) aR._auto_1)(hb:autoParam (f.env.builtins=builtinsNs) aR._auto_1)
  (hk:autoParam (f.env.scope.kind=.function) aR._auto_1) (hn:autoParam (f.env.kindOf x=some .globalImplicit) aR._auto_1) (hd:autoParam ((x == ("__debug__":Str))=false) aD._auto_1) (he:autoParam (starEach (e::es) f.env=(false,eval e f.env)::starEach es f.env) aR._auto_1):Ev c f (.Call (.Name x p₁) (e::es) [] p) m H Q X:=
 gA ho jW R hf ((bF K g hg hb hk hn hd).ev ⟨rfl,h1⟩) he
theorem Ex.gen{xC:List Stmt}{Q:Ko}(h:∀Q':Ko,(∀o m' H',Q o m' H'→Q' o m' H')→Ex c f xC m H Q'):Ex c f xC m H Q:=h Q fun _ _ _ q=>q
end
end Mine
namespace Mine
open PySem
theorem av.pos{kvs:List (Int×V)}{k:Int}{xs:List Int}(h:av kvs k xs):1≤xs.length:=by
 refine q4 (h.head) fun r e=>?_
 rw[e];exact Nat.le_add_left _ _
end Mine
namespace Mine
open PySem
noncomputable def dn(n m:Nat):List Int:=(List.range (m+1)).map fun j:Nat=>(n:Int)-(j:Int)
end Mine
namespace Mine
open PySem
noncomputable def Fit(t g:List Nat)(a:Int):Prop:=0≤a∧a≤t.length∧(t.take (a+g.length).toNat).drop a.toNat=g
inductive rl(rs:List (Int×V)):Int→List Nat→Prop
 | root {k:Int} {l:List Nat}:aF rs k=some (.tup [.none,.s l])→rl rs k l
 | lean {k b a:Int} {g e t:List Nat}:aF rs k=some (.tup [.int b,gE a g e])→rl rs b t→Fit t g a→rl rs k (t.take a.toNat++e++t.drop (a+g.length).toNat)
end Mine
namespace Mine
open PySem PyProof.Rows PySem.Builtin PySem.W PySem.Calls PySem.F
noncomputable def bQ(p q:Int×Int):Bool:=if p.1=q.1 then decide (p.2<q.2) else decide (p.1<q.1)
theorem wm{prog:Program}{w:World}{A:Around}{E:Value→Shared→Prop}{s:Shared}{a b:Int}{t u:Tok}{Q:Value→Shared→Prop}(h:Q (.bool (decide (a<b))) s):wpAny (model prog w) A (richCompare .Lt (.int a t) (.int b u)) Q E s:=
 richCompare_gives (op:=.Lt) (typeIs_int s _ t) (typeIs_int s _ u) F.slot_int_lt F.entry_int_lt (F.args_int_lt_2 _ _) (gives_int_lt _ _ t u) (fun x=>nomatch x) h
theorem tA(l b:Addr)(x1 x2 y1 y2:Int)(t1 t2 u1 u2:Tok)(n n2:Nat)(dd B6:Option Addr)(sl Ig:Array (Option Value)):
  Meets (Builtin.«tuple.__lt__» ⟨[.ref l,.ref b],[]⟩)
   (fun A R s=>s.heap.get? l=some { cls:=.type "tuple",dict:=dd,data:=.seq #[.int x1 t1,.int x2 t2] n,slots:=sl }∧s.heap.get? b=some { cls:=.type "tuple",dict:=B6,data:=.seq #[.int y1 u1,.int y2 u2] n2,slots:=Ig }∧
    R (.ok (.ret (.bool (bQ (x1,x2) (y1,y2))))) s):=
 .of_wp fun prog w A R s h=>by
  obtain⟨hp,g,d,tk,os⟩:=s;refine iz h fun hl hb zw=>?_;clear h;have h:=zw;clear zw
  have f2:=AutoSeq1.sub_tuple_tuple
  wp_walk using wpAny_loadPart' hl,wpAny_loadPart' hb,wpAny_forIn_list _ (fun rest b s'=>b.1=none∧s'=⟨hp,g,d,tk,os⟩∧
   ((rest=[(.int x1 t1,.int y1 u1),(.int x2 t2,.int y2 u2)])∨(rest=[(.int x2 t2,.int y2 u2)]∧x1=y1)∨(rest=[]∧x1=y1∧x2=y2))) _
  case turn=>
   rintro⟨y,x⟩ rest b s' rz4;refine VV (d0:=s') rz4 fun iL hz=>?_;clear rz4
   rcases hz with hz | ⟨hz,e1⟩ | ⟨hz,_⟩
   ·cases hz
    refine wpAny_bind (SeqAt.EqAt.int_int x1 t1 y1 u1 prog w _ _ ?_)
    cases q:x1 == y1 with
    | true=>
     have q:=beq_iff_eq.mp q
     wp_walk
     exact⟨rfl,rfl,.inr (.inl ⟨rfl,q⟩)⟩
    | false=>
     have q:x1≠y1:=fun z=>by rw[z] at q;simp at q
     show wpAny _ _ (do rule "tuple.compare.by-the-first-pair-that-differs";let r ← richCompare CmpOp.Lt (Value.int x1 t1) (Value.int y1 u1);let r ← ret r;pure (ForInStep.done (some r,()))) _ _ _
     refine wpAny_bind (wpAny_rule (wpAny_bind (wm ?_)))
     wp_walk
     refine⟨_,rfl,?_⟩
     have e:bQ (x1,x2) (y1,y2)=decide (x1<y1):=if_neg q
     rw[← e];exact h
   ·cases hz
    refine wpAny_bind (SeqAt.EqAt.int_int x2 t2 y2 u2 prog w _ _ ?_)
    cases q:x2 == y2 with
    | true=>
     have q:=beq_iff_eq.mp q
     wp_walk
     exact⟨rfl,rfl,.inr (.inr ⟨rfl,e1,q⟩)⟩
    | false=>
     show wpAny _ _ (do rule "tuple.compare.by-the-first-pair-that-differs";let r ← richCompare CmpOp.Lt (Value.int x2 t2) (Value.int y2 u2);let r ← ret r;pure (ForInStep.done (some r,()))) _ _ _
     refine wpAny_bind (wpAny_rule (wpAny_bind (wm ?_)))
     wp_walk
     refine⟨_,rfl,?_⟩
     have e:bQ (x1,x2) (y1,y2)=decide (x2<y2):=if_pos e1
     rw[← e];exact h
   ·cases hz
  case fin=>
   rintro⟨b1,b2⟩ s' rz5;refine VV (d0:=s') rz5 fun iL hz=>?_;clear rz5
   simp only at iL
   subst iL
   rcases hz with hz | ⟨hz,_⟩ | ⟨_,e1,e2⟩
   ·cases hz
   ·cases hz
   ·wp_walk
    refine⟨_,rfl,?_⟩
    have e:bQ (x1,x2) (y1,y2)=false:=by
     show(if x1=y1 then decide (x2<y2) else decide (x1<y1))=false
     rw[if_pos e1,e2];simp
    rw[e] at h;exact h
  case h=>
   exact⟨rfl,rfl,.inl rfl⟩
theorem wo{prog:Program}{w:World}{A:Around}{E:Value→Shared→Prop}{s:Shared}{a b:Int}{t u:Tok}{Q:Value→Shared→Prop}(h:Q (.bool (decide (a > b))) s):wpAny (model prog w) A (richCompare .Gt (.int a t) (.int b u)) Q E s:=
 richCompare_gives (op:=.Gt) (typeIs_int s _ t) (typeIs_int s _ u) F.slot_int_gt F.entry_int_gt (F.args_int_gt_2 _ _) (gives_int_gt _ _ t u) (fun x=>nomatch x) h
theorem tB(l b:Addr)(x1 x2 y1 y2:Int)(t1 t2 u1 u2:Tok)(n n2:Nat)(dd B6:Option Addr)(sl Ig:Array (Option Value)):
  Meets (Builtin.«tuple.__gt__» ⟨[.ref l,.ref b],[]⟩)
   (fun A R s=>s.heap.get? l=some { cls:=.type "tuple",dict:=dd,data:=.seq #[.int x1 t1,.int x2 t2] n,slots:=sl }∧s.heap.get? b=some { cls:=.type "tuple",dict:=B6,data:=.seq #[.int y1 u1,.int y2 u2] n2,slots:=Ig }∧
    R (.ok (.ret (.bool (bQ (y1,y2) (x1,x2))))) s):=
 .of_wp fun prog w A R s h=>by
  obtain⟨hp,g,d,tk,os⟩:=s;refine iz h fun hl hb zv=>?_;clear h;have h:=zv;clear zv
  have f2:=AutoSeq1.sub_tuple_tuple
  wp_walk using wpAny_loadPart' hl,wpAny_loadPart' hb,wpAny_forIn_list _ (fun rest b s'=>b.1=none∧s'=⟨hp,g,d,tk,os⟩∧
   ((rest=[(.int x1 t1,.int y1 u1),(.int x2 t2,.int y2 u2)])∨(rest=[(.int x2 t2,.int y2 u2)]∧x1=y1)∨(rest=[]∧x1=y1∧x2=y2))) _
  case turn=>
   rintro⟨y,x⟩ rest b s' rz6;refine VV (d0:=s') rz6 fun iL hz=>?_;clear rz6
   rcases hz with hz | ⟨hz,e1⟩ | ⟨hz,_⟩
   ·cases hz
    refine wpAny_bind (SeqAt.EqAt.int_int x1 t1 y1 u1 prog w _ _ ?_)
    cases q:x1 == y1 with
    | true=>
     have q:=beq_iff_eq.mp q
     wp_walk
     exact⟨rfl,rfl,.inr (.inl ⟨rfl,q⟩)⟩
    | false=>
     have q:x1≠y1:=fun z=>by rw[z] at q;simp at q
     show wpAny _ _ (do rule "tuple.compare.by-the-first-pair-that-differs";let r ← richCompare CmpOp.Gt (Value.int x1 t1) (Value.int y1 u1);let r ← ret r;pure (ForInStep.done (some r,()))) _ _ _
     refine wpAny_bind (wpAny_rule (wpAny_bind (wo ?_)))
     wp_walk
     refine⟨_,rfl,?_⟩
     have e:bQ (y1,y2) (x1,x2)=decide (x1 > y1):=if_neg (Ne.symm q)
     rw[← e];exact h
   ·cases hz
    refine wpAny_bind (SeqAt.EqAt.int_int x2 t2 y2 u2 prog w _ _ ?_)
    cases q:x2 == y2 with
    | true=>
     have q:=beq_iff_eq.mp q
     wp_walk
     exact⟨rfl,rfl,.inr (.inr ⟨rfl,e1,q⟩)⟩
    | false=>
     show wpAny _ _ (do rule "tuple.compare.by-the-first-pair-that-differs";let r ← richCompare CmpOp.Gt (Value.int x2 t2) (Value.int y2 u2);let r ← ret r;pure (ForInStep.done (some r,()))) _ _ _
     refine wpAny_bind (wpAny_rule (wpAny_bind (wo ?_)))
     wp_walk
     refine⟨_,rfl,?_⟩
     have e:bQ (y1,y2) (x1,x2)=decide (x2 > y2):=if_pos e1.symm
     rw[← e];exact h
   ·cases hz
  case fin=>
   rintro⟨b1,b2⟩ s' rz7;refine VV (d0:=s') rz7 fun iL hz=>?_;clear rz7
   simp only at iL
   subst iL
   rcases hz with hz | ⟨hz,_⟩ | ⟨_,e1,e2⟩
   ·cases hz
   ·cases hz
   ·wp_walk
    refine⟨_,rfl,?_⟩
    have e:bQ (y1,y2) (x1,x2)=false:=by
     show(if y1=x1 then decide (y2<x2) else decide (y1<x1))=false
     rw[if_pos e1.symm,e2];simp
    rw[e] at h;exact h
  case h=>
   exact⟨rfl,rfl,.inl rfl⟩
end Mine
namespace Mine
open PySem PyProof.Rows PySem.Builtin PySem.W PySem.Calls PySem.F
noncomputable def zo(prog:Program)(w:World)(A:Around)(h0:Heap)(op:CmpOp)(P:Nat→Value→Prop)(bt:Nat→Nat→Bool):Prop:=
 ∀i j vi vj (s:Shared) (Q:Value→Shared→Prop) (E:Value→Shared→Prop),aM h0 s.heap→P i vi→P j vj→Q (.bool (bt i j)) s→wpAny (model prog w) A (richCompare op vi vj) Q E s
section
variable {prog:Program} {w:World} {A:Around} {R:Result→Shared→Prop} {I:Addr} {fp wr:List Addr} {n:Nat} {P:Nat→Value→Prop} {St:Nat→Heap→Prop}
theorem tC(Wk:Walks prog w A.in1 I fp wr n P St)(h0:Heap)(bt:Nat→Nat→Bool)(qX:zo prog w A.in1 h0 .Lt P bt)(S:Addr)(tX:S∉fp)(yJ:h0.get? S=none)(yx:∀b∈wr,h0.get? b=none):
  ∀(k j:Nat) (s:Shared) (vb:Value) (c:Nat),n-(j+1)=k→j+1≤n→aM h0 s.heap→St (j+1) s.heap→P (argBest bt j) vb→
  s.heap.get? S=some { cls:=.type "list",dict:=none,data:=.seq #[vb,vb] c,slots:=#[] }→
  (∀v h' tk,P (argBest bt (n-1)) v→aM h0 h'→R (.ok (.ret v)) { s with heap:=h',toks:=tk })→
  codeAny (model prog w) A (.builtin "min.loop" ⟨[.ref I,.none,.ref S],[]⟩) R s:=by
 have yI:S∉wr:=fun h=>tX (Wk.sub _ h)
 have iK:(toString "min"++toString ".loop":String)="min.loop":=by decide
 have up:∀ {h h':Heap},aM h0 h→(∀b o,b∉wr→h.get? b=some o→h'.get? b=some o)→aM h0 h':=fun g k b o e=>k b o (fun q=>by rw[yx b q] at e;cases e) (g b o e)
 have H0:∀ {h:Heap} {F:Obj→Obj},aM h0 h→aM h0 (h.update S F):=fun g b o e=>(Heap.get?_update_other _ _ (fun q:S=b=>by rw[← q,yJ] at e;cases e)).trans (g b o e)
 intro k
 induction k with
 | zero=>
  intro j s vb c hk hj gr ik yK hS hR
  have BU:j+1=n:=by exact Bu hk hj
  refine codeAny_builtin F.entry_min_loop ?_
  rw[Around.under_plainId F.plain_min_loop _]
  show wpAny _ A.in1 (seqItems? (.ref S) >>= _) _ _ s
  refine wpAny_bind (wpAny_seqItems hS rfl ?_)
  show wpAny _ A.in1 (tryCatch (pyNext (.ref I)) _ >>= _) _ _ s
  refine wpAny_bind (wpAny_tryCatch (Wk.done s _ _ (BU▸ik) fun h' tk kR=>?_))
  have pZ:=kR S _ yI hS
  show wpAny _ A.in1 (updateSeq S (fun _=>#[]) >>= _) _ _ _
  refine wpAny_bind ?_
  refine wpAny_updateSeq pZ rfl (wpAny_bind (wpAny_letGo (wpAny_pure ?_)))
  exact hR vb _ tk (by rw[← BU];exact yK) (H0 (up gr kR))
 | succ k ih=>
  intro j s vb c hk hj gr ik yK hS hR
  have cA:j+1<n:=by exact Br hk
  refine codeAny_builtin F.entry_min_loop ?_
  rw[Around.under_plainId F.plain_min_loop _]
  show wpAny _ A.in1 (seqItems? (.ref S) >>= _) _ _ s
  refine wpAny_bind (wpAny_seqItems hS rfl ?_)
  show wpAny _ A.in1 (tryCatch (pyNext (.ref I)) _ >>= _) _ _ s
  refine wpAny_bind (wpAny_tryCatch (Wk.item (j+1) s _ _ cA ik fun v h' tk hP oj kR=>?_))
  have pZ:=kR S _ yI hS
  have wI:=up gr kR
  show wpAny _ A.in1 (tryCatch (holding [v,v] (richCompare .Lt v vb >>= _)) _ >>= _) _ _ _
  refine wpAny_bind (wpAny_tryCatch (wpAny_holding (wpAny_bind (qX (j+1) (argBest bt j) v vb _ _ _ wI hP yK ?_))))
  refine wpAny_bind (wpAny_holding (wpAny_truthy_bool ?_))
  refine wpAny_bind (wpAny_letGo (wpAny_pure ?_))
  cases hb:bt (j+1) (argBest bt j) with
  | true=>
   simp only[if_true]
   refine wpAny_bind ?_
   refine wpAny_updateSeq pZ rfl (wpAny_bind (wpAny_letGo ?_))
   rw[iK]
   refine wpAny_pure ⟨plainId_quiet F.plain_min_loop _,ih (j+1) _ v _ (rT hk) cA (H0 wI) (Wk.frame _ _ _ oj fun b GK o e=>?_) (by simp only[argBest,hb,if_true];exact hP) (Heap.get?_update_self _ pZ rfl) fun v' p0 kY wF lU=>hR v' p0 kY wF lU⟩
   exact(Heap.get?_update_other _ _ (fun h:S=b=>tX (by rw[h];exact GK))).trans e
  | false=>
   simp only[Bool.false_eq_true,if_false]
   refine wpAny_bind (wpAny_letGo ?_)
   rw[iK]
   exact wpAny_pure ⟨plainId_quiet F.plain_min_loop _,ih (j+1) _ vb c (rT hk) cA wI oj (by simp only[argBest,hb,Bool.false_eq_true,if_false];exact yK) pZ fun v' p0 kY wF lU=>hR v' p0 kY wF lU⟩
theorem tD{E:Value→Shared→Prop}{s:Shared}{x:Value}{Q:Value→Shared→Prop}
  (h:wpAny (model prog w) A.in1 (pyIter x) (fun it s₂=>∃I fp wr n P St bt h0,it=.ref I∧Walks prog w A.in1 I fp wr n P St∧St 0 s₂.heap∧(∀b∈fp,b<s₂.heap.objs.size)∧0<n∧zo prog w A.in1 h0 .Lt P bt∧aM h0 s₂.heap∧(∀b∈wr,h0.get? b=none)∧
   ∀v h' tk,P (argBest bt (n-1)) v→aM h0 h'→Q v { s₂ with heap:=h',toks:=tk }) E s) :
  wpAny (model prog w) A (call (.builtin "min") [x]) Q E s:=by
 have iK:(toString "min"++toString ".loop":String)="min.loop":=by decide
 refine call_function_tree F.kind_min F.plain_min F.entry_min (F.args_min1 _) ?_
 show wpAny _ A.in1 (Builtin.Builtins.bindParams "min" ["key","default"] 0 ⟨[],[]⟩ >>= _) _ _ s
 refine wpAny_bind (wpAny_of_eq (show Builtin.Builtins.bindParams "min" ["key","default"] 0 ⟨[],[]⟩=pure [none,none] from rfl) ?_)
 refine wpAny_bind (wpAny_pure ?_)
 refine wpAny_bind (wpAny_mono h (fun it s₂ h₂=>?_) fun _ _ e=>e)
 refine q68 (d0:=it) h₂ fun I fp wr n P St bt h0 Wk ik sj hn qX gr yx hQ=>?_;clear h₂
 refine wpAny_bind (wpAny_newObj_type ?_)
 have tX:s₂.heap.objs.size∉fp:=fun hm=>Nat.lt_irrefl _ (sj _ hm)
 have yI:s₂.heap.objs.size∉wr:=fun hm=>tX (Wk.sub _ hm)
 have yJ:h0.get? s₂.heap.objs.size=none:=by
  cases q:h0.get? s₂.heap.objs.size with
  | none=>rfl
  | some o=>exact absurd (Heap.lt_size (gr _ _ q)) (Nat.lt_irrefl _)
 rw[iK]
 refine wpAny_pure ⟨plainId_quiet F.plain_min_loop _,?_⟩
 refine codeAny_builtin F.entry_min_loop ?_
 rw[Around.under_plainId F.plain_min_loop _]
 show wpAny _ A.in1 (seqItems? (.ref s₂.heap.objs.size) >>= _) _ _ _
 refine wpAny_bind (wpAny_seqItems (Heap.get?_push_size _ rfl) rfl ?_)
 show wpAny _ A.in1 (tryCatch (pyNext (.ref I)) _ >>= _) _ _ _
 refine wpAny_bind (wpAny_tryCatch (Wk.item 0 _ _ _ hn (Wk.frame _ _ _ ik fun b _ o e=>Heap.get?_push_of_some _ e) fun v h' tk hP oj kR=>?_))
 have pZ:=kR _ _ yI (Heap.get?_push_size _ rfl)
 have wI:aM h0 h':=fun b o e=>kR b o (fun q=>by rw[yx b q] at e;cases e) (Heap.get?_push_of_some _ (gr b o e))
 show wpAny _ A.in1 (updateSeq _ (fun _=>#[v,v]) >>= _) _ _ _
 refine wpAny_bind ?_
 refine wpAny_updateSeq pZ rfl ?_
 rw[iK]
 refine wpAny_pure ⟨plainId_quiet F.plain_min_loop _,tC Wk h0 bt qX _ tX yJ yx _ 0 _ v _ rfl hn (fun b o e=>(Heap.get?_update_other _ _ (fun q:s₂.heap.objs.size=b=>by rw[← q,yJ] at e;cases e)).trans (wI b o e)) (Wk.frame _ _ _ oj fun b GK o e=>?_) hP (Heap.get?_update_self _ pZ rfl) fun v' p0 kY wF lU=>hQ v' p0 kY wF lU⟩
 exact(Heap.get?_update_other _ _ (fun h:s₂.heap.objs.size=b=>tX (by rw[h];exact GK))).trans e
theorem tF(Wk:Walks prog w A.in1 I fp wr n P St)(h0:Heap)(bt:Nat→Nat→Bool)(qX:zo prog w A.in1 h0 .Gt P bt)(S:Addr)(tX:S∉fp)(yJ:h0.get? S=none)(yx:∀b∈wr,h0.get? b=none):
  ∀(k j:Nat) (s:Shared) (vb:Value) (c:Nat),n-(j+1)=k→j+1≤n→aM h0 s.heap→St (j+1) s.heap→P (argBest bt j) vb→
  s.heap.get? S=some { cls:=.type "list",dict:=none,data:=.seq #[vb,vb] c,slots:=#[] }→
  (∀v h' tk,P (argBest bt (n-1)) v→aM h0 h'→R (.ok (.ret v)) { s with heap:=h',toks:=tk })→
  codeAny (model prog w) A (.builtin "max.loop" ⟨[.ref I,.none,.ref S],[]⟩) R s:=by
 have yI:S∉wr:=fun h=>tX (Wk.sub _ h)
 have iK:(toString "max"++toString ".loop":String)="max.loop":=by decide
 have up:∀ {h h':Heap},aM h0 h→(∀b o,b∉wr→h.get? b=some o→h'.get? b=some o)→aM h0 h':=fun g k b o e=>k b o (fun q=>by rw[yx b q] at e;cases e) (g b o e)
 have H0:∀ {h:Heap} {F:Obj→Obj},aM h0 h→aM h0 (h.update S F):=fun g b o e=>(Heap.get?_update_other _ _ (fun q:S=b=>by rw[← q,yJ] at e;cases e)).trans (g b o e)
 intro k
 induction k with
 | zero=>
  intro j s vb c hk hj gr ik yK hS hR
  have BU:j+1=n:=by exact Bu hk hj
  refine codeAny_builtin F.entry_max_loop ?_
  rw[Around.under_plainId F.plain_max_loop _]
  show wpAny _ A.in1 (seqItems? (.ref S) >>= _) _ _ s
  refine wpAny_bind (wpAny_seqItems hS rfl ?_)
  show wpAny _ A.in1 (tryCatch (pyNext (.ref I)) _ >>= _) _ _ s
  refine wpAny_bind (wpAny_tryCatch (Wk.done s _ _ (BU▸ik) fun h' tk kR=>?_))
  have pZ:=kR S _ yI hS
  show wpAny _ A.in1 (updateSeq S (fun _=>#[]) >>= _) _ _ _
  refine wpAny_bind ?_
  refine wpAny_updateSeq pZ rfl (wpAny_bind (wpAny_letGo (wpAny_pure ?_)))
  exact hR vb _ tk (by rw[← BU];exact yK) (H0 (up gr kR))
 | succ k ih=>
  intro j s vb c hk hj gr ik yK hS hR
  have cA:j+1<n:=by exact Br hk
  refine codeAny_builtin F.entry_max_loop ?_
  rw[Around.under_plainId F.plain_max_loop _]
  show wpAny _ A.in1 (seqItems? (.ref S) >>= _) _ _ s
  refine wpAny_bind (wpAny_seqItems hS rfl ?_)
  show wpAny _ A.in1 (tryCatch (pyNext (.ref I)) _ >>= _) _ _ s
  refine wpAny_bind (wpAny_tryCatch (Wk.item (j+1) s _ _ cA ik fun v h' tk hP oj kR=>?_))
  have pZ:=kR S _ yI hS
  have wI:=up gr kR
  show wpAny _ A.in1 (tryCatch (holding [v,v] (richCompare .Gt v vb >>= _)) _ >>= _) _ _ _
  refine wpAny_bind (wpAny_tryCatch (wpAny_holding (wpAny_bind (qX (j+1) (argBest bt j) v vb _ _ _ wI hP yK ?_))))
  refine wpAny_bind (wpAny_holding (wpAny_truthy_bool ?_))
  refine wpAny_bind (wpAny_letGo (wpAny_pure ?_))
  cases hb:bt (j+1) (argBest bt j) with
  | true=>
   simp only[if_true]
   refine wpAny_bind ?_
   refine wpAny_updateSeq pZ rfl (wpAny_bind (wpAny_letGo ?_))
   rw[iK]
   refine wpAny_pure ⟨plainId_quiet F.plain_max_loop _,ih (j+1) _ v _ (rT hk) cA (H0 wI) (Wk.frame _ _ _ oj fun b GK o e=>?_) (by simp only[argBest,hb,if_true];exact hP) (Heap.get?_update_self _ pZ rfl) fun v' p0 kY wF lU=>hR v' p0 kY wF lU⟩
   exact(Heap.get?_update_other _ _ (fun h:S=b=>tX (by rw[h];exact GK))).trans e
  | false=>
   simp only[Bool.false_eq_true,if_false]
   refine wpAny_bind (wpAny_letGo ?_)
   rw[iK]
   exact wpAny_pure ⟨plainId_quiet F.plain_max_loop _,ih (j+1) _ vb c (rT hk) cA wI oj (by simp only[argBest,hb,Bool.false_eq_true,if_false];exact yK) pZ fun v' p0 kY wF lU=>hR v' p0 kY wF lU⟩
theorem tG{E:Value→Shared→Prop}{s:Shared}{x:Value}{Q:Value→Shared→Prop}
  (h:wpAny (model prog w) A.in1 (pyIter x) (fun it s₂=>∃I fp wr n P St bt h0,it=.ref I∧Walks prog w A.in1 I fp wr n P St∧St 0 s₂.heap∧(∀b∈fp,b<s₂.heap.objs.size)∧0<n∧zo prog w A.in1 h0 .Gt P bt∧aM h0 s₂.heap∧(∀b∈wr,h0.get? b=none)∧
   ∀v h' tk,P (argBest bt (n-1)) v→aM h0 h'→Q v { s₂ with heap:=h',toks:=tk }) E s) :
  wpAny (model prog w) A (call (.builtin "max") [x]) Q E s:=by
 have iK:(toString "max"++toString ".loop":String)="max.loop":=by decide
 refine call_function_tree F.kind_max F.plain_max F.entry_max (F.args_max1 _) ?_
 show wpAny _ A.in1 (Builtin.Builtins.bindParams "max" ["key","default"] 0 ⟨[],[]⟩ >>= _) _ _ s
 refine wpAny_bind (wpAny_of_eq (show Builtin.Builtins.bindParams "max" ["key","default"] 0 ⟨[],[]⟩=pure [none,none] from rfl) ?_)
 refine wpAny_bind (wpAny_pure ?_)
 refine wpAny_bind (wpAny_mono h (fun it s₂ h₂=>?_) fun _ _ e=>e)
 refine q68 (d0:=it) h₂ fun I fp wr n P St bt h0 Wk ik sj hn qX gr yx hQ=>?_;clear h₂
 refine wpAny_bind (wpAny_newObj_type ?_)
 have tX:s₂.heap.objs.size∉fp:=fun hm=>Nat.lt_irrefl _ (sj _ hm)
 have yI:s₂.heap.objs.size∉wr:=fun hm=>tX (Wk.sub _ hm)
 have yJ:h0.get? s₂.heap.objs.size=none:=by
  cases q:h0.get? s₂.heap.objs.size with
  | none=>rfl
  | some o=>exact absurd (Heap.lt_size (gr _ _ q)) (Nat.lt_irrefl _)
 rw[iK]
 refine wpAny_pure ⟨plainId_quiet F.plain_max_loop _,?_⟩
 refine codeAny_builtin F.entry_max_loop ?_
 rw[Around.under_plainId F.plain_max_loop _]
 show wpAny _ A.in1 (seqItems? (.ref s₂.heap.objs.size) >>= _) _ _ _
 refine wpAny_bind (wpAny_seqItems (Heap.get?_push_size _ rfl) rfl ?_)
 show wpAny _ A.in1 (tryCatch (pyNext (.ref I)) _ >>= _) _ _ _
 refine wpAny_bind (wpAny_tryCatch (Wk.item 0 _ _ _ hn (Wk.frame _ _ _ ik fun b _ o e=>Heap.get?_push_of_some _ e) fun v h' tk hP oj kR=>?_))
 have pZ:=kR _ _ yI (Heap.get?_push_size _ rfl)
 have wI:aM h0 h':=fun b o e=>kR b o (fun q=>by rw[yx b q] at e;cases e) (Heap.get?_push_of_some _ (gr b o e))
 show wpAny _ A.in1 (updateSeq _ (fun _=>#[v,v]) >>= _) _ _ _
 refine wpAny_bind ?_
 refine wpAny_updateSeq pZ rfl ?_
 rw[iK]
 refine wpAny_pure ⟨plainId_quiet F.plain_max_loop _,tF Wk h0 bt qX _ tX yJ yx _ 0 _ v _ rfl hn (fun b o e=>(Heap.get?_update_other _ _ (fun q:s₂.heap.objs.size=b=>by rw[← q,yJ] at e;cases e)).trans (wI b o e)) (Wk.frame _ _ _ oj fun b GK o e=>?_) hP (Heap.get?_update_self _ pZ rfl) fun v' p0 kY wF lU=>hQ v' p0 kY wF lU⟩
 exact(Heap.get?_update_other _ _ (fun h:s₂.heap.objs.size=b=>tX (by rw[h];exact GK))).trans e
end
end Mine
namespace Mine
open PySem PyProof.Rows PySem.Builtin PySem.W PySem.Calls PySem.F
noncomputable abbrev fW(p:Int×Int):V:=.tup [.int p.1,.int p.2]
theorem fA{p q:Int×Int}:bQ p q=true↔p.1<q.1∨(p.1=q.1∧p.2<q.2):=by
 unfold bQ
 by_cases h:p.1=q.1
 ·rw[if_pos h,decide_eq_true_iff];exact SF h
 ·rw[if_neg h,decide_eq_true_iff];exact SE h
theorem bT{p q:Int×Int}:bQ p q=false↔¬(p.1<q.1∨(p.1=q.1∧p.2<q.2)):=by
 rw[← fA];simp
theorem ph{p q:Int×Int}(h:bQ p q=false)(k:bQ q p=false):p=q:=by
 have h:=bT.mp h
 have k:=bT.mp k
 obtain⟨a,b⟩:=p
 obtain⟨a',b'⟩:=q
 simp only at h k
 have:a=a':=by exact SD h k
 have:b=b':=by exact SA h k
 simp[*]
theorem kD(val:Nat→Int×Int):∀k,argBest (fun i j=>bQ (val i) (val j)) k≤k∧∀j,j≤k→bQ (val j) (val (argBest (fun i j=>bQ (val i) (val j)) k))=false
 | 0=>⟨Nat.le_refl _,fun j hj=>by obtain rfl:j=0:=Bt hj;exact bT.mpr (by simp only[argBest];exact Bs)⟩
 | k+1=>by
  refine q3 (kD val k) fun a b=>?_
  simp only[argBest]
  by_cases q:bQ (val (k+1)) (val (argBest (fun i j=>bQ (val i) (val j)) k))=true
  ·rw[if_pos q]
   refine⟨Nat.le_refl _,fun j hj=>bT.mpr ?_⟩
   have q:=fA.mp q
   by_cases e:j=k+1
   ·subst e;exact ng
   ·have:=bT.mp (b j (vy hj e));exact Sy q this
  ·rw[if_neg q]
   refine⟨by exact qO a,fun j hj=>?_⟩
   by_cases e:j=k+1
   ·subst e;simpa using q
   ·exact b j (vy hj e)
theorem kF(val:Nat→Int×Int):∀k,argBest (fun i j=>bQ (val j) (val i)) k≤k∧∀j,j≤k→bQ (val (argBest (fun i j=>bQ (val j) (val i)) k)) (val j)=false
 | 0=>⟨Nat.le_refl _,fun j hj=>by obtain rfl:j=0:=Bt hj;exact bT.mpr (by simp only[argBest];exact Bs)⟩
 | k+1=>by
  refine q3 (kF val k) fun a b=>?_
  simp only[argBest]
  by_cases q:bQ (val (argBest (fun i j=>bQ (val j) (val i)) k)) (val (k+1))=true
  ·rw[if_pos q]
   refine⟨Nat.le_refl _,fun j hj=>bT.mpr ?_⟩
   have q:=fA.mp q
   by_cases e:j=k+1
   ·subst e;exact ng
   ·have:=bT.mp (b j (vy hj e));exact Sx q this
  ·rw[if_neg q]
   refine⟨by exact qO a,fun j hj=>?_⟩
   by_cases e:j=k+1
   ·subst e;simpa using q
   ·exact b j (vy hj e)
theorem BO{prog:Program}{w:World}{A:Around}{E:Value→Shared→Prop}{s:Shared}{l:Addr}{items:Array Value}{Q:Value→Shared→Prop}(hl:s.heap.IsList l items)
  (h:∀s₂:Shared,s₂={ s with heap:=s.heap.push { cls:=.type "list_iterator",data:=.fields #[.ref l,.int 0 0] } }→(s₂.heap.IsListIter s.heap.objs.size l 0∧s₂.heap.IsList l items)→(∀b∈[s.heap.objs.size,l],b<s₂.heap.objs.size)→l≠s.heap.objs.size→s.heap.get? s.heap.objs.size=none→Q (.ref s.heap.objs.size) s₂) :
  wpAny (model prog w) A (pyIter (.ref l)) Q E s:=by
 refine wpAny_pyIter_list hl ?_
 have cA:l<s.heap.objs.size:=q2 hl fun o e _=>Heap.lt_size e
 exact h _ rfl ⟨⟨_,Heap.get?_push_size _ rfl,rfl,rfl⟩,hl.push _⟩ (fun b hb=>by
  rw[Heap.size_push]
  rcases List.mem_cons.mp hb with rfl | hb
  ·exact Nat.lt_succ_self _
  ·rw[List.mem_singleton] at hb;subst hb;exact Nat.lt_succ_of_lt cA) (Nat.ne_of_lt cA) (c9 _)
section
variable {c:Cx} {f:Fx} {m:bL} {H:AH} {X:Value→AH→Prop} {Q:V→AH→Prop}
theorem Hf{a:Addr}{l:List (Int×Int)}{M:Int×Int}(hh:f.A.handled=none)(h:ai H a (l.map fW))(h1:M∈l)(h2:∀x∈l,bQ x M=false)(hu:f.A.units+4<cLine):BN c f H (fun vs=>call (.builtin "min") vs) [.ref a] (fW M):=.mk fun m s vs S ia=>by
 simp only[aA] at ia;refine uC (d0:=vs) ia fun v i=>?_;clear ia
 obtain rfl:=aG i
 refine q2 (S.rep.plain h) fun us Jm ja=>?_;obtain⟨o,n,g,cl,dn,dt⟩:=Jm
 have ul:us.length=l.length:=by have:=ja.length;rwa [List.length_map] at this
 have hl:s.heap.IsList a us.toArray:=⟨o,g,cl,n,dt⟩
 have l0:0<l.length:=List.length_pos_iff.mpr (fun z=>by rw[z] at h1;cases h1)
 have at_:∀ {i:Nat} {v:Value},us.toArray[i]?=some v→∃p,l[i]?=some p∧Is s.heap (fW p) v:=fun {i v} hv=>by
  have hv:us[i]?=some v:=by simpa using hv
  have hi:=(List.getElem?_eq_some_iff.mp hv).1
  obtain⟨v',e,j⟩:=ja.get (aQ (g:=fW) (List.getElem?_eq_getElem (show i<l.length by exact rU ul hi)))
  rw[hv] at e;cases e
  exact⟨_,List.getElem?_eq_getElem (rU ul hi),j⟩
 refine tD (BO hl fun s₂ e st sj hlI hI0=>?_)
 subst e
 refine⟨_,_,_,_,_,_,fun i j=>bQ (l.getD i (0,0)) (l.getD j (0,0)),s.heap,rfl,Walks.list (A:=f.A.in1) hh _ a hlI us.toArray,st,sj,by rw[List.size_toArray];exact Bq ul l0,fun i j vi vj s' Q E gr hi hj hq=>?_,aM.push _ _,fun b hb=>by rw[List.mem_singleton] at hb;subst hb;exact hI0,fun v h' tk hP gr=>?_⟩
 ·refine q2 (at_ hi) fun p ep ip=>?_
  refine q2 (at_ hj) fun q eq iq=>?_
  have ip:=ip.tk gr.tk
  have iq:=iq.tk gr.tk
  simp only[fW,Is,aA] at ip iq
  refine VW ip fun ta x1 x2 Jj Ji Jh Jg=>?_;clear ip;obtain rfl:=Jj;obtain⟨oa,na,ga,ca,da⟩:=Ji;obtain⟨t1,rfl⟩:=Jh;obtain⟨t2,rfl⟩:=Jg
  refine VW iq fun tb y1 y2 Je Jd Jc Jb=>?_;clear iq;obtain rfl:=Je;obtain⟨ob,nb,gb,cb,db⟩:=Jd;obtain⟨u1,rfl⟩:=Jc;obtain⟨u2,rfl⟩:=Jb
  obtain⟨aaW,dda,Vd,Xb⟩:=oa
  obtain⟨aaV,ddb,Vc,Xa⟩:=ob
  simp only at ca da cb db
  subst ca da cb db
  have e1:l.getD i (0,0)=p:=by rw[List.getD_eq_getElem?_getD,ep];rfl
  have e2:l.getD j (0,0)=q:=by rw[List.getD_eq_getElem?_getD,eq];rfl
  dsimp only at hq
  rw[e1,e2] at hq
  exact richCompare_meets_room (op:=.Lt) ⟨_,ga,rfl⟩ ⟨_,gb,rfl⟩ F.slot_tuple_lt F.entry_tuple_lt (F.args_tuple_lt_2 _ _) (tA ta tb p.1 p.2 q.1 q.2 t1 t2 u1 u2 na nb dda ddb Xb Xa) ⟨ga,gb,show Value.bool _≠Value.notImplemented∧Q (.bool _) s' from⟨(fun x=>nomatch x),hq⟩⟩ (by show f.A.units+1<cLine;exact Bp hu)
 ·refine q2 (at_ hP) fun p ep ip=>?_
  have hp:p=M:=by
   have hm:=List.mem_of_getElem? ep
   have b1:=h2 p hm
   refine q4 (List.getElem?_of_mem h1) fun j hj=>?_
   have jl:=(List.getElem?_eq_some_iff.mp hj).1
   have b2:=(kD (fun i=>l.getD i (0,0)) (us.toArray.size-1)).2 j (by rw[List.size_toArray];exact Gf ul jl)
   have e1:l.getD (argBest (fun i j=>bQ (l.getD i (0,0)) (l.getD j (0,0))) (us.toArray.size-1)) (0,0)=p:=by rw[List.getD_eq_getElem?_getD,ep];rfl
   have e2:l.getD j (0,0)=M:=by rw[List.getD_eq_getElem?_getD,hj];rfl
   rw[e1,e2] at b2
   exact ph b1 b2
  subst hp
  exact⟨gr,rfl,rfl,ip.tk gr.tk⟩
theorem Hg{a:Addr}{l:List (Int×Int)}{M:Int×Int}(hh:f.A.handled=none)(h:ai H a (l.map fW))(h1:M∈l)(h2:∀x∈l,bQ M x=false)(hu:f.A.units+4<cLine):BN c f H (fun vs=>call (.builtin "max") vs) [.ref a] (fW M):=.mk fun m s vs S ia=>by
 simp only[aA] at ia;refine uC (d0:=vs) ia fun v i=>?_;clear ia
 obtain rfl:=aG i
 refine q2 (S.rep.plain h) fun us Jl ja=>?_;obtain⟨o,n,g,cl,dn,dt⟩:=Jl
 have ul:us.length=l.length:=by have:=ja.length;rwa [List.length_map] at this
 have hl:s.heap.IsList a us.toArray:=⟨o,g,cl,n,dt⟩
 have l0:0<l.length:=List.length_pos_iff.mpr (fun z=>by rw[z] at h1;cases h1)
 have at_:∀ {i:Nat} {v:Value},us.toArray[i]?=some v→∃p,l[i]?=some p∧Is s.heap (fW p) v:=fun {i v} hv=>by
  have hv:us[i]?=some v:=by simpa using hv
  have hi:=(List.getElem?_eq_some_iff.mp hv).1
  obtain⟨v',e,j⟩:=ja.get (aQ (g:=fW) (List.getElem?_eq_getElem (show i<l.length by exact rU ul hi)))
  rw[hv] at e;cases e
  exact⟨_,List.getElem?_eq_getElem (rU ul hi),j⟩
 refine tG (BO hl fun s₂ e st sj hlI hI0=>?_)
 subst e
 refine⟨_,_,_,_,_,_,fun i j=>bQ (l.getD j (0,0)) (l.getD i (0,0)),s.heap,rfl,Walks.list (A:=f.A.in1) hh _ a hlI us.toArray,st,sj,by rw[List.size_toArray];exact Bq ul l0,fun i j vi vj s' Q E gr hi hj hq=>?_,aM.push _ _,fun b hb=>by rw[List.mem_singleton] at hb;subst hb;exact hI0,fun v h' tk hP gr=>?_⟩
 ·refine q2 (at_ hi) fun p ep ip=>?_
  refine q2 (at_ hj) fun q eq iq=>?_
  have ip:=ip.tk gr.tk
  have iq:=iq.tk gr.tk
  simp only[fW,Is,aA] at ip iq
  refine VW ip fun ta x1 x2 Ja I9 I8 I7=>?_;clear ip;obtain rfl:=Ja;obtain⟨oa,na,ga,ca,da⟩:=I9;obtain⟨t1,rfl⟩:=I8;obtain⟨t2,rfl⟩:=I7
  refine VW iq fun tb y1 y2 I6 I5 I4 I0=>?_;clear iq;obtain rfl:=I6;obtain⟨ob,nb,gb,cb,db⟩:=I5;obtain⟨u1,rfl⟩:=I4;obtain⟨u2,rfl⟩:=I0
  obtain⟨aaW,dda,Vd,Xb⟩:=oa
  obtain⟨aaV,ddb,Vc,Xa⟩:=ob
  simp only at ca da cb db
  subst ca da cb db
  have e1:l.getD i (0,0)=p:=by rw[List.getD_eq_getElem?_getD,ep];rfl
  have e2:l.getD j (0,0)=q:=by rw[List.getD_eq_getElem?_getD,eq];rfl
  dsimp only at hq
  rw[e1,e2] at hq
  exact richCompare_meets_room (op:=.Gt) ⟨_,ga,rfl⟩ ⟨_,gb,rfl⟩ F.slot_tuple_gt F.entry_tuple_gt (F.args_tuple_gt_2 _ _) (tB ta tb p.1 p.2 q.1 q.2 t1 t2 u1 u2 na nb dda ddb Xb Xa) ⟨ga,gb,show Value.bool _≠Value.notImplemented∧Q (.bool _) s' from⟨(fun x=>nomatch x),hq⟩⟩ (by show f.A.units+1<cLine;exact Bp hu)
 ·refine q2 (at_ hP) fun p ep ip=>?_
  have hp:p=M:=by
   have hm:=List.mem_of_getElem? ep
   have b1:=h2 p hm
   refine q4 (List.getElem?_of_mem h1) fun j hj=>?_
   have jl:=(List.getElem?_eq_some_iff.mp hj).1
   have b2:=(kF (fun i=>l.getD i (0,0)) (us.toArray.size-1)).2 j (by rw[List.size_toArray];exact Gf ul jl)
   have e1:l.getD (argBest (fun i j=>bQ (l.getD j (0,0)) (l.getD i (0,0))) (us.toArray.size-1)) (0,0)=p:=by rw[List.getD_eq_getElem?_getD,ep];rfl
   have e2:l.getD j (0,0)=M:=by rw[List.getD_eq_getElem?_getD,hj];rfl
   rw[e1,e2] at b2
   exact ph b2 b1
  subst hp
  exact⟨gr,rfl,rfl,ip.tk gr.tk⟩
end
end Mine
namespace Mine
open PySem
theorem dS.vm{kvs kvs':List (Int×V)}(h:dS kvs kvs'){n:Int}(d:V)(hn:¬aJ kvs' n):dS (kvs++[(n,d)]) (kvs'++[(n,d)]):=fun k=>by
 rw[bC (fun q=>hn (h.key.mp (ay.mpr q))),bC (fun q=>hn (ay.mpr q)),h k]
theorem qB.move{kb:List (Int×V)}{pt rB:Int→List Int}{u x:Int}{Ec:Int→Nat}(M:qB kb pt u x Ec)(e:∀v,aJ kb v→pt v=rB v)(hu:aJ kb u):qB kb rB u x Ec:=by
 have sm:∀v,aJ kb v→(bJ pt u v↔bJ rB u v):=fun v hv=>by unfold bJ;rw[e u hu,e v hv]
 have dd:∀v w,aJ kb v→aJ kb w→ds pt v w=ds rB v w:=fun v w hv hw=>by unfold ds;rw[e v hv,e w hw]
 refine⟨M.key,(sm x M.key).mp M.same,fun v kv sv=>?_,fun v kv sv=>M.best v kv ((sm v kv).mpr sv)⟩
 refine q3 (M.yT v kv ((sm v kv).mpr sv)) fun Jk r=>?_;obtain⟨w,kw,sw,q⟩:=Jk
 exact⟨⟨w,kw,(sm w kw).mp sw,by rw[q,dd v w kv kw]⟩,fun w kw sw=>by rw[← dd v w kv kw];exact r w kw ((sm w kw).mpr sw)⟩
theorem rg{kv:List (Int×V)}(ch:∀k,aJ kv k→∃xs,av (bases kv) k xs){n o:Int}(hn:¬aJ kv n){xs:List Int}(hx:av (bases kv) o xs):∀v,aJ (bases kv++[(n,.int o)]) v→∃ys,av (bases kv++[(n,.int o)]) v ys:=fun v hv=>by
 have uF:¬aJ (bases kv) n:=fun q=>hn (aW.mp q)
 have keep:∀x,aJ (bases kv) x→aF (bases kv++[(n,.int o)]) x=aF (bases kv) x:=fun x hx=>by
  rw[bC (fun q=>uF (ay.mpr q))]
  exact if_neg (fun q:x=n=>uF (q▸hx))
 rcases (eC v).mp hv with h | rfl
 ·refine q4 (ch v (aW.mp h)) fun ys hy=>?_
  exact⟨ys,hy.keep keep⟩
 ·exact⟨_,.step (by rw[bC (fun q=>uF (ay.mpr q)),if_pos rfl]) (hx.keep keep)⟩
theorem lL{bG kv:List (Int×V)}(s:dS bG kv){n o:Int}(hn:¬aJ kv n)(ch:∀k,aJ kv k→∃xs,av (bases kv) k xs){xs:List Int}(hx:av (bases kv) o xs){pt rB:Int→List Int}{x x':Int}{Ec uK:Int→Nat}
  (jN:∀v ys,av (bases bG++[(n,.int o)]) v ys→pt v=ys.reverse) (jC:∀v ys,av (bases kv++[(n,.int o)]) v ys→rB v=ys.reverse) (M:qB (bases bG++[(n,.int o)]) pt n x Ec) (M':qB (bases kv++[(n,.int o)]) rB n x' uK):x=x'∧Ec x=uK x:=by
 have sk:dS (bases bG++[(n,V.int o)]) (bases kv++[(n,.int o)]):=s.bases.vm _ fun q=>hn (aW.mp q)
 have e:∀v,aJ (bases kv++[(n,V.int o)]) v→pt v=rB v:=fun v hv=>by
  refine q4 (rg ch hn hx v hv) fun ys hy=>?_
  rw[jC v ys hy,jN v ys (dS.chain (fun k=>(sk k).symm) hy)]
 exact((M.dj sk).move e ((eC n).mpr (.inr rfl))).uniq M'
theorem eE.dj{bG dP kv bP:List (Int×V)}{tx:Int→List Nat}{b n:Int}{l:List Nat}{j4:V}(S:eE bG dP tx b n l j4)(S':eE kv bP tx b n l j4)(s:dS bG kv)(hn:¬aJ kv n)(ch:∀k,aJ kv k→∃xs,av (bases kv) k xs):dS dP bP:=by
 cases S with
 | none e=>
  cases S' with
  | none e'=>subst e;subst e';exact s.vm _ hn
 | lean o a e xs C hx hb q=>
  cases S' with
  | lean o' a' e' xB C' oS iL q'=>
   refine q3 (C.uniq C') fun IZ IY=>?_;obtain rfl:=IZ;obtain rfl:=IY
   subst q;subst q'
   exact s.vm _ hn
  | dQ o' xB rB v8 uK oS iL _ _ _ _ _=>rw[(s.bases.chain hx).uniq oS] at hb;exact(vV hb iL).elim
  | turned o' a' e' xB rB v8 uK WW C' oS iL _ _ _ _ _ _=>rw[(s.bases.chain hx).uniq oS] at hb;exact(vV hb iL).elim
 | dQ o xs pt mid Ec hx hb PT jN M hm q=>
  cases S' with
  | lean o' a' e' xB C' oS iL q'=>rw[(s.bases.chain hx).uniq oS] at hb;exact(vU hb iL).elim
  | dQ o' xB rB v8 uK oS iL za jC M' UG q'=>subst q;subst q';exact s.vm _ hn
  | turned o' a' e' xB rB v8 uK WW C' oS iL za jC M' UG Wj T'=>
   refine q3 (lL s hn ch oS jN jC M M') fun IX e2=>?_;obtain rfl:=IX
   rw[e2] at hm;exact(vU hm UG).elim
 | turned o a e xs pt mid Ec zs C hx hb PT jN M hm hz T=>
  cases S' with
  | lean o' a' e' xB C' oS iL q'=>rw[(s.bases.chain hx).uniq oS] at hb;exact(vU hb iL).elim
  | dQ o' xB rB v8 uK oS iL za jC M' UG q'=>
   refine q3 (lL s hn ch oS jN jC M M') fun IV e2=>?_;obtain rfl:=IV
   rw[e2] at hm;exact(vV hm UG).elim
  | turned o' a' e' xB rB v8 uK WW C' oS iL za jC M' UG Wj T'=>
   refine q3 (lL s hn ch oS jN jC M M') fun IS e2=>?_;obtain rfl:=IS
   refine q3 (C.uniq C') fun IQ IP=>?_;obtain rfl:=IQ;obtain rfl:=IP
   have sk:=s.vm (cu o (tx o) l a e) hn
   obtain rfl:=(sk.bases.chain hz).uniq Wj
   exact T.dj T' sk
end Mine
namespace Mine
open PySem PyProof.Rows PySem.Builtin PySem.W PySem.F
theorem IntsAre.drop':∀ {vs:List Value} {ns:List Int} (n:Nat),IntsAre vs ns→IntsAre (vs.drop n) (ns.drop n)
 | _,_,0,h=>by simpa using h
 | _,_,n+1,.nil=>by simpa using IntsAre.nil
 | _,_,n+1,.cons _ _ h=>by simpa using IntsAre.drop' n h
theorem IntsAre.take':∀ {vs:List Value} {ns:List Int} (n:Nat),IntsAre vs ns→IntsAre (vs.take n) (ns.take n)
 | _,_,0,h=>by simpa using IntsAre.nil
 | _,_,n+1,.nil=>by simpa using IntsAre.nil
 | _,_,n+1,.cons _ _ h=>by simpa using IntsAre.cons _ _ (IntsAre.take' n h)
section
variable {c:Cx} {f:Fx} {m:bL} {H:AH} {X:Value→AH→Prop} {Q:V→AH→Prop} {K:Frag} {sc:Addr} {ns:List Int}
theorem uw{value lo hi:Expr}{p p':Pos}{i j:Int}(W:Lw c K sc ns)(hv:Pe c f value m H (.ref sc))(hlo:Pe c f lo m H (.int i))(BV:Pe c f hi m H (.int j))
  (q:∀b o (cs:List Int),H b=none→cs.length≤63→Q (.ref b) (H.set b ⟨o,.list (cs.map V.int)⟩)) (ht:∀o r,letTemporaryGo value o r=pure ():=by intro _ _;rfl) (hp:autoParam (evalPart (some lo) f.env=eval lo f.env) aR._auto_1) (hp2:autoParam (evalPart (some hi) f.env=eval hi f.env) aR._auto_1) :
  Ev c f (.Subscript value (.Slice (some lo) (some hi) none p) p') m H Q X:=.mk fun s S=>by
 refine wpAny_Subscript_list_slice (wpAny_mono (hv.run s S) (fun vo s₁ z=>?_) fun _ _ z=>?_) ht
 ·refine jB z fun t₁ i₁ S₁=>?_;clear z
  obtain rfl:=aG i₁
  rw[hp,hp2]
  refine wpAny_mono (hlo.run s₁ S₁) (fun vi s₂ z=>?_) fun _ _ z=>?_
  ·refine jB z fun t₂ i₂ S₂=>?_;clear z
   refine q4 (aY i₂) fun u IW=>?_;obtain rfl:=IW
   refine wpAny_mono (BV.run s₂ S₂) (fun vj s₃ z=>?_) fun _ _ z=>?_
   ·refine jB z fun t₃ i₃ S₃=>?_;clear z
    refine q4 (aY i₃) fun u' IU=>?_;obtain rfl:=IU
    refine q2 (W.sl) fun us IT hi=>?_;obtain⟨o,g,r⟩:=IT
    have hl:s₃.heap.IsList sc us.toArray:=⟨o,S₃.base _ _ g,r⟩
    have hlen:us.length=ns.length:=du hi
    have bf:=W.bf
    have hs:1000000≤sizeLine:=by decide
    refine⟨sc,us.toArray,some i,some j,rfl,hl,by rw[List.size_toArray];exact Sw hlen bf hs,.int i u,.int j u',?_⟩
    obtain⟨d,e,e1⟩:∃d e:Nat,slicePick us.toArray (some i) (some j) none=((us.drop d).take e).toArray:=⟨_,_,slicePick_plain us.toArray (some i) (some j)⟩
    have gr:aM s₃.heap ((s₃.heap.push { cls:=.type "slice",data:=.fields #[.int i u,.int j u',.none] }).push { cls:=.type "list",data:=.seq (slicePick us.toArray (some i) (some j) none) }):=(aM.push _ _).trans (aM.push _ _)
    have g2:((s₃.heap.push { cls:=.type "slice",data:=.fields #[.int i u,.int j u',.none] }).push { cls:=.type "list",data:=.seq (slicePick us.toArray (some i) (some j) none) }).get? (s₃.heap.objs.size+1)=some { cls:=.type "list",data:=.seq (slicePick us.toArray (some i) (some j) none) }:=by
     have:=Heap.get?_push_size (s₃.heap.push { cls:=.type "slice",data:=.fields #[.int i u,.int j u',.none] }) (o:={ cls:=.type "list",data:=.seq (slicePick us.toArray (some i) (some j) none) }) rfl
     rwa [Heap.size_push] at this
    have fresh:s₃.heap.get? (s₃.heap.objs.size+1)=none:=by
     cases q:s₃.heap.get? (s₃.heap.objs.size+1) with
     | none=>rfl
     | some o=>exact absurd (Heap.lt_size q) (Nat.not_lt.mpr (Nat.le_succ _))
    have fQ:=IntsAre.take' e (IntsAre.drop' d hi)
    refine⟨t₁.trans (t₂.trans (t₃.trans gr.tk)),.ref _,_,br,S₃.alloc (x:=⟨_,.list (((ns.drop d).take e).map V.int)⟩) gr rfl rfl fresh (Nat.lt_succ_of_lt (S₃.d5 W.ok)) ⟨g2,(us.drop d).take e,⟨_,_,g2,rfl,rfl,by rw[e1]⟩,jc fQ⟩,q _ _ _ (S₃.c6 fresh).1 (by rw[List.length_take,List.length_drop];exact Sv bf)⟩
   ·refine q7 z fun _ _ _ _ _ _ zu=>?_;clear z;have z:=zu;clear zu;exact z.elim
  ·refine q7 z fun _ _ _ _ _ _ zt=>?_;clear z;have z:=zt;clear zt;exact z.elim
 ·refine q7 z fun _ _ _ _ _ _ zr=>?_;clear z;have z:=zr;clear zr;exact z.elim
end
end Mine
namespace Mine
open PySem PySem.W
noncomputable def eG(i:Nat):Option Stmt:=PySem.Challenge.pw_uf040024_09.main.body[i]?
noncomputable def fF(s:Option Stmt)(j:Nat):Option Stmt:=match s with
 | some (.ClassDef _ _ _ body _ _ _ _ _ _ _)=>body[j]?
 | _=>none
noncomputable def b8(s:Option Stmt)(qual:Str)(doc pm code:Value):FuncData:=match s with
 | some (.FunctionDef nm args body _ _ _ scope _ _ _)=>FuncData.mk nm qual args (.stmts body) scope 3 [] .none .none doc pm none code .none 0
 | _=>default
@[reducible] noncomputable def kS(s:String)(a:Addr):Value:=.str (.ofString s) a
@[reducible] noncomputable def kE(P:Params)(s:String)(a:Addr)(v:Value):DictEntry:=.mk (PyData.keyHash P (.ofString s)) (.str (.ofString s) a) v
@[reducible] noncomputable def kO(a:Addr)(t:String)(d:Data):Addr×Obj:=(a,.mk (.type t) none d #[])
@[reducible] noncomputable def kT(a:Addr):Addr×Obj:=kO a "tuple" (.seq #[])
@[reducible] noncomputable def kC(a:Addr)(n:String)(i:Addr)(q:String)(j k:Addr)(l m:Int)(b c d e f:Addr)(s:Int)(t:Addr):Addr×Obj:=kO a "code" (.fields #[kS n i,kS q j,kS "/claim/cut.py" k,.int l 0,.int m 0,.int 0 0,.int 0 0,.int 3 0,.ref b,.bool true,.int 181 0,.ref c,.none,.ref d,.ref e,.ref f,.int s 0,.int l 0,kS "/claim/cut.py" t])
noncomputable def KK(P:Params):Frag:=[(2,Obj.mk .none none (.dict #[]) #[]),
 kO 3 "dict" (.dict #[kE P "__name__" 165 (kS "law_uf040024_09" 608),kE P "__doc__" 166 .none,kE P "__package__" 167 .none,kE P "__loader__" 168 (.builtin "__main__.__loader__#opaque"),kE P "__spec__" 169 .none,kE P "__annotations__" 170 (.ref 6),kE P "__builtins__" 171 (.ref 4),kE P "__file__" 173 (kS "/claim/cut.py" 172),kE P "__cached__" 174 .none,kE P "PackError" 206 (.ref 24),kE P "BadBound" 222 (.ref 37),kE P "BadRows" 238 (.ref 49),kE P "InRing" 254 (.ref 61),kE P "NoFit" 270 (.ref 73),kE P "NoVersion" 286 (.ref 85),kE P "TooFar" 302 (.ref 97),kE P "done" 314 (.ref 106),kE P "turned" 321 (.ref 113),kE P "change_of" 332 (.ref 120),kE P "chain_of" 343 (.ref 127),kE P "neighbours" 353 (.ref 134),kE P "distances" 367 (.ref 141),kE P "farthest" 376 (.ref 148),kE P "reach" 385 (.ref 155),kE P "middle" 399 (.ref 162),kE P "GREATEST" 403 (.int 1000 402),kE P "whole" 410 (.ref 169),kE P "text_at" 421 (.ref 176),kE P "Pack" 574 (.ref 287),kE P "check_chains" 587 (.ref 298),kE P "check_changes" 595 (.ref 305),kE P "opened" 607 (.ref 312),kE P "_law_cell_at" 617 (.ref 319),kE P "_law_whole" 624 (.ref 326),kE P "_law_sign_by" 632 (.ref 333),kE P "_law_text_by" 638 (.ref 338),kE P "_law_next_text" 649 (.ref 345),kE P "_law_beside" 657 (.ref 352),kE P "_law_change_of" 667 (.ref 359),kE P "_law_wide_change" 678 (.ref 366),kE P "_law_names" 688 (.ref 373),kE P "_law_size" 695 (.ref 380),kE P "_law_made" 701 (.ref 385),kE P "_law_rows_of" 707 (.ref 390),kE P "_law_chain" 716 (.ref 397),kE P "_law_longest" 722 (.ref 402),kE P "_law_kinds" 729 (.ref 409),kE P "_law_rows_are" 738 (.ref 416),kE P "_law_cells" 744 (.ref 421),kE P "_law_far" 757 (.ref 428),kE P "_law_turned" 770 (.ref 435),kE P "_law_stored" 776 (.ref 440),kE P "_law_forgotten" 788 (.ref 447),kE P "_law_ahead" 802 (.ref 454),kE P "_law_joined" 808 (.ref 459),kE P "_law_seen" 814 (.ref 464),kE P "_law_held_well" 822 (.ref 471),kE P "_law_asked" 837 (.ref 478),kE P "_law_long" 850 (.ref 485),kE P "_law_begun" 863 (.ref 492),kE P "law" 869 (.ref 497)] 61),
 kO 15 "tuple" (.seq #[.type "ValueError"]),
 kT 22,
 kO 23 "dict" (.dict #[kE P "__module__" 196 (kS "packdelta.errors" 187),kE P "__firstlineno__" 200 (.int 2 199),kE P "__static_attributes__" 201 (.ref 22),kE P "__weakref__" 203 (.ref 25),kE P "__doc__" 204 .none] 3),
 (24,Obj.mk (.type "type") none (.cls (ClassData.mk (.ofString "PackError") [.type "ValueError"] [.ref 24,.type "ValueError",.type "Exception",.type "BaseException",.type "object"] 23 (.ofString "PackError") true [] [.ref 37,.ref 49,.ref 61,.ref 73,.ref 85,.ref 97] false none false)) #[some (.ref 15),none,some (kS "PackError" 189),some (kS "PackError" 197),some (.builtin "ValueError.__new__"),some (.bool true)]),
 kO 25 "getset_descriptor" (.fields #[kS "__weakref__" 202,.ref 24,.builtin "ExceptionGroup.__weakref__",.none]),
 kO 28 "tuple" (.seq #[.ref 24]),
 kT 35,
 kO 36 "dict" (.dict #[kE P "__module__" 214 (kS "packdelta.errors" 187),kE P "__firstlineno__" 218 (.int 4 217),kE P "__static_attributes__" 219 (.ref 35),kE P "__doc__" 220 .none] 2),
 (37,Obj.mk (.type "type") none (.cls (ClassData.mk (.ofString "BadBound") [.ref 24] [.ref 37,.ref 24,.type "ValueError",.type "Exception",.type "BaseException",.type "object"] 36 (.ofString "BadBound") true [] [] false none false)) #[some (.ref 28),none,some (kS "BadBound" 207),some (kS "BadBound" 215),some (.builtin "ValueError.__new__"),some (.bool true)]),
 kO 40 "tuple" (.seq #[.ref 24]),
 kT 47,
 kO 48 "dict" (.dict #[kE P "__module__" 230 (kS "packdelta.errors" 187),kE P "__firstlineno__" 234 (.int 6 233),kE P "__static_attributes__" 235 (.ref 47),kE P "__doc__" 236 .none] 2),
 (49,Obj.mk (.type "type") none (.cls (ClassData.mk (.ofString "BadRows") [.ref 24] [.ref 49,.ref 24,.type "ValueError",.type "Exception",.type "BaseException",.type "object"] 48 (.ofString "BadRows") true [] [] false none false)) #[some (.ref 40),none,some (kS "BadRows" 223),some (kS "BadRows" 231),some (.builtin "ValueError.__new__"),some (.bool true)]),
 kO 52 "tuple" (.seq #[.ref 24]),
 kT 59,
 kO 60 "dict" (.dict #[kE P "__module__" 246 (kS "packdelta.errors" 187),kE P "__firstlineno__" 250 (.int 8 249),kE P "__static_attributes__" 251 (.ref 59),kE P "__doc__" 252 .none] 2),
 (61,Obj.mk (.type "type") none (.cls (ClassData.mk (.ofString "InRing") [.ref 24] [.ref 61,.ref 24,.type "ValueError",.type "Exception",.type "BaseException",.type "object"] 60 (.ofString "InRing") true [] [] false none false)) #[some (.ref 52),none,some (kS "InRing" 239),some (kS "InRing" 247),some (.builtin "ValueError.__new__"),some (.bool true)]),
 kO 64 "tuple" (.seq #[.ref 24]),
 kT 71,
 kO 72 "dict" (.dict #[kE P "__module__" 262 (kS "packdelta.errors" 187),kE P "__firstlineno__" 266 (.int 10 265),kE P "__static_attributes__" 267 (.ref 71),kE P "__doc__" 268 .none] 2),
 (73,Obj.mk (.type "type") none (.cls (ClassData.mk (.ofString "NoFit") [.ref 24] [.ref 73,.ref 24,.type "ValueError",.type "Exception",.type "BaseException",.type "object"] 72 (.ofString "NoFit") true [] [] false none false)) #[some (.ref 64),none,some (kS "NoFit" 255),some (kS "NoFit" 263),some (.builtin "ValueError.__new__"),some (.bool true)]),
 kO 76 "tuple" (.seq #[.ref 24]),
 kT 83,
 kO 84 "dict" (.dict #[kE P "__module__" 278 (kS "packdelta.errors" 187),kE P "__firstlineno__" 282 (.int 12 281),kE P "__static_attributes__" 283 (.ref 83),kE P "__doc__" 284 .none] 2),
 (85,Obj.mk (.type "type") none (.cls (ClassData.mk (.ofString "NoVersion") [.ref 24] [.ref 85,.ref 24,.type "ValueError",.type "Exception",.type "BaseException",.type "object"] 84 (.ofString "NoVersion") true [] [] false none false)) #[some (.ref 76),none,some (kS "NoVersion" 271),some (kS "NoVersion" 279),some (.builtin "ValueError.__new__"),some (.bool true)]),
 kO 88 "tuple" (.seq #[.ref 24]),
 kT 95,
 kO 96 "dict" (.dict #[kE P "__module__" 294 (kS "packdelta.errors" 187),kE P "__firstlineno__" 298 (.int 14 297),kE P "__static_attributes__" 299 (.ref 95),kE P "__doc__" 300 .none] 2),
 (97,Obj.mk (.type "type") none (.cls (ClassData.mk (.ofString "TooFar") [.ref 24] [.ref 97,.ref 24,.type "ValueError",.type "Exception",.type "BaseException",.type "object"] 96 (.ofString "TooFar") true [] [] false none false)) #[some (.ref 88),none,some (kS "TooFar" 287),some (kS "TooFar" 295),some (.builtin "ValueError.__new__"),some (.bool true)]),
 kT 100,
 kO 102 "tuple" (.seq #[kS "text" 308,kS "change" 309,kS "at" 310,kS "gone" 311]),
 kT 103,
 kC 105 "done" 305 "done" 306 307 17 2 100 101 102 103 104 312 313,
 kO 106 "function" (.func (b8 (eG 9) (.ofString "done") .none (kS "packdelta.changes" 303) (.ref 105))),
 kT 107,
 kO 109 "tuple" (.seq #[kS "change" 318]),
 kT 110,
 kC 112 "turned" 315 "turned" 316 317 23 1 107 108 109 110 111 319 320,
 kO 113 "function" (.func (b8 (eG 10) (.ofString "turned") .none (kS "packdelta.changes" 303) (.ref 112))),
 kT 114,
 kO 116 "tuple" (.seq #[kS "old" 325,kS "new" 326,kS "most" 327,kS "at" 328,kS "end" 329]),
 kT 117,
 kC 119 "change_of" 322 "change_of" 323 324 25 2 114 115 116 117 118 330 331,
 kO 120 "function" (.func (b8 (eG 11) (.ofString "change_of") .none (kS "packdelta.changes" 303) (.ref 119))),
 kT 121,
 kO 123 "tuple" (.seq #[kS "bases" 338,kS "number" 339,kS "chain" 340]),
 kT 124,
 kC 126 "chain_of" 335 "chain_of" 336 337 35 2 121 122 123 124 125 341 342,
 kO 127 "function" (.func (b8 (eG 13) (.ofString "chain_of") .none (kS "packdelta.trees" 333) (.ref 126))),
 kT 128,
 kO 130 "tuple" (.seq #[kS "bases" 347,kS "near" 348,kS "number" 349,kS "base" 350]),
 kT 131,
 kC 133 "neighbours" 344 "neighbours" 345 346 40 1 128 129 130 131 132 351 352,
 kO 134 "function" (.func (b8 (eG 14) (.ofString "neighbours") .none (kS "packdelta.trees" 333) (.ref 133))),
 kT 135,
 kO 137 "tuple" (.seq #[kS "near" 357,kS "start" 358,kS "far" 359,kS "layer" 360,kS "steps" 361,kS "behind" 362,kS "one" 363,kS "other" 364]),
 kT 138,
 kC 140 "distances" 354 "distances" 355 356 50 2 135 136 137 138 139 365 366,
 kO 141 "function" (.func (b8 (eG 15) (.ofString "distances") .none (kS "packdelta.trees" 333) (.ref 140))),
 kT 142,
 kO 144 "tuple" (.seq #[kS "far" 371,kS "best" 372,kS "number" 373]),
 kT 145,
 kC 147 "farthest" 368 "farthest" 369 370 64 1 142 143 144 145 146 374 375,
 kO 148 "function" (.func (b8 (eG 16) (.ofString "farthest") .none (kS "packdelta.trees" 333) (.ref 147))),
 kT 149,
 kO 151 "tuple" (.seq #[kS "bases" 380,kS "number" 381,kS "far" 382]),
 kT 152,
 kC 154 "reach" 377 "reach" 378 379 70 2 149 150 151 152 153 383 384,
 kO 155 "function" (.func (b8 (eG 17) (.ofString "reach") .none (kS "packdelta.trees" 333) (.ref 154))),
 kT 156,
 kO 158 "tuple" (.seq #[kS "bases" 389,kS "number" 390,kS "near" 391,kS "one" 392,kS "left" 393,kS "right" 394,kS "best" 395,kS "other" 396]),
 kT 159,
 kC 161 "middle" 386 "middle" 387 388 73 2 156 157 158 159 160 397 398,
 kO 162 "function" (.func (b8 (eG 18) (.ofString "middle") .none (kS "packdelta.trees" 333) (.ref 161))),
 kT 163,
 kO 165 "tuple" (.seq #[kS "thing" 407]),
 kT 166,
 kC 168 "whole" 404 "whole" 405 406 85 1 163 164 165 166 167 408 409,
 kO 169 "function" (.func (b8 (eG 21) (.ofString "whole") .none (kS "packdelta.packs" 400) (.ref 168))),
 kT 170,
 kO 172 "tuple" (.seq #[kS "held" 414,kS "number" 415,kS "changes" 416,kS "text" 417,kS "change" 418]),
 kT 173,
 kC 175 "text_at" 411 "text_at" 412 413 87 2 170 171 172 173 174 419 420,
 kO 176 "function" (.func (b8 (eG 22) (.ofString "text_at") .none (kS "packdelta.packs" 400) (.ref 175))),
 kT 184,
 kO 186 "tuple" (.seq #[kS "self" 437,kS "bound" 438]),
 kT 187,
 kC 189 "__init__" 434 "Pack.__init__" 435 436 98 2 184 185 186 187 188 439 440,
 kO 190 "function" (.func (b8 (fF (eG 23) 0) (.ofString "Pack.__init__") .none (kS "packdelta.packs" 400) (.ref 189))),
 kT 191,
 kO 193 "tuple" (.seq #[kS "self" 445,kS "number" 446]),
 kT 194,
 kC 196 "need" 442 "Pack.need" 443 444 105 2 191 192 193 194 195 447 448,
 kO 197 "function" (.func (b8 (fF (eG 23) 1) (.ofString "Pack.need") .none (kS "packdelta.packs" 400) (.ref 196))),
 kT 198,
 kO 200 "tuple" (.seq #[kS "self" 453,kS "text" 454,kS "beside" 455,kS "entry" 456,kS "number" 457,kS "bases" 458,kS "best" 459]),
 kT 201,
 kC 203 "store" 450 "Pack.store" 451 452 109 3 198 199 200 201 202 460 461,
 kO 204 "function" (.func (b8 (fF (eG 23) 2) (.ofString "Pack.store") .none (kS "packdelta.packs" 400) (.ref 203))),
 kT 205,
 kO 207 "tuple" (.seq #[kS "self" 466,kS "number" 467]),
 kT 208,
 kC 210 "read" 463 "Pack.read" 464 465 129 2 205 206 207 208 209 468 469,
 kO 211 "function" (.func (b8 (fF (eG 23) 3) (.ofString "Pack.read") .none (kS "packdelta.packs" 400) (.ref 210))),
 kT 212,
 kO 214 "tuple" (.seq #[kS "self" 474,kS "number" 475]),
 kT 215,
 kC 217 "base" 471 "Pack.base" 472 473 133 2 212 213 214 215 216 476 477,
 kO 218 "function" (.func (b8 (fF (eG 23) 4) (.ofString "Pack.base") .none (kS "packdelta.packs" 400) (.ref 217))),
 kT 219,
 kO 221 "tuple" (.seq #[kS "self" 482,kS "number" 483]),
 kT 222,
 kC 224 "chain" 479 "Pack.chain" 480 481 137 2 219 220 221 222 223 484 485,
 kO 225 "function" (.func (b8 (fF (eG 23) 5) (.ofString "Pack.chain") .none (kS "packdelta.packs" 400) (.ref 224))),
 kT 226,
 kO 228 "tuple" (.seq #[kS "self" 490]),
 kT 229,
 kC 231 "numbers" 487 "Pack.numbers" 488 489 141 1 226 227 228 229 230 491 492,
 kO 232 "function" (.func (b8 (fF (eG 23) 6) (.ofString "Pack.numbers") .none (kS "packdelta.packs" 400) (.ref 231))),
 kT 233,
 kO 235 "tuple" (.seq #[kS "self" 497,kS "found" 498,kS "number" 499]),
 kT 236,
 kC 238 "bases" 494 "Pack.bases" 495 496 144 1 233 234 235 236 237 500 501,
 kO 239 "function" (.func (b8 (fF (eG 23) 7) (.ofString "Pack.bases") .none (kS "packdelta.packs" 400) (.ref 238))),
 kT 240,
 kO 243 "code" (.fields #[kS "rows" 503,kS "Pack.rows" 504,kS "/claim/cut.py" 505,.int 150 0,.int 1 0,.int 0 0,.int 0 0,.int 3 0,.ref 240,.bool true,.int 181 0,.ref 241,.none,.none,.none,.ref 242,.int 506 0,.int 150 0,kS "/claim/cut.py" 507]),
 kO 244 "function" (.func (b8 (fF (eG 23) 8) (.ofString "Pack.rows") .none (kS "packdelta.packs" 400) (.ref 243))),
 kT 245,
 kO 247 "tuple" (.seq #[kS "self" 512,kS "total" 513,kS "row" 514]),
 kT 248,
 kC 250 "weight" 509 "Pack.weight" 510 511 153 1 245 246 247 248 249 515 516,
 kO 251 "function" (.func (b8 (fF (eG 23) 9) (.ofString "Pack.weight") .none (kS "packdelta.packs" 400) (.ref 250))),
 kT 252,
 kO 254 "tuple" (.seq #[kS "self" 521,kS "number" 522,kS "entry" 523,kS "one" 524,kS "kept" 525]),
 kT 255,
 kC 257 "turn" 518 "Pack.turn" 519 520 162 2 252 253 254 255 256 526 527,
 kO 258 "function" (.func (b8 (fF (eG 23) 10) (.ofString "Pack.turn") .none (kS "packdelta.packs" 400) (.ref 257))),
 kT 259,
 kO 261 "tuple" (.seq #[kS "self" 532,kS "number" 533]),
 kT 262,
 kC 264 "root" 529 "Pack.root" 530 531 170 2 259 260 261 262 263 534 535,
 kO 265 "function" (.func (b8 (fF (eG 23) 11) (.ofString "Pack.root") .none (kS "packdelta.packs" 400) (.ref 264))),
 kT 266,
 kO 268 "tuple" (.seq #[kS "self" 540,kS "number" 541,kS "most" 542,kS "other" 543,kS "chain" 544]),
 kT 269,
 kC 271 "below" 537 "Pack.below" 538 539 176 2 266 267 268 269 270 545 546,
 kO 272 "function" (.func (b8 (fF (eG 23) 12) (.ofString "Pack.below") .none (kS "packdelta.packs" 400) (.ref 271))),
 kT 273,
 kO 275 "tuple" (.seq #[kS "self" 551,kS "number" 552,kS "other" 553,kS "chain" 554]),
 kT 276,
 kC 278 "lean" 548 "Pack.lean" 549 550 184 3 273 274 275 276 277 555 556,
 kO 279 "function" (.func (b8 (fF (eG 23) 13) (.ofString "Pack.lean") .none (kS "packdelta.packs" 400) (.ref 278))),
 kT 280,
 kO 283 "code" (.fields #[kS "forget" 558,kS "Pack.forget" 559,kS "/claim/cut.py" 560,.int 194 0,.int 2 0,.int 0 0,.int 0 0,.int 3 0,.ref 280,.bool true,.int 181 0,.ref 281,.none,.none,.none,.ref 282,.int 561 0,.int 194 0,kS "/claim/cut.py" 562]),
 kO 284 "function" (.func (b8 (fF (eG 23) 14) (.ofString "Pack.forget") .none (kS "packdelta.packs" 400) (.ref 283))),
 kO 285 "tuple" (.seq #[kS "bound" 564,kS "coming" 565,kS "held" 566]),
 kO 286 "dict" (.dict #[kE P "__module__" 429 (kS "packdelta.packs" 400),kE P "__firstlineno__" 433 (.int 96 432),kE P "__init__" 441 (.ref 190),kE P "need" 449 (.ref 197),kE P "store" 462 (.ref 204),kE P "read" 470 (.ref 211),kE P "base" 478 (.ref 218),kE P "chain" 486 (.ref 225),kE P "numbers" 493 (.ref 232),kE P "bases" 502 (.ref 239),kE P "rows" 508 (.ref 244),kE P "weight" 517 (.ref 251),kE P "turn" 528 (.ref 258),kE P "root" 536 (.ref 265),kE P "below" 547 (.ref 272),kE P "lean" 557 (.ref 279),kE P "forget" 563 (.ref 284),kE P "__static_attributes__" 567 (.ref 285),kE P "__dict__" 569 (.ref 288),kE P "__weakref__" 571 (.ref 289),kE P "__doc__" 572 .none] 4),
 (287,Obj.mk (.type "type") none (.cls (ClassData.mk (.ofString "Pack") [.type "object"] [.ref 287,.type "object"] 286 (.ofString "Pack") true [] [] false none false)) #[none,none,some (kS "Pack" 422),some (kS "Pack" 430),some (.builtin "object.__new__"),some (.bool true)]),
 kO 288 "getset_descriptor" (.fields #[kS "__dict__" 568,.ref 287,.builtin "function.__dict__",.builtin "function.__dict__#set"]),
 kO 289 "getset_descriptor" (.fields #[kS "__weakref__" 570,.ref 287,.builtin "ExceptionGroup.__weakref__",.none]),
 kT 292,
 kO 294 "tuple" (.seq #[kS "held" 580,kS "bound" 581,kS "number" 582,kS "steps" 583,kS "one" 584]),
 kT 295,
 kC 297 "check_chains" 577 "check_chains" 578 579 211 2 292 293 294 295 296 585 586,
 kO 298 "function" (.func (b8 (eG 25) (.ofString "check_chains") .none (kS "packdelta.opening" 575) (.ref 297))),
 kT 299,
 kO 301 "tuple" (.seq #[kS "held" 591,kS "number" 592]),
 kT 302,
 kC 304 "check_changes" 588 "check_changes" 589 590 222 1 299 300 301 302 303 593 594,
 kO 305 "function" (.func (b8 (eG 26) (.ofString "check_changes") .none (kS "packdelta.opening" 575) (.ref 304))),
 kT 306,
 kO 308 "tuple" (.seq #[kS "rows" 599,kS "bound" 600,kS "pack" 601,kS "held" 602,kS "last" 603,kS "row" 604]),
 kT 309,
 kC 311 "opened" 596 "opened" 597 598 228 2 306 307 308 309 310 605 606,
 kO 312 "function" (.func (b8 (eG 27) (.ofString "opened") .none (kS "packdelta.opening" 575) (.ref 311))),
 kT 313,
 kO 315 "tuple" (.seq #[kS "_law_script" 613,kS "_law_k" 614]),
 kT 316,
 kC 318 "_law_cell_at" 610 "_law_cell_at" 611 612 243 2 313 314 315 316 317 615 616,
 kO 319 "function" (.func (b8 (eG 29) (.ofString "_law_cell_at") .none (kS "law_uf040024_09" 608) (.ref 318))),
 kT 320,
 kO 322 "tuple" (.seq #[kS "_law_found" 621]),
 kT 323,
 kC 325 "_law_whole" 618 "_law_whole" 619 620 247 1 320 321 322 323 324 622 623,
 kO 326 "function" (.func (b8 (eG 30) (.ofString "_law_whole") .none (kS "law_uf040024_09" 608) (.ref 325))),
 kT 327,
 kO 329 "tuple" (.seq #[kS "_law_cell" 628,kS "_law_some" 629]),
 kT 330,
 kC 332 "_law_sign_by" 625 "_law_sign_by" 626 627 249 1 327 328 329 330 331 630 631,
 kO 333 "function" (.func (b8 (eG 31) (.ofString "_law_sign_by") .none (kS "law_uf040024_09" 608) (.ref 332))),
 kT 334,
 kO 337 "code" (.fields #[kS "_law_text_by" 633,kS "_law_text_by" 634,kS "/claim/cut.py" 635,.int 253 0,.int 2 0,.int 0 0,.int 0 0,.int 3 0,.ref 334,.bool true,.int 181 0,.ref 335,.none,.none,.none,.ref 336,.int 636 0,.int 253 0,kS "/claim/cut.py" 637]),
 kO 338 "function" (.func (b8 (eG 32) (.ofString "_law_text_by") .none (kS "law_uf040024_09" 608) (.ref 337))),
 kT 339,
 kO 341 "tuple" (.seq #[kS "_law_old" 642,kS "_law_cell" 643,kS "_law_way" 644,kS "_law_at" 645,kS "_law_left" 646]),
 kT 342,
 kC 344 "_law_next_text" 639 "_law_next_text" 640 641 255 2 339 340 341 342 343 647 648,
 kO 345 "function" (.func (b8 (eG 33) (.ofString "_law_next_text") .none (kS "law_uf040024_09" 608) (.ref 344))),
 kT 346,
 kO 348 "tuple" (.seq #[kS "_law_cell" 653,kS "_law_numbers" 654]),
 kT 349,
 kC 351 "_law_beside" 650 "_law_beside" 651 652 268 2 346 347 348 349 350 655 656,
 kO 352 "function" (.func (b8 (eG 34) (.ofString "_law_beside") .none (kS "law_uf040024_09" 608) (.ref 351))),
 kT 353,
 kO 355 "tuple" (.seq #[kS "_law_old" 661,kS "_law_new" 662,kS "_law_at" 663,kS "_law_end" 664]),
 kT 356,
 kC 358 "_law_change_of" 658 "_law_change_of" 659 660 276 2 353 354 355 356 357 665 666,
 kO 359 "function" (.func (b8 (eG 35) (.ofString "_law_change_of") .none (kS "law_uf040024_09" 608) (.ref 358))),
 kT 360,
 kO 362 "tuple" (.seq #[kS "_law_old" 671,kS "_law_new" 672,kS "_law_way" 673,kS "_law_change" 674,kS "_law_ahead_here" 675]),
 kT 363,
 kC 365 "_law_wide_change" 668 "_law_wide_change" 669 670 284 3 360 361 362 363 364 676 677,
 kO 366 "function" (.func (b8 (eG 36) (.ofString "_law_wide_change") .none (kS "law_uf040024_09" 608) (.ref 365))),
 kT 367,
 kO 369 "tuple" (.seq #[kS "_law_cells_here" 682,kS "_law_names_here" 683,kS "_law_number" 684,kS "_law_cell" 685]),
 kT 370,
 kC 372 "_law_names" 679 "_law_names" 680 681 292 1 367 368 369 370 371 686 687,
 kO 373 "function" (.func (b8 (eG 37) (.ofString "_law_names") .none (kS "law_uf040024_09" 608) (.ref 372))),
 kT 374,
 kO 376 "tuple" (.seq #[kS "_law_cell" 692]),
 kT 377,
 kC 379 "_law_size" 689 "_law_size" 690 691 301 1 374 375 376 377 378 693 694,
 kO 380 "function" (.func (b8 (eG 38) (.ofString "_law_size") .none (kS "law_uf040024_09" 608) (.ref 379))),
 kT 381,
 kO 384 "code" (.fields #[kS "_law_made" 696,kS "_law_made" 697,kS "/claim/cut.py" 698,.int 305 0,.int 2 0,.int 0 0,.int 0 0,.int 3 0,.ref 381,.bool true,.int 181 0,.ref 382,.none,.none,.none,.ref 383,.int 699 0,.int 305 0,kS "/claim/cut.py" 700]),
 kO 385 "function" (.func (b8 (eG 39) (.ofString "_law_made") .none (kS "law_uf040024_09" 608) (.ref 384))),
 kT 386,
 kO 389 "code" (.fields #[kS "_law_rows_of" 702,kS "_law_rows_of" 703,kS "/claim/cut.py" 704,.int 326 0,.int 1 0,.int 0 0,.int 0 0,.int 3 0,.ref 386,.bool true,.int 181 0,.ref 387,.none,.none,.none,.ref 388,.int 705 0,.int 326 0,kS "/claim/cut.py" 706]),
 kO 390 "function" (.func (b8 (eG 40) (.ofString "_law_rows_of") .none (kS "law_uf040024_09" 608) (.ref 389))),
 kT 391,
 kO 393 "tuple" (.seq #[kS "_law_kept" 711,kS "_law_number" 712,kS "_law_chain_here" 713]),
 kT 394,
 kC 396 "_law_chain" 708 "_law_chain" 709 710 328 2 391 392 393 394 395 714 715,
 kO 397 "function" (.func (b8 (eG 41) (.ofString "_law_chain") .none (kS "law_uf040024_09" 608) (.ref 396))),
 kT 398,
 kO 401 "code" (.fields #[kS "_law_longest" 717,kS "_law_longest" 718,kS "/claim/cut.py" 719,.int 333 0,.int 1 0,.int 0 0,.int 0 0,.int 3 0,.ref 398,.bool true,.int 181 0,.ref 399,.none,.none,.none,.ref 400,.int 720 0,.int 333 0,kS "/claim/cut.py" 721]),
 kO 402 "function" (.func (b8 (eG 42) (.ofString "_law_longest") .none (kS "law_uf040024_09" 608) (.ref 401))),
 kT 403,
 kO 405 "tuple" (.seq #[kS "_law_row" 726]),
 kT 406,
 kC 408 "_law_kinds" 723 "_law_kinds" 724 725 335 1 403 404 405 406 407 727 728,
 kO 409 "function" (.func (b8 (eG 43) (.ofString "_law_kinds") .none (kS "law_uf040024_09" 608) (.ref 408))),
 kT 410,
 kO 412 "tuple" (.seq #[kS "_law_found" 733,kS "_law_kept" 734,kS "_law_row" 735]),
 kT 413,
 kC 415 "_law_rows_are" 730 "_law_rows_are" 731 732 343 2 410 411 412 413 414 736 737,
 kO 416 "function" (.func (b8 (eG 44) (.ofString "_law_rows_are") .none (kS "law_uf040024_09" 608) (.ref 415))),
 kT 417,
 kO 420 "code" (.fields #[kS "_law_cells" 739,kS "_law_cells" 740,kS "/claim/cut.py" 741,.int 350 0,.int 3 0,.int 0 0,.int 0 0,.int 3 0,.ref 417,.bool true,.int 181 0,.ref 418,.none,.none,.none,.ref 419,.int 742 0,.int 350 0,kS "/claim/cut.py" 743]),
 kO 421 "function" (.func (b8 (eG 45) (.ofString "_law_cells") .none (kS "law_uf040024_09" 608) (.ref 420))),
 kT 422,
 kO 424 "tuple" (.seq #[kS "_law_kept" 748,kS "_law_number" 749,kS "_law_mine" 750,kS "_law_far_here" 751,kS "_law_one" 752,kS "_law_chain_here" 753,kS "_law_k" 754]),
 kT 425,
 kC 427 "_law_far" 745 "_law_far" 746 747 352 2 422 423 424 425 426 755 756,
 kO 428 "function" (.func (b8 (eG 46) (.ofString "_law_far") .none (kS "law_uf040024_09" 608) (.ref 427))),
 kT 429,
 kO 431 "tuple" (.seq #[kS "_law_kept" 761,kS "_law_number" 762,kS "_law_signs" 763,kS "_law_chain_here" 764,kS "_law_found" 765,kS "_law_k" 766,kS "_law_change" 767]),
 kT 432,
 kC 434 "_law_turned" 758 "_law_turned" 759 760 362 3 429 430 431 432 433 768 769,
 kO 435 "function" (.func (b8 (eG 47) (.ofString "_law_turned") .none (kS "law_uf040024_09" 608) (.ref 434))),
 kT 436,
 kO 439 "code" (.fields #[kS "_law_stored" 771,kS "_law_stored" 772,kS "/claim/cut.py" 773,.int 370 0,.int 5 0,.int 0 0,.int 0 0,.int 3 0,.ref 436,.bool true,.int 181 0,.ref 437,.none,.none,.none,.ref 438,.int 774 0,.int 370 0,kS "/claim/cut.py" 775]),
 kO 440 "function" (.func (b8 (eG 48) (.ofString "_law_stored") .none (kS "law_uf040024_09" 608) (.ref 439))),
 kT 441,
 kO 443 "tuple" (.seq #[kS "_law_kept" 780,kS "_law_texts" 781,kS "_law_number" 782,kS "_law_other" 783,kS "_law_found" 784,kS "_law_one" 785]),
 kT 444,
 kC 446 "_law_forgotten" 777 "_law_forgotten" 778 779 385 3 441 442 443 444 445 786 787,
 kO 447 "function" (.func (b8 (eG 49) (.ofString "_law_forgotten") .none (kS "law_uf040024_09" 608) (.ref 446))),
 kT 448,
 kO 450 "tuple" (.seq #[kS "_law_pack" 792,kS "_law_kept" 793,kS "_law_texts" 794,kS "_law_bound" 795,kS "_law_cells_here" 796,kS "_law_cell" 797,kS "_law_names_here" 798,kS "_law_number" 799]),
 kT 451,
 kC 453 "_law_ahead" 789 "_law_ahead" 790 791 397 5 448 449 450 451 452 800 801,
 kO 454 "function" (.func (b8 (eG 50) (.ofString "_law_ahead") .none (kS "law_uf040024_09" 608) (.ref 453))),
 kT 455,
 kO 458 "code" (.fields #[kS "_law_joined" 803,kS "_law_joined" 804,kS "/claim/cut.py" 805,.int 410 0,.int 5 0,.int 0 0,.int 0 0,.int 3 0,.ref 455,.bool true,.int 181 0,.ref 456,.none,.none,.none,.ref 457,.int 806 0,.int 410 0,kS "/claim/cut.py" 807]),
 kO 459 "function" (.func (b8 (eG 51) (.ofString "_law_joined") .none (kS "law_uf040024_09" 608) (.ref 458))),
 kT 460,
 kO 463 "code" (.fields #[kS "_law_seen" 809,kS "_law_seen" 810,kS "/claim/cut.py" 811,.int 421 0,.int 3 0,.int 0 0,.int 0 0,.int 3 0,.ref 460,.bool true,.int 181 0,.ref 461,.none,.none,.none,.ref 462,.int 812 0,.int 421 0,kS "/claim/cut.py" 813]),
 kO 464 "function" (.func (b8 (eG 52) (.ofString "_law_seen") .none (kS "law_uf040024_09" 608) (.ref 463))),
 kT 465,
 kO 467 "tuple" (.seq #[kS "_law_held" 818,kS "_law_pair" 819]),
 kT 468,
 kC 470 "_law_held_well" 815 "_law_held_well" 816 817 433 1 465 466 467 468 469 820 821,
 kO 471 "function" (.func (b8 (eG 53) (.ofString "_law_held_well") .none (kS "law_uf040024_09" 608) (.ref 470))),
 kT 472,
 kO 474 "tuple" (.seq #[kS "_law_pack" 826,kS "_law_kept" 827,kS "_law_texts" 828,kS "_law_cell" 829,kS "_law_held" 830,kS "_law_names_here" 831,kS "_law_one" 832,kS "_law_told" 833,kS "_law_k" 834]),
 kT 475,
 kC 477 "_law_asked" 823 "_law_asked" 824 825 438 5 472 473 474 475 476 835 836,
 kO 478 "function" (.func (b8 (eG 54) (.ofString "_law_asked") .none (kS "law_uf040024_09" 608) (.ref 477))),
 kT 479,
 kO 481 "tuple" (.seq #[kS "_law_pack" 841,kS "_law_kept" 842,kS "_law_texts" 843,kS "_law_bound" 844,kS "_law_cells_here" 845,kS "_law_k" 846,kS "_law_beside_here" 847]),
 kT 482,
 kC 484 "_law_long" 838 "_law_long" 839 840 449 5 479 480 481 482 483 848 849,
 kO 485 "function" (.func (b8 (eG 55) (.ofString "_law_long") .none (kS "law_uf040024_09" 608) (.ref 484))),
 kT 486,
 kO 488 "tuple" (.seq #[kS "_law_script" 854,kS "_law_kept" 855,kS "_law_texts" 856,kS "_law_first" 857,kS "_law_bound" 858,kS "_law_pack" 859,kS "_law_number" 860]),
 kT 489,
 kC 491 "_law_begun" 851 "_law_begun" 852 853 462 3 486 487 488 489 490 861 862,
 kO 492 "function" (.func (b8 (eG 56) (.ofString "_law_begun") .none (kS "law_uf040024_09" 608) (.ref 491))),
 kT 493,
 kO 496 "code" (.fields #[kS "law" 864,kS "law" 865,kS "/claim/cut.py" 866,.int 479 0,.int 1 0,.int 0 0,.int 0 0,.int 3 0,.ref 493,.bool true,.int 181 0,.ref 494,.none,.none,.none,.ref 495,.int 867 0,.int 479 0,kS "/claim/cut.py" 868]),
 kO 497 "function" (.func (b8 (eG 57) (.ofString "law") .none (kS "law_uf040024_09" 608) (.ref 496)))]
end Mine
namespace Mine
open PySem PySem.W PyProof.Rows PySem.F
section
variable {c:Cx} {P:Params} {sc:Addr} {ns:List Int}
theorem yf{p:Prop}[Decidable p]:(!decide p)=true↔¬p:=by simp
theorem bu(W:Lw c (KK P) sc ns):GN c (Str.ofString "len") (.builtin "len"):=W.blt rfl (by decide) G5
theorem Fn.gen{n:Nat}{v:Value}{ds:List V}{H:AH}{Q:V→AH→Prop}{X:Value→AH→Prop}(h:∀Q':V→AH→Prop,(∀d H',Q d H'→Q' d H')→Fn c n v ds H Q' X):Fn c n v ds H Q X:=h Q fun _ _ q=>q
theorem bW(W:Lw c (KK P) sc ns):GN c (Str.ofString "isinstance") (.builtin "isinstance"):=W.blt rfl (by decide) mQ
theorem wJ(W:Lw c (KK P) sc ns):GN c (Str.ofString "int") (.type "int"):=W.blt rfl (by decide) G6
theorem sy(W:Lw c (KK P) sc ns):GN c (Str.ofString "bool") (.type "bool"):=W.blt rfl (by decide) y4
theorem qZ(W:Lw c (KK P) sc ns):GN c (Str.ofString "str") (.type "str"):=W.blt rfl (by decide) GZ
theorem p3(W:Lw c (KK P) sc ns):GN c (Str.ofString "tuple") (.type "tuple"):=W.blt rfl (by decide) wV
theorem jD(W:Lw c (KK P) sc ns):GN c (Str.ofString "list") (.type "list"):=W.blt rfl (by decide) yZ
theorem eD(W:Lw c (KK P) sc ns):GN c (Str.ofString "range") (.type "range"):=W.blt rfl (by decide) wW
theorem lZ(W:Lw c (KK P) sc ns):GN c (Str.ofString "min") (.builtin "min"):=W.blt rfl (by decide) G3
theorem gB(W:Lw c (KK P) sc ns):GN c (Str.ofString "max") (.builtin "max"):=W.blt rfl (by decide) G4
theorem kW(W:Lw c (KK P) sc ns):GN c (Str.ofString "dict") (.type "dict"):=W.blt rfl (by decide) y3
theorem lD(W:Lw c (KK P) sc ns)(H:AH)(k:Int)(h0:0≤k):Fn c 1 (.ref 319) [.ref sc,.int k] H (fun d H'=>d=.int (dg ns k)∧H'=H) (fun _ _=>False):=by
 refine aV W.ok.lim (W.kx 319 _ rfl) rfl rfl (codeRec_of W.kx rfl) rfl (names:=["_law_script","_law_k"]) (cR rfl fun _ _=>rfl) rfl (by decide) (fun n=>eI (.inl rfl) (.inl rfl)) rfl rfl rfl fun A L bK hE R O=>?_
 refine aL (P:=k<ns.length) (aH (aa rfl) (ck W.ok (bu W) (aa rfl) (xb W)) oO (by simp)) (fun h=>?_) (fun h=>?_)
 ·refine aK (Pe.ev (aj (aa rfl) (aa rfl) (Hk W h0 h)) ⟨by rw[dg,if_pos h],rfl⟩)
 ·refine aK (xq ⟨by rw[dg,if_neg h],rfl⟩)
theorem g9(W:Lw c (KK P) sc ns){f:Fx}{m:bL}{H:AH}{k:Int}{e:Expr}{p₁ p₂ p:Pos}(R:bw 1 f.A)(hf:f.A.frames=some f.bK)(hm:m (Str.ofString "_law_script")=some (.ref sc))(he:Pe c f e m H (.int k))(h0:0≤k)
  (hg:autoParam (f.env.globals=mainGlobals) aR._auto_1) (hb:autoParam (f.env.builtins=builtinsNs) aR._auto_1) (hk:autoParam (f.env.scope.kind=.function) aR._auto_1) (hn:autoParam (f.env.kindOf (Str.ofString "_law_cell_at")=some .globalImplicit) aR._auto_1) (ik:autoParam (starEach [e] f.env=(false,eval e f.env)::starEach [] f.env) aR._auto_1) :
  Pe c f (.Call (.Name (Str.ofString "_law_cell_at") p₁) [.Name (Str.ofString "_law_script") p₂,e] [] p) m H (.int (dg ns k)):=
 kJ W.ok (W.glob rfl) (W.kx 319 _ rfl) rfl R hf (aa hm hk) he (lD W H k h0) hg hb hk hn (by decide) rfl ik
theorem eU(W:Lw c (KK P) sc ns){f:Fx}{m:bL}{H:AH}{k:Int}{n:Nat}{p₁ p₂ p₃ p:Pos}(R:bw 1 f.A)(hf:f.A.frames=some f.bK)(hm:m (Str.ofString "_law_script")=some (.ref sc))(h0:autoParam (0≤k) aD._auto_1)
  (hg:autoParam (f.env.globals=mainGlobals) aR._auto_1) (hb:autoParam (f.env.builtins=builtinsNs) aR._auto_1) (hk:autoParam (f.env.scope.kind=.function) aR._auto_1) (hn:autoParam (f.env.kindOf (Str.ofString "_law_cell_at")=some .globalImplicit) aR._auto_1) :
  Pe c f (.Call (.Name (Str.ofString "_law_cell_at") p₁) [.Name (Str.ofString "_law_script") p₂,.Constant (.int k) n p₃] [] p) m H (.int (dg ns k)):=
 kJ W.ok (W.glob rfl) (W.kx 319 _ rfl) rfl R hf (aa hm hk) ae (lD W H k h0) hg hb hk hn
theorem jz(W:Lw c (KK P) sc ns)(H:AH)(i:Int):Fn c 1 (.ref 326) [.int i] H (fun d' H'=>d'=.bool true∧H'=H) (fun _ _=>False):=by
 refine aV W.ok.lim (W.kx 326 _ rfl) rfl rfl (codeRec_of W.kx rfl) rfl (names:=["_law_found"]) (eK rfl fun _=>rfl) rfl (by decide) (fun n=>hU (.inl rfl)) rfl rfl rfl fun A L bK hE R O=>?_
 exact aK (Pe.ev (Pb.pe (oF (gH W.ok (bW W) (wJ W) (aa rfl) Ca) fun _=>oE (w8 (gH W.ok (bW W) (sy W) (aa rfl) mA))) (by simp)) ⟨rfl,rfl⟩)
theorem qH(W:Lw c (KK P) sc ns)(H:AH)(l gone aS:List Nat)(at_:Int)(h0:0≤at_)(h1:at_≤l.length)(h2:(l.take (at_+gone.length).toNat).drop at_.toNat=gone)(hsz:l.length≤100000)(Uw:aS.length≤100000)(Uv:gone.length≤100000):
  Fn c 1 (.ref 106) [.s l,.tup [.int at_,.s gone,.s aS]] H (fun d H'=>d=.s (l.take at_.toNat++aS++l.drop (at_+gone.length).toNat)∧H'=H) (fun _ _=>False):=by
 have hs:1000000≤sizeLine:=by decide
 refine aV W.ok.lim (W.kx 106 _ rfl) rfl rfl (codeRec_of W.kx rfl) rfl (names:=["text","change"]) (cR rfl fun _ _=>rfl) rfl (by decide) (fun n=>eI (.inl rfl) (.inl rfl)) rfl rfl rfl fun A L bK hE R O=>?_
 refine ag (Pe.ev (aj (aa rfl) ae (bB (j:=0) rfl rfl (by decide))) ?_) (.inl rfl)
 refine ag (Pe.ev (aj (aa rfl) ae (bB (j:=1) rfl rfl (by decide))) ?_) (.inl rfl)
 refine aL (fN (bg (aH (aa rfl) ae oO decide_eq_true_iff) fun g1=>bg (aH (aa rfl) (ck W.ok (bu W) (aa rfl) (eu (dN hsz hs))) jw decide_eq_true_iff) fun g2=>bg (aH (dB (aa rfl) (aa rfl) (aw (aa rfl) (ck W.ok (bu W) (aa rfl) (eu (dN Uv hs))) bx) (Bn h0) (vT h0) (dN hsz hs)) (aa rfl) xy yf) fun _=>dm)) (fun g=>?_) (fun g=>?_)
 ·exfalso
  rcases g with g | g | g | g
  ·exact Bm h0 g
  ·exact Ss h1 g
  ·exact g h2
  ·exact g
 ·refine aK (Pe.ev (aw (aw (gu (aa rfl) (aa rfl) h0 (dN hsz hs)) (aj (aa rfl) ae (bB (j:=2) rfl rfl (by decide))) (fP ?_)) (gs (aa rfl) (aw (aa rfl) (ck W.ok (bu W) (aa rfl) (eu (dN Uv hs))) bx) (vT h0) (dN hsz hs)) (fP ?_)) ⟨rfl,rfl⟩)
  ·rw[List.length_take];exact Sr hsz Uw hs
  ·rw[List.length_append,List.length_take,List.length_drop];exact Nat.le_trans (Nat.add_le_add (Nat.add_le_add_right (Nat.min_le_right _ _) _) (Nat.sub_le _ _)) (Sq hsz Uw hs)
theorem s9(W:Lw c (KK P) sc ns)(H:AH)(a b d:V):Fn c 1 (.ref 113) [.tup [a,b,d]] H (fun d' H'=>d'=.tup [a,d,b]∧H'=H) (fun _ _=>False):=by
 refine aV W.ok.lim (W.kx 113 _ rfl) rfl rfl (codeRec_of W.kx rfl) rfl (names:=["change"]) (eK rfl fun _=>rfl) rfl (by decide) (fun n=>hU (.inl rfl)) rfl rfl rfl fun A L bK hE R O=>?_
 exact aK (Pe.ev (bM (au (aj (aa rfl) ae (bB (j:=0) rfl rfl (by decide))) (au (aj (aa rfl) ae (bB (j:=2) rfl rfl (by decide))) (au (aj (aa rfl) ae (bB (j:=1) rfl rfl (by decide))) aU))) (cF _ _ _)) ⟨rfl,rfl⟩)
theorem fV(W:Lw c (KK P) sc ns)(H:AH)(b:Addr)(kvs:List (Int×V))(rk:Int→Nat)(n:Int)(d0:V)(hb:ax H b kvs)(hw:oA kvs rk)(hn:aF kvs n=some d0):
  Fn c 1 (.ref 127) [.ref b,.int n] H (fun d H'=>∃a o xs,d=.ref a∧H a=none∧H'=H.set a ⟨o,.list (xs.map V.int)⟩∧av kvs n xs∧xs.length≤50) (fun _ _=>False):=by
 have hs:1000000≤sizeLine:=by decide
 refine Fn.gen fun QQ eH=>?_
 refine aV W.ok.lim (W.kx 127 _ rfl) rfl rfl (codeRec_of W.kx rfl) rfl (names:=["bases","number"]) (cR rfl fun _ _=>rfl) rfl (by decide) (fun n=>eI (.inl rfl) (.inl rfl)) rfl rfl rfl fun A L bK hE R O=>?_
 refine ag (cw W.ok (nG.nz (au (aa rfl) aU) ⟨by show 1≤sizeLine;exact pD hs,fun a o ha=>?_⟩)) (.inl rfl)
 have HO:b≠a:=hb.ne_new ha
 refine hB O (fun k m' H'=>∃(o:Obj) (pre:List Int) (x:Int) (dx:V),H'=H.set a ⟨o,.list ((pre++[x]).map V.int)⟩∧k=rk x∧aF kvs x=some dx∧pre.length+rk x≤rk n∧(∀xs,av kvs x xs→av kvs n (pre++xs))∧m' (Str.ofString "bases")=some (.ref b)∧m' (Str.ofString "chain")=some (.ref a)) (rk n) ⟨o,[],n,d0,rfl,rfl,hn,by simp,fun xs h=>by simpa using h,rfl,rfl⟩ ?_
 rintro k m' H' rz8;refine q73 (d0:=H') (d1:=k) rz8 fun o pre x dx hx hlen hpre mb mc=>?_;clear rz8
 have hl:ai (H.set a ⟨o,.list ((pre++[x]).map V.int)⟩) a ((pre++[x]).map V.int):=ai.same _ _ _ _
 have iL:ax (H.set a ⟨o,.list ((pre++[x]).map V.int)⟩) b kvs:=hb.ne HO
 have low:=hw.low n
 have pU:((pre++[x]).map V.int).length=pre.length+1:=by simp
 have s1:seqIndex? (-1) ((pre++[x]).map V.int).length=some pre.length:=by rw[pU];exact(cC (rR) (vS)).trans (congrArg some (vR))
 have g1:((pre++[x]).map V.int)[pre.length]?=some (.int x):=by simp
 refine Ts.mono (bq (aj (aa mb) (aj (aa mc) (dE ae) (bN hl s1 g1 (m9))) (aT iL hx))) (fun t H' CP=>q3 CP fun e q=>?_) fun _ _ z=>z.elim
 subst e
 refine⟨fun ht=>?_,fun ht=>?_⟩
 ·rcases hw.down x dx hx with h0 | ⟨y,dy,rfl,hy,cA⟩
  ·exact(q.mp ht h0).elim
  refine ed (aa mc) (aj (aa mb) (aj (aa mc) (dE ae) (bN hl s1 g1 (m9))) (aT iL hx)) hl (Bl hs hlen low pU) (fun o'=>aO ⟨rk y,cA,o',pre++[x],y,dy,?_,rfl,hy,by simp;exact vQ hlen cA,fun xs h=>?_,mb,mc⟩)
  ·rw[AH.set_set];simp
  ·simpa using hpre _ (.step hx h)
 ·have h0:dx=.none:=by
   apply Classical.byContradiction;intro z
   rw[q.mpr z] at ht;cases ht
  subst h0
  exact aK (Pe.ev (aa mc) (eH _ _ ⟨a,o,pre++[x],rfl,ha,rfl,hpre _ (.stop hx),by simp;exact Bk hlen low⟩))
theorem cc{kvs:List (Int×V)}{k:Int}{d:V}(h:k∉kvs.map (·.1)):bR kvs k d=kvs++[(k,d)]:=by
 unfold bR
 rw[if_neg]
 rw[List.any_eq_true]
 rintro rz9;refine q2 rz9 fun x hx e=>?_;clear rz9
 exact h (List.mem_map.mpr ⟨x,hx,by simpa using e⟩)
theorem iV{l:List Int}{i:Nat}{k:Int}(nd:l.Nodup)(h:l[i]?=some k):k∉l.take i:=by
 intro hm
 obtain⟨j,hj,e⟩:=List.getElem_of_mem hm
 rw[List.getElem_take] at e
 rw[List.length_take] at hj
 refine q4 (List.getElem?_eq_some_iff.mp h) fun hi e2=>?_
 have:=(List.getElem_inj (h₀:=by exact rS hj) (h₁:=hi) nd).mp (e.trans e2.symm)
 exact Bo hj this
theorem iX(ks:List Int)(g:Int→V):(ks.map fun k=>(k,g k)).map (·.1)=ks:=by rw[List.map_map];simp[Function.comp_def]
theorem cg(W:Lw c (KK P) sc ns):GN c (Str.ofString "sorted") (.builtin "sorted"):=W.blt rfl (by decide) uo
theorem j9(W:Lw c (KK P) sc ns)(H:AH)(a:Addr)(kvs:List (Int×V))(hd:ax H a kvs)(nd:(kvs.map (·.1)).Nodup)(de:kvs≠[])(hv:∀k d,(k,d)∈kvs→∃n:Int,d=.int n):
  Fn c 1 (.ref 148) [.ref a] H (fun d H'=>H'=H∧∃b n:Int,d=.int b∧aF kvs b=some (.int n)∧∀k n':Int,aF kvs k=some (.int n')→n'≤n) (fun _ _=>False):=by
 refine Fn.gen fun QQ eH=>?_
 refine aV W.ok.lim (W.kx 148 _ rfl) rfl rfl (codeRec_of W.kx rfl) rfl (names:=["far"]) (eK rfl fun _=>rfl) rfl (by decide) (fun n=>hU (.inl rfl)) rfl rfl rfl fun A L bK hE R O=>?_
 refine ag (Pe.ev bS ?_) (.inl rfl)
 refine ct O (dc R.handled (Pe.ev (aa rfl) ⟨a,kvs,rfl,hd,fun i m' H'=>H'=H∧m' (Str.ofString "far")=some (.ref a)∧((i=0∧m' (Str.ofString "best")=some .none)∨(0<i∧∃b n:Int,m' (Str.ofString "best")=some (.int b)∧aF kvs b=some (.int n)∧∀(j:Nat) (k n':Int),j<i→kvs[j]?=some (k,.int n')→n'≤n)),⟨rfl,rfl,.inl ⟨rfl,rfl⟩⟩,?_,?_⟩)) (.inl rfl)
 ·rintro i d m' H' kp dz IJ _;refine iz IJ fun IM mf J=>?_;clear IJ;obtain rfl:=IM
  refine q2 (aI dz) fun IL hk IK=>?_;obtain⟨k,dk⟩:=IL;obtain rfl:=IK
  refine q4 (hv k dk (List.mem_of_getElem? hk)) fun nk F9=>?_;obtain rfl:=F9
  have gk:aF kvs k=some (.int nk):=bU nd (List.mem_of_getElem? hk)
  have nL:∀(N:Int),nk≤N→(∀(j:Nat) (k' n':Int),j<i→kvs[j]?=some (k',.int n')→n'≤N)→∀(j:Nat) (k' n':Int),j<i+1→kvs[j]?=some (k',.int n')→n'≤N:=fun N h1 h2 j k' n' hj e=>by
   by_cases q:j=i
   ·subst q;rw[hk] at e;injection e with e;injection e with e1 e2;injection e2 with e2;exact Sp h1 e2
   ·exact h2 j k' n' (fm hj q) e
  rcases J with ⟨rfl,mb⟩ | ⟨hi,b,n,mb,hb,all⟩
  ·refine aL (fN (bg (R:=False) (dM (aa mb)) fun g=>(g rfl).elim)) (fun _=>?_) (fun g=>(g (.inl rfl)).elim)
   exact ag (Pe.ev (aa rfl) (aO ⟨⟨rfl,mf,.inr ⟨by exact So,k,nk,rfl,gk,nL nk (Int.le_refl _) fun j k' n' hj=>absurd hj (jb)⟩⟩,fun _ _=>rfl⟩)) (.inl rfl)
  ·refine aL (fN (bg (dM (aa mb)) fun _=>bg (aH (aj (aa mf) (aa rfl) (aT hd gk)) (aj (aa mf) (aa mb) (aT hd hb)) jw decide_eq_true_iff) fun _=>dm)) (fun g=>?_) (fun g=>?_)
   ·have cA:n<nk:=by
     rcases g with g | g | g
     ·cases g
     ·exact g
     ·exact g.elim
    exact ag (Pe.ev (aa rfl) (aO ⟨⟨rfl,mf,.inr ⟨by exact Bj,k,nk,rfl,gk,nL nk (Int.le_refl _) fun j k' n' hj e=>by have:=all j k' n' hj e;exact Sn cA this⟩⟩,fun _ _=>rfl⟩)) (.inl rfl)
   ·have hle:nk≤n:=by
     apply Classical.byContradiction;intro z
     exact g (.inr (.inl (Sm z)))
    exact aO ⟨⟨rfl,mf,.inr ⟨by exact Bj,b,n,mb,hb,nL n hle all⟩⟩,fun _ _=>rfl⟩
 ·rintro m' H' II _;refine iz II fun F8 mf J=>?_;clear II;obtain rfl:=F8
  have hlen:0<kvs.length:=List.length_pos_iff.mpr de
  rw[List.length_map] at J
  rcases J with ⟨z,_⟩ | ⟨_,b,n,mb,hb,all⟩
  ·exact(Sl hlen z).elim
  ·refine aK (Pe.ev (aa mb) (eH _ _ ⟨rfl,b,n,rfl,hb,fun k n' e=>?_⟩))
   obtain⟨j,hj,e1⟩:=List.getElem_of_mem (fL e)
   exact all j k n' hj (by rw[List.getElem?_eq_getElem hj,e1])
theorem rY{L:Int→List Int}{k w v x:Int}:x∈(if v=k then L v++[w] else L v)↔x∈L v∨(v=k∧x=w):=by
 by_cases e:v=k
 ·rw[if_pos e];simp[e]
 ·rw[if_neg e];simp[e]
theorem sI{i:Nat}{p:Nat→Prop}:(∃j,j<i+1∧p j)↔(∃j,j<i∧p j)∨p i:=by
 constructor
 ·rintro IH;refine q2 IH fun j hj h=>?_;clear IH
  by_cases e:j=i
  ·exact .inr (e▸h)
  ·exact .inl ⟨j,by exact fm hj e,h⟩
 ·rintro(⟨j,hj,h⟩ | h)
  ·exact⟨j,by exact Su hj,h⟩
  ·exact⟨i,by exact MY,h⟩
theorem i8(W:Lw c (KK P) sc ns)(H:AH)(b:Addr)(kvs:List (Int×V))(pt:Int→List Int)(hb:ax H b kvs)(PT:bO kvs pt)(nd:(kvs.map (·.1)).Nodup)(bf:kvs.length≤40):
  Fn c 1 (.ref 134) [.ref b] H (fun d H'=>∃an ad L,d=.ref an∧aC H H'∧mz H' kvs an ad L) (fun _ _=>False):=by
 have hs:1000000≤sizeLine:=by decide
 have UQ:H b≠none:=by refine q4 hb fun o e=>?_;clear hb;rw[e];exact fun z=>nomatch z
 refine Fn.gen fun QQ eH=>?_
 refine aV W.ok.lim (W.kx 134 _ rfl) rfl rfl (codeRec_of W.kx rfl) rfl (names:=["bases"]) (eK rfl fun _=>rfl) rfl (by decide) (fun n=>hU (.inl rfl)) rfl rfl rfl fun A L bK hE R O=>?_
 refine ag (fO W.ok fun an on hn=>?_) (.inl rfl)
 have HO:b≠an:=hb.ne_new hn
 refine ct O (dc R.handled (Pe.ev (aa rfl) ⟨b,kvs,rfl,hb.ne HO,fun i m' H'=>(∃ad,qm H H' an ((kvs.map (·.1)).take i) ad (fun _=>[]))∧m' (Str.ofString "bases")=some (.ref b)∧m' (Str.ofString "near")=some (.ref an),⟨⟨fun _=>an,aC.set (aC.refl _) hn,hn,ax.same _ _ _ _,(fun _ h=>nomatch h),(fun _ h=>nomatch h),(fun _ h=>nomatch h)⟩,rfl,rfl⟩,?_,?_⟩)) (.inl rfl)
 ·rintro i d m' H' kp hd wG _
  refine Ex.gen fun QhQ hQ=>?_
  refine iz wG fun F7 mb mn=>?_;clear wG;obtain⟨ad,N⟩:=F7
  refine q2 (aI hd) fun F6 hk F5=>?_;obtain⟨k,dk⟩:=F6;obtain rfl:=F5
  have BS:(kvs.map (·.1))[i]?=some k:=aQ hk
  have qV:=iV nd BS
  refine bl (cw W.ok (bk ⟨Nat.zero_le _,fun a o ha=>Pe.ev (aa mn) (Pe.ev (aa rfl) ⟨an,_,k,rfl,rfl,N.d.fresh ha,by simp;exact Sk bf hs,fun o'=>?_⟩)⟩))
  have N':=N.put (o:=o) (o':=o') qV ha
  rw[cc (by rw[iX];exact qV)]
  exact aO (hQ _ _ _ ⟨⟨⟨_,by rw[List.take_add_one,BS];exact N'⟩,mb,mn⟩,fun x hx=>by rw[List.mem_singleton] at hx;subst hx;exact(N'.ext _ UQ).trans (bj _ _ HO).symm⟩)
 rintro m' H' IG _;refine iz IG fun F1 mb mn=>?_;clear IG;obtain⟨ad,N⟩:=F1
 rw[List.take_of_length_le (by simp)] at N
 refine ct O (dc R.handled (Pe.ev (aa mb) ⟨b,kvs,rfl,N.ext.dict hb,fun i m2 H2=>(∃L,qm H H2 an (kvs.map (·.1)) ad L∧(∀v w,w∈L v↔∃j,j<i∧(kvs[j]?=some (v,.int w)∨kvs[j]?=some (w,.int v)))∧∀v,(L v).length≤2*i)∧m2 (Str.ofString "bases")=some (.ref b)∧m2 (Str.ofString "near")=some (.ref an),⟨⟨_,N,fun v w=>⟨(fun h=>nomatch h),fun CO=>q2 CO fun j hj _=>absurd hj (jb)⟩,fun v=>Nat.zero_le _⟩,mb,mn⟩,?_,?_⟩)) (.inl rfl)
 ·rintro i d m2 H2 kp hd wG _
  refine Ex.gen fun QhQ hQ=>?_
  refine iz wG fun F0 mb mn=>?_;clear wG;obtain⟨L,N2,hL,hlen⟩:=F0
  refine q2 (aI hd) fun FZ hk FY=>?_;obtain⟨k,dk⟩:=FZ;obtain rfl:=FY
  have gk:aF kvs k=some dk:=bU nd (List.mem_of_getElem? hk)
  have hi:i<kvs.length:=(List.getElem?_eq_some_iff.mp hk).1
  refine ag (Pe.ev (aj (aa mb) (aa rfl) (aT (N2.ext.dict hb) gk)) ?_) (.inl rfl)
  refine aL (bq (aa rfl)) (fun g=>?_) (fun g=>?_)
  ·rcases PT.key k dk gk with h0 | ⟨w,dw,rfl,hw⟩
   ·exact(g h0).elim
   have kk:k∈kvs.map (·.1):=ay.mp ⟨_,gk⟩
   have kw:w∈kvs.map (·.1):=ay.mp ⟨_,hw⟩
   refine ed (aj (aa mn) (aa rfl) (aT N2.d (fM kk))) (aa rfl) (N2.l k kk) (by have:=hlen k;simp;exact Bi bf hs hi this) fun o1=>?_
   have N3:=N2.app (o:=o1) (w:=w) kk
   refine ed (aj (aa mn) (aa rfl) (aT N3.d (fM kw))) (aa rfl) (N3.l w kw) (by have:=hlen w;rw[List.length_map];split <;> simp <;> first | exact Sj bf hs hi this | exact Bi bf hs hi this) fun o2=>?_
   have N4:=N3.app (o:=o2) (w:=k) kw
   refine aO (hQ _ _ _ ⟨⟨⟨_,N4,fun v x=>?_,fun v=>?_⟩,mb,mn⟩,fun x hx=>?_⟩)
   ·rw[rY (L:=fun x=>if x=k then L x++[w] else L x),rY,hL,sI,hk]
    have e1:(some (k,V.int w)=some (v,V.int x))↔(v=k∧x=w):=by simp;exact⟨fun CN=>q3 CN fun a b=>⟨a.symm,b.symm⟩,fun CM=>q3 CM fun a b=>⟨a.symm,b.symm⟩⟩
    have e2:(some (k,V.int w)=some (x,V.int v))↔(v=w∧x=k):=by simp;exact⟨fun CL=>q3 CL fun a b=>⟨b.symm,a.symm⟩,fun CK=>q3 CK fun a b=>⟨b.symm,a.symm⟩⟩
    rw[e1,e2,or_assoc]
   ·have:=hlen v
    split <;> split <;> simp <;> first | exact Si this | exact Sh this | exact Bh this
   ·rw[List.mem_singleton] at hx;subst hx;rw[N4.ext _ UQ,N.ext _ UQ]
  ·have h0:dk=.none:=Classical.byContradiction g
   subst h0
   refine aO (hQ _ _ _ ⟨⟨⟨L,N2,fun v x=>?_,fun v=>by have:=hlen v;exact Bh this⟩,mb,mn⟩,fun x hx=>?_⟩)
   ·rw[hL,sI,hk];simp
   ·rw[List.mem_singleton] at hx;subst hx;rw[N2.ext _ UQ,N.ext _ UQ]
 rintro m2 H2 IF _;refine iz IF fun FX mb mn=>?_;clear IF;obtain⟨L,N2,hL,_⟩:=FX
 refine aK (Pe.ev (aa mn) (eH _ _ ⟨an,ad,L,rfl,N2.ext,N2.d,fun v hv=>N2.l v (ay.mp hv),fun v w=>(hL v w).trans ⟨?_,?_⟩⟩))
 ·rintro⟨j,_,h | h⟩
  ·exact .inl (bU nd (List.mem_of_getElem? h))
  ·exact .inr (bU nd (List.mem_of_getElem? h))
 ·rintro(h | h)
  ·refine q4 (List.getElem?_of_mem (fL h)) fun j e=>?_
   exact⟨j,by rw[List.length_map];exact(List.getElem?_eq_some_iff.mp e).1,.inl e⟩
  ·refine q4 (List.getElem?_of_mem (fL h)) fun j e=>?_
   exact⟨j,by rw[List.length_map];exact(List.getElem?_eq_some_iff.mp e).1,.inr e⟩
inductive DsW(kvs:List (Int×V))(pt:Int→List Int)(u:Int)(H:AH)(an af:Addr)(n:Nat)(m:bL)(H':AH):Prop
 | mk (s:Nat) (dQ:List (Int×V)) (lay:List Int) (al:Addr):n=100-s→aC H H'→ax H' af dQ→ai H' al (lay.map V.int)→jL kvs pt u s dQ→(∀v,v∈lay↔(aJ kvs v∧bJ pt u v∧ds pt u v=s))→m (Str.ofString "near")=some (.ref an)→m (Str.ofString "far")=some (.ref af)→m (Str.ofString "layer")=some (.ref al)→m (Str.ofString "steps")=some (.int (s:Int))→DsW kvs pt u H an af n m H'
inductive DsF(kvs:List (Int×V))(pt:Int→List Int)(u:Int)(H:AH)(an af ab al:Addr)(s:Nat)(lay:List Int)(cl:Option fc)(i:Nat)(m:bL)(H2:AH):Prop
 | mk (rd:List (Int×V)) (nE:List Int):aC H H2→ax H2 af rd→ai H2 ab (nE.map V.int)→H2 al=cl→gJ kvs pt u s rd nE→(∀(j:Nat) (v:Int),j<i→lay[j]?=some v→∀w,Nb kvs v w→aF rd w≠none)→m (Str.ofString "near")=some (.ref an)→m (Str.ofString "far")=some (.ref af)→m (Str.ofString "steps")=some (.int ((s:Int)+1))→m (Str.ofString "behind")=some (.ref ab)→DsF kvs pt u H an af ab al s lay cl i m H2
inductive DsG(kvs:List (Int×V))(pt:Int→List Int)(u:Int)(H:AH)(an af ab al:Addr)(s:Nat)(lay:List Int)(cl:Option fc)(i:Nat)(nb:List Int)(i2:Nat)(m:bL)(H3:AH):Prop
 | mk (jE:List (Int×V)) (qf:List Int):aC H H3→ax H3 af jE→ai H3 ab (qf.map V.int)→H3 al=cl→gJ kvs pt u s jE qf→(∀(j:Nat) (v:Int),j<i→lay[j]?=some v→∀w,Nb kvs v w→aF jE w≠none)→(∀(j:Nat) (w:Int),j<i2→nb[j]?=some w→aF jE w≠none)→m (Str.ofString "near")=some (.ref an)→m (Str.ofString "far")=some (.ref af)→m (Str.ofString "steps")=some (.int ((s:Int)+1))→m (Str.ofString "behind")=some (.ref ab)→DsG kvs pt u H an af ab al s lay cl i nb i2 m H3
theorem fo(W:Lw c (KK P) sc ns)(H:AH)(an:Addr)(ad:Int→Addr)(Ln:Int→List Int)(kvs:List (Int×V))(pt:Int→List Int)(u:Int)(N:mz H kvs an ad Ln)(PT:bO kvs pt)(bf:kvs.length≤40)(hu:aJ kvs u):
  Fn c 1 (.ref 141) [.ref an,.int u] H (fun d H'=>∃af dQ,d=.ref af∧aC H H'∧ax H' af dQ∧Cb kvs pt u dQ) (fun _ _=>False):=by
 have hs:1000000≤sizeLine:=by decide
 refine Fn.gen fun QQ eH=>?_
 refine aV W.ok.lim (W.kx 141 _ rfl) rfl rfl (codeRec_of W.kx rfl) rfl (names:=["near","start"]) (cR rfl fun _ _=>rfl) rfl (by decide) (fun n=>eI (.inl rfl) (.inl rfl)) rfl rfl rfl fun A L bK hE R O=>?_
 have hun:A.units+4<cLine:=by have:=R.units;exact Sg this
 refine ag (iU W.ok (fun H' _=>aa rfl) (fun H' _=>ae) fun af oa ha=>?_) (.inl rfl)
 refine ag (cw W.ok (nG.nz (au (aa rfl) aU) ⟨by show 1≤sizeLine;exact pD hs,fun al ol hl=>?_⟩)) (.inl rfl)
 refine ag (Pe.ev ae ?_) (.inl rfl)
 refine hB O (DsW kvs pt u H an af) 100
  ⟨0,[(u,.int 0)],[u],al,rfl,aC.set (aC.set (aC.refl _) ha) hl,(ax.same _ _ _ _).fresh hl,ai.same _ _ _ _,jL.zero PT hu,fun v=>?_,rfl,rfl,rfl,rfl⟩ ?_
 ·rw[List.mem_singleton]
  constructor
  ·rintro rfl;exact⟨hu,PT.self hu,jF _ _⟩
  ·rintro IE;refine iz IE fun h1 h2 h3=>?_;clear IE
   apply Classical.byContradiction;intro de
   refine q2 (PT.closer hu h1 h2 (fun e=>de e.symm)) fun w _ q=>?_
   exact Sf h3 q
 clear hl ol al
 rintro n m' H' XE;obtain⟨s,dQ,lay,al,rfl,ex,df,ll,F,hl,mn,mf,ml,ms⟩:=XE
 refine Ts.mono (Tp.of_ext (P:=lay≠[]) (eS ((aa ml).ev (cw W.ok (bk ⟨Nat.zero_le _,fun b2 o2 h2=>(ig (l':=[]) (ll.fresh h2) (ai.same _ _ _ _) hun).op ⟨_,rfl,aC.set (aC.refl _) h2,by simp⟩⟩))))) (fun t d8 CJ=>q3 CJ fun e q=>?_) fun _ _ z=>z.elim
 subst e
 refine⟨fun ht=>?_,fun ht=>?_⟩
 ·refine Ex.gen fun aa8 WB=>?_
  refine q4 (List.exists_mem_of_ne_nil _ (q.mp ht)) fun v0 hv0=>?_
  have Z4:s≤82:=by refine iz ((hl v0).mp hv0) fun k1 _ k3=>?_;have:=PT.ds_le hu k1;exact Se k3 this
  refine ag (Pe.ev (aw (aa ms) ae bx) ?_) (.inl rfl)
  refine ag (cw W.ok (bk ⟨Nat.zero_le _,fun ab ob jy=>?_⟩)) (.inl rfl)
  have aa1:al≠af:=ll.ne_dict df
  have aa2:al≠ab:=ll.ne_new jy
  have Vn:af≠ab:=df.ne_new jy
  have yH:H ab=none:=ex.none jy
  refine ct O (bD R.handled (Pe.ev (aa ml) ⟨al,_,rfl,ll.fresh jy,DsF kvs pt u H an af ab al s lay ((d8.set ab ⟨ob,.list []⟩) al),
   ⟨dQ,[],aC.set ex jy,df.fresh jy,ai.same _ _ _ _,rfl,F.mid,fun j v hj=>absurd hj (jb),mn,mf,rfl,rfl⟩,?_,?_⟩)) (.inl rfl)
  ·rintro i d m2 H2 kp hd XD _;obtain⟨rd,nE,uh,df2,yr,eal,F2,cov,V8,ZA,Zy,ZB⟩:=XD
   refine Ex.gen fun ag0 hQ2=>?_
   refine q2 (aI hd) fun v hv FW=>?_;obtain rfl:=FW
   have kv:=(hl v).mp (List.mem_of_getElem? hv)
   have lv:=N.l v kv.1
   have Wn:H (ad v)≠none:=by refine q4 lv fun o e=>?_;clear lv;rw[e];exact fun z=>nomatch z
   refine ct (O.kept kp) (bD R.handled (Pe.ev (aj (aa V8) (aa rfl) (aT (uh.dict N.d) (fM (ay.mp kv.1)))) ⟨ad v,_,rfl,uh.list lv,DsG kvs pt u H an af ab al s lay ((d8.set ab ⟨ob,.list []⟩) al) i (Ln v),
    ⟨rd,nE,uh,df2,yr,eal,F2,cov,fun j w hj=>absurd hj (jb),V8,ZA,Zy,ZB⟩,?_,?_⟩)) (.inl rfl)
   ·rintro i2 d3 m3 H3 Gv hd3 wG _
    refine Ex.gen fun agZ hQ3=>?_
    obtain⟨jE,qf,U7,Vb,xE,wO,F3,yY,yX,V7,Hz,Ua,Ub⟩:=wG
    refine q2 (aI hd3) fun w hw FV=>?_;obtain rfl:=FV
    have nb:=(N.nb v w).mp (List.mem_of_getElem? hw)
    refine aL (aH (P:=aF jE w=none) (aa rfl) (aa Hz) (oN Vb) (by simp)) (fun g=>?_) (fun g=>?_)
    ·have F4:=F3.put PT kv nb g
     have sz:=F3.size
     have W8:=F3.bf
     refine bl (Pe.ev (aa Ua) (Pe.ev (aa Hz) (Pe.ev (aa rfl) ⟨af,jE,w,rfl,rfl,Vb,by exact Sd bf hs sz,fun o1=>?_⟩)))
     rw[cc (eQ.mp g)]
     refine ed (aa Ub) (aa rfl) (xE.ne Vn.symm) (by rw[List.length_map];exact Sb bf hs sz W8) fun o2=>?_
     have grow:∀x,aF jE x≠none→aF (jE++[(w,V.int ((s:Int)+1))]) x≠none:=fun x hx=>by
      rw[bC (eQ.mp g)]
      split
      ·exact fun z=>nomatch z
      ·exact hx
     have e4:aC H ((H3.set af ⟨o1,.dict (jE++[(w,V.int ((s:Int)+1))])⟩).set ab ⟨o2,.list (qf.map V.int++[V.int w])⟩):=aC.upd (aC.upd U7 ha) yH
     refine aO (hQ3 _ _ _ ⟨⟨jE++[(w,V.int ((s:Int)+1))],qf++[w],e4,(ax.same _ _ _ _).ne Vn,?_,?_,F4,fun j v' hj og w' hn=>grow _ (yY j v' hj og w' hn),fun j w' hj tO=>?_,V7,Hz,Ua,Ub⟩,fun x hx=>?_⟩)
     ·rw[List.map_append];exact ai.same _ _ _ _
     ·rw[bj _ _ aa2,bj _ _ aa1];exact wO
     ·by_cases e:j=i2
      ·subst e
       rw[hw] at tO;injection tO with tO;subst tO
       rw[bC (eQ.mp g),if_pos rfl];exact fun z=>nomatch z
      ·exact grow _ (yX j w' (fm hj e) tO)
     ·rw[List.mem_singleton] at hx;subst hx;rw[e4 _ Wn,uh _ Wn]
    ·refine aO (hQ3 _ _ _ ⟨⟨jE,qf,U7,Vb,xE,wO,F3,yY,fun j w' hj tO=>?_,V7,Hz,Ua,Ub⟩,fun x hx=>?_⟩)
     ·by_cases e:j=i2
      ·subst e
       rw[hw] at tO;injection tO with tO;subst tO
       exact g
      ·exact yX j w' (fm hj e) tO
     ·rw[List.mem_singleton] at hx;subst hx;rw[U7 _ Wn,uh _ Wn]
   ·rintro m3 H3 XC _;obtain⟨jE,qf,U7,Vb,xE,wO,F3,yY,yX,V7,Hz,Ua,Ub⟩:=XC
    refine aO (hQ2 _ _ _ ⟨⟨jE,qf,U7,Vb,xE,wO,F3,fun j v' hj og w hn=>?_,V7,Hz,Ua,Ub⟩,fun x hx=>?_⟩)
    ·by_cases e:j=i
     ·subst e
      rw[hv] at og;injection og with og;subst og
      refine q4 (List.getElem?_of_mem ((N.nb v w).mpr hn)) fun j2 e2=>?_
      exact yX j2 w (by rw[List.length_map];exact(List.getElem?_eq_some_iff.mp e2).1) e2
     ·exact yY j v' (fm hj e) og w hn
    ·rw[List.mem_singleton] at hx;subst hx;exact wO
  ·rintro m2 H2 XB _;obtain⟨rd,nE,uh,df2,yr,eal,F2,cov,V8,ZA,Zy,ZB⟩:=XB
   obtain⟨F3,hl3⟩:=F2.done PT hu hl fun v hv w hn=>by
    refine q4 (List.getElem?_of_mem hv) fun j e=>?_
    exact cov j v (by rw[List.length_map];exact(List.getElem?_eq_some_iff.mp e).1) e w hn
   refine ag (Pe.ev (aa ZB) (aO (WB _ _ _ ⟨100-(s+1),by exact Sa Z4,s+1,rd,nE,ab,rfl,uh,df2,yr,F3,hl3,V8,ZA,rfl,?_⟩))) (.inl rfl)
   rw[show((s+1:Nat):Int)=(s:Int)+1 by exact vO];exact Zy
 ·have he:lay=[]:=by
   apply Classical.byContradiction;intro z
   rw[q.mpr z] at ht;cases ht
  exact aK (Pe.ev (aa mf) (eH _ _ ⟨af,dQ,rfl,ex,df,F.all PT hu fun v h=>by have:=(hl v).mpr h;rw[he] at this;cases this⟩))
theorem Cb.vals{kvs:List (Int×V)}{pt:Int→List Int}{u:Int}{dQ:List (Int×V)}(F:Cb kvs pt u dQ):dQ.map (·.2)=(dQ.map fun p=>(ds pt u p.1:Int)).map V.int:=by
 rw[List.map_map]
 refine List.map_congr_left fun p hp=>?_
 exact((F.at_ p.1 p.2).mp (bU F.nd hp)).2.2
theorem oZ(W:Lw c (KK P) sc ns)(H:AH)(b:Addr)(kvs:List (Int×V))(pt:Int→List Int)(u:Int)(hb:ax H b kvs)(PT:bO kvs pt)(nd:(kvs.map (·.1)).Nodup)(bf:kvs.length≤40)(hu:aJ kvs u):
  Fn c 2 (.ref 155) [.ref b,.int u] H (fun d H'=>∃M:Int,d=.int M∧aC H H'∧(∃v,aJ kvs v∧bJ pt u v∧M=ds pt u v)∧∀v,aJ kvs v→bJ pt u v→(ds pt u v:Int)≤M) (fun _ _=>False):=by
 refine aV W.ok.lim (W.kx 155 _ rfl) rfl rfl (codeRec_of W.kx rfl) rfl (names:=["bases","number"]) (cR rfl fun _ _=>rfl) rfl (by decide) (fun n=>eI (.inl rfl) (.inl rfl)) rfl rfl rfl fun A L bK hE R O=>?_
 refine ag (gK W.ok (W.glob rfl) (W.kx 141 _ rfl) rfl R O.frames (kL W.ok (W.glob rfl) (W.kx 134 _ rfl) rfl R O.frames (aa rfl) (Fn.mono (i8 W H b kvs pt hb PT nd bf) (fun d H' z=>?_) fun _ _ z=>z.elim))) (.inl rfl)
 refine q75 (d0:=d) z fun an ad L e1 N=>?_;clear z
 refine(aa rfl).ev (Fn.mono (fo W H' an ad L kvs pt u N PT bf hu) (fun d H2 z=>?_) fun _ _ z=>z.elim)
 refine VU (d0:=d) z fun af dQ e2 df F=>?_;clear z
 have BU:∀v,aJ kvs v→bJ pt u v→(ds pt u v:Int)∈dQ.map fun p=>(ds pt u p.1:Int):=fun v k1 k2=>List.mem_map.mpr ⟨_,fL ((F.at_ v _).mpr ⟨k1,k2,rfl⟩),rfl⟩
 refine q2 (eP (dQ.map fun p=>(ds pt u p.1:Int)) (List.ne_nil_of_mem (BU u hu (PT.self hu)))) fun M h1 h2=>?_
 refine aK (Pe.ev (y8 W.ok (gB W) R.handled (aa rfl) df F.vals h1 h2) ⟨M,rfl,e1.trans e2,?_,fun v k1 k2=>h2 _ (BU v k1 k2)⟩)
 refine q2 (List.mem_map.mp h1) fun p hp FU=>?_;obtain rfl:=FU
 have:=(F.at_ p.1 p.2).mp (bU F.nd hp)
 exact⟨p.1,this.1,this.2.1,rfl⟩
theorem td(W:Lw c (KK P) sc ns)(H:AH)(b:Addr)(kvs:List (Int×V))(pt:Int→List Int)(u:Int)(hb:ax H b kvs)(PT:bO kvs pt)(nd:(kvs.map (·.1)).Nodup)(bf:kvs.length≤40)(hu:aJ kvs u):
  Fn c 2 (.ref 162) [.ref b,.int u] H (fun d H'=>∃(x:Int) (E:Int→Nat),d=.int x∧aC H H'∧aJ kvs x∧bJ pt u x∧
   (∀v,aJ kvs v→bJ pt u v→(∃w,aJ kvs w∧bJ pt u w∧E v=ds pt v w)∧∀w,aJ kvs w→bJ pt u w→ds pt v w≤E v)∧
   ∀v,aJ kvs v→bJ pt u v→E x≤E v∧(E v=E x→v≤x)) (fun _ _=>False):=by
 refine Fn.gen fun QQ eH=>?_
 refine aV W.ok.lim (W.kx 162 _ rfl) rfl rfl (codeRec_of W.kx rfl) rfl (names:=["bases","number"]) (cR rfl fun _ _=>rfl) rfl (by decide) (fun n=>eI (.inl rfl) (.inl rfl)) rfl rfl rfl fun A L bK hE R O=>?_
 refine ag (kL W.ok (W.glob rfl) (W.kx 134 _ rfl) rfl R O.frames (aa rfl) (Fn.mono (i8 W H b kvs pt hb PT nd bf) (fun d H1 z=>?_) fun _ _ z=>z.elim)) (.inl rfl)
 refine q75 (d0:=d) z fun an ad L e1 N1=>?_;clear z
 have sH:∀ {u':Int} {dQ:List (Int×V)},aJ kvs u'→Cb kvs pt u' dQ→dQ≠[]∧(∀k d,(k,d)∈dQ→∃n:Int,d=.int n):=fun {u' dQ} k F=>by
  refine⟨fun e=>?_,fun x d hm=>⟨_,((F.at_ x d).mp (bU F.nd hm)).2.2⟩⟩
  have:=(F.at_ u' _).mpr ⟨k,PT.self k,rfl⟩
  rw[e] at this;cases this
 have best:∀ {u':Int} {dQ:List (Int×V)} {x n:Int},Cb kvs pt u' dQ→aF dQ x=some (.int n)→(∀k n':Int,aF dQ k=some (.int n')→n'≤n)→aJ kvs x∧bJ pt u' x∧∀v,aJ kvs v→bJ pt u' v→ds pt u' v≤ds pt u' x:=fun {u' dQ x n} F hx hm=>by
  refine iz ((F.at_ x _).mp hx) fun k1 k2 k3=>?_
  injection k3 with k3
  refine⟨k1,k2,fun v v1 v2=>?_⟩
  have:=hm v _ ((F.at_ v _).mpr ⟨v1,v2,rfl⟩)
  exact R9 k3 this
 refine ag (xu W.ok (W.glob rfl) (W.kx 148 _ rfl) rfl R O.frames (cy W.ok (W.glob rfl) (W.kx 141 _ rfl) rfl R O.frames (aa rfl) (aa rfl) (Fn.mono (fo W H1 an ad L kvs pt u N1 PT bf hu) (fun d H2 z=>?_) fun _ _ z=>z.elim))) (.inl rfl)
 refine VU (d0:=d) z fun af dQ e2 df F=>?_;clear z
 refine Fn.mono (j9 W H2 af dQ df F.nd (sH hu F).1 (sH hu F).2) (fun d H3 z=>?_) fun _ _ z=>z.elim
 refine q77 (d0:=H3) (d1:=d) z fun a na ga US=>?_;clear z
 refine iz (best F ga US) fun ka sa aa0=>?_
 have N2:=N1.ext e2
 refine ag (cy W.ok (W.glob rfl) (W.kx 141 _ rfl) rfl R O.frames (aa rfl) (aa rfl) (Fn.mono (fo W H2 an ad L kvs pt a N2 PT bf ka) (fun d H4 z=>?_) fun _ _ z=>z.elim)) (.inl rfl)
 refine VU (d0:=d) z fun afL left e4 dL FL=>?_;clear z
 refine ag (gK W.ok (W.glob rfl) (W.kx 141 _ rfl) rfl R O.frames ((aa rfl).ev (kL W.ok (W.glob rfl) (W.kx 148 _ rfl) rfl R O.frames (aa rfl) (Fn.mono (j9 W H4 afL left dL FL.nd (sH ka FL).1 (sH ka FL).2) (fun d H5 z=>?_) fun _ _ z=>z.elim)))) (.inl rfl)
 refine q77 (d0:=H5) (d1:=d) z fun bb nb gb UR=>?_;clear z
 refine iz (best FL gb UR) fun kb sb aaY=>?_
 refine Fn.mono (fo W H4 an ad L kvs pt bb (N2.ext e4) PT bf kb) (fun d H6 z=>?_) fun _ _ z=>z.elim
 refine VU (d0:=d) z fun afR right e6 dR FR=>?_;clear z
 have dL6:=e6.dict dL
 refine ag (Pe.ev (aa rfl) ?_) (.inl rfl)
 have hT:∀v,bJ pt a v↔bJ pt u v:=fun v=>⟨fun h=>sa.trans h,fun h=>sa.symm.trans h⟩
 have hT2:∀v,bJ pt bb v↔bJ pt u v:=fun v=>⟨fun h=>(sa.trans sb).trans h,fun h=>(sa.trans sb).symm.trans h⟩
 have gL:∀v,aJ kvs v→bJ pt u v→aF left v=some (.int (ds pt v a)):=fun v k1 k2=>(FL.at_ v _).mpr ⟨k1,(hT v).mpr k2,by rw[gj]⟩
 have gR:∀v,aJ kvs v→bJ pt u v→aF right v=some (.int (ds pt v bb)):=fun v k1 k2=>(FR.at_ v _).mpr ⟨k1,(hT2 v).mpr k2,by rw[gj]⟩
 have szL:=FL.size
 refine ct O (bD R.handled (cj W.ok (cg W) (Pe.ev (aa rfl) (cK W.ok R.handled dL6 (R8 bf szL) fun mJ oR aX mH pm pw=>⟨mJ,_,rfl,ai.same _ _ _ _,fun i m' H'=>H'=H6.set mJ ⟨oR,.list (aX.map V.int)⟩∧m' (Str.ofString "left")=some (.ref afL)∧m' (Str.ofString "right")=some (.ref afR)∧∃x:Int,m' (Str.ofString "best")=some (.int x)∧aJ kvs x∧bJ pt u x∧(∀(j:Nat) (v:Int),j<i→aX[j]?=some v→max (ds pt x a) (ds pt x bb)≤max (ds pt v a) (ds pt v bb))∧∀(j:Nat) (v:Int),j<i→aX[j]?=some v→max (ds pt v a) (ds pt v bb)=max (ds pt x a) (ds pt x bb)→v≤x,⟨rfl,rfl,rfl,a,rfl,ka,sa,fun j v hj=>absurd hj (jb),fun j v hj=>absurd hj (jb)⟩,?_,?_⟩)))) (.inl rfl)
 ·rintro i d m' H' kp hd ID _;refine q78 ID fun x FT ml mr mx kx sx h1 h2=>?_;clear ID;obtain rfl:=FT
  refine q2 (aI hd) fun v hv FQ=>?_;obtain rfl:=FQ
  have hvk:v∈left.map (·.1):=pm.mem_iff.mp (List.mem_of_getElem? hv)
  refine q4 (iO hvk) fun dv gv=>?_
  refine iz ((FL.at_ v dv).mp gv) fun kv sv' _=>?_
  have sv:=(hT v).mp sv'
  have dL7:=dL6.fresh (x:=⟨oR,.list (aX.map V.int)⟩) mH
  have dR7:=dR.fresh (x:=⟨oR,.list (aX.map V.int)⟩) mH
  refine aL (aH (iQ W.ok (gB W) (aj (aa ml) (aa rfl) (aT dL7 (gL v kv sv))) (aj (aa mr) (aa rfl) (aT dR7 (gR v kv sv))) (nH R.handled)) (iQ W.ok (gB W) (aj (aa ml) (aa mx) (aT dL7 (gL x kx sx))) (aj (aa mr) (aa mx) (aT dR7 (gR x kx sx))) (nH R.handled)) xA decide_eq_true_iff) (fun g=>?_) (fun g=>?_)
  ·refine ag (Pe.ev (aa rfl) (aO ⟨⟨rfl,ml,mr,v,rfl,kv,sv,fun j w hj hw=>?_,fun j w hj hw _=>?_⟩,fun _ _=>rfl⟩)) (.inl rfl)
   ·by_cases e:j=i
    ·subst e;rw[hv] at hw;injection hw with hw;subst hw;exact Nat.le_refl _
    ·have:=h1 j w (fm hj e) hw;exact RZ g this
   ·by_cases e:j=i
    ·subst e;rw[hv] at hw;injection hw with hw;exact RY hw
    ·refine q4 (List.getElem?_eq_some_iff.mp hw) fun l1 q1=>?_
     refine q4 (List.getElem?_eq_some_iff.mp hv) fun l2 q2=>?_
     have:=List.pairwise_iff_getElem.mp pw j i l1 l2 (fm hj e)
     exact Bg q1 q2 this
  ·refine aO ⟨⟨rfl,ml,mr,x,mx,kx,sx,fun j w hj hw=>?_,fun j w hj hw q=>?_⟩,fun _ _=>rfl⟩
   ·by_cases e:j=i
    ·subst e;rw[hv] at hw;injection hw with hw;subst hw;exact RX g
    ·exact h1 j w (fm hj e) hw
   ·by_cases e:j=i
    ·subst e;rw[hv] at hw;injection hw with hw;subst hw;exact RW g q
    ·exact h2 j w (fm hj e) hw q
 ·rintro m' H' IC _;refine q78 IC fun x FO ml mr mx kx sx h1 h2=>?_;clear IC;obtain rfl:=FO
  refine aK (Pe.ev (aa mx) (eH _ _ ⟨x,fun v=>max (ds pt v a) (ds pt v bb),rfl,aC.set (e1.trans (e2.trans (e4.trans e6))) mH,kx,sx,fun v kv sv=>⟨?_,fun w kw sw=>?_⟩,fun v kv sv=>?_⟩))
  ·by_cases q:ds pt v a≤ds pt v bb
   ·exact⟨bb,kb,sa.trans sb,by dsimp only;exact RV q⟩
   ·exact⟨a,ka,sa,by dsimp only;exact RU q⟩
  ·exact GX (T:=fun z=>aJ kvs z∧bJ pt u z) ⟨hu,PT.self hu⟩ ⟨ka,sa⟩ ⟨kb,sa.trans sb⟩ (fun z hz=>aa0 z hz.1 hz.2) (fun z hz=>aaY z hz.1 ((hT z).mpr hz.2)) ⟨kv,sv⟩ ⟨kw,sw⟩
  ·have hm:v∈aX:=pm.mem_iff.mpr (List.mem_map.mpr ⟨_,fL (gL v kv sv),rfl⟩)
   refine q4 (List.getElem?_of_mem hm) fun j e=>?_
   have lt:j<(aX.map V.int).length:=by rw[List.length_map];exact(List.getElem?_eq_some_iff.mp e).1
   exact⟨h1 j v lt e,h2 j v lt e⟩
theorem pc:my (KK P) 287:=⟨by kernel_rfl,by kernel_rfl,by kernel_rfl,by kernel_rfl,by kernel_rfl⟩
theorem gS:findIn (KK P) (.ref 287) (Str.ofString "bound")=some none:=by kernel_rfl
theorem bY:findIn (KK P) (.ref 287) (Str.ofString "held")=some none:=by kernel_rfl
theorem jU:findIn (KK P) (.ref 287) (Str.ofString "coming")=some none:=by kernel_rfl
theorem uT:takerIn (KK P) 287 (Str.ofString "bound")=some none:=by kernel_rfl
theorem ry:takerIn (KK P) 287 (Str.ofString "held")=some none:=by kernel_rfl
theorem fx:takerIn (KK P) 287 (Str.ofString "coming")=some none:=by kernel_rfl
noncomputable def pk(b h n:V):List (Str×V):=[(Str.ofString "bound",b),(Str.ofString "held",h),(Str.ofString "coming",n)]
theorem gP(b h n:V):(pk b h n).lookup (Str.ofString "bound")=some b:=rfl
theorem bX(b h n:V):(pk b h n).lookup (Str.ofString "held")=some h:=rfl
theorem jS(b h n:V):(pk b h n).lookup (Str.ofString "coming")=some n:=rfl
theorem iH{fs:List (Str×V)}{n:Str}{d:V}(h:fs.lookup n=none)(y:Str):(fs++[(n,d)]).lookup y=if y=n then some d else fs.lookup y:=by
 induction fs with
 | nil=>
  by_cases e:y=n
  ·subst e;simp
  ·rw[if_neg e];simp only[List.nil_append,List.lookup_cons,beq_false_of_ne e,List.lookup_nil]
 | cons p r ih=>
  rw[List.lookup_cons] at h
  by_cases q:n=p.1
  ·rw[q] at h;simp at h
  rw[beq_false_of_ne q] at h
  rw[List.cons_append,List.lookup_cons,List.lookup_cons]
  by_cases e:y=p.1
  ·have:¬y=n:=fun z=>q (z▸e)
   rw[if_neg this,e];simp
  ·rw[beq_false_of_ne e];exact ih h
theorem pg(b h n h':V)(y:Str):(pk b h' n).lookup y=if y=Str.ofString "held" then some h' else(pk b h n).lookup y:=by
 by_cases e1:y=Str.ofString "bound"
 ·subst e1;rfl
 ·by_cases e2:y=Str.ofString "held"
  ·subst e2;rfl
  ·rw[if_neg e2];unfold pk;simp only[List.lookup_cons,beq_false_of_ne e1,beq_false_of_ne e2]
theorem dV(b h n n':V)(y:Str):(pk b h n').lookup y=if y=Str.ofString "coming" then some n' else(pk b h n).lookup y:=by
 by_cases e1:y=Str.ofString "bound"
 ·subst e1;rfl
 ·by_cases e2:y=Str.ofString "held"
  ·subst e2;rfl
  ·by_cases e3:y=Str.ofString "coming"
   ·subst e3;rfl
   ·rw[if_neg e3];unfold pk;simp only[List.lookup_cons,beq_false_of_ne e1,beq_false_of_ne e2,beq_false_of_ne e3]
structure bc(H:AH)(x dx hd:Addr)(b n:Int)(kvs:List (Int×V)):Prop where
 i:cq H x 287 dx (pk (.int b) (.ref hd) (.int n))
 d:ax H hd kvs
theorem bc.ext{H H':AH}{x dx hd:Addr}{b n:Int}{kvs:List (Int×V)}(p:bc H x dx hd b n kvs)(e:aC H H'):bc H' x dx hd b n kvs:=⟨p.i.ext e,e.dict p.d⟩
theorem bc.some_x{H:AH}{x dx hd:Addr}{b n:Int}{kvs:List (Int×V)}(p:bc H x dx hd b n kvs):H x≠none∧H dx≠none∧H hd≠none:=by
 obtain⟨⟨⟨o,a⟩,od,b⟩,oh,d⟩:=p
 exact⟨by rw[a];exact fun z=>(nomatch z),by rw[b];exact fun z=>(nomatch z),by rw[d];exact fun z=>(nomatch z)⟩
theorem mU(W:Lw c (KK P) sc ns)(H:AH)(i:Int):Fn c 1 (.ref 169) [.int i] H (fun d' H'=>d'=.bool true∧H'=H) (fun _ _=>False):=by
 refine aV W.ok.lim (W.kx 169 _ rfl) rfl rfl (codeRec_of W.kx rfl) rfl (names:=["thing"]) (eK rfl fun _=>rfl) rfl (by decide) (fun n=>hU (.inl rfl)) rfl rfl rfl fun A L bK hE R O=>?_
 exact aK (Pe.ev (Pb.pe (oF (gH W.ok (bW W) (wJ W) (aa rfl) Ca) fun _=>oE (w8 (gH W.ok (bW W) (sy W) (aa rfl) mA))) (by simp)) ⟨rfl,rfl⟩)
theorem xU(W:Lw c (KK P) sc ns)(H:AH)(x dx:Addr)(b:Int)(I:cq H x 287 dx [])(h0:0≤b)(h1:b≤1000):
  Fn c 2 (.ref 190) [.ref x,.int b] H (fun d H'=>d=.none∧∃hd,H hd=none∧bc H' x dx hd b 0 []∧∀a,a≠dx→H a≠none→H' a=H a) (fun _ _=>False):=by
 refine aV W.ok.lim (W.kx 190 _ rfl) rfl rfl (codeRec_of W.kx rfl) rfl (names:=["self","bound"]) (cR rfl fun _ _=>rfl) rfl (by decide) (fun n=>eI (.inl rfl) (.inl rfl)) rfl rfl rfl fun A L bK hE R O=>?_
 refine aL (fN (bg (gG (jv (P:=True) (gw W.ok (W.glob rfl) (W.kx 169 _ rfl) rfl R O.frames (aa rfl) (mU W _ _)) (by simp))) fun _=>bg (aH (aa rfl) ae oO decide_eq_true_iff) fun _=>bg (aH (aa rfl) (w7 W.ok (W.glob rfl)) jw decide_eq_true_iff) fun _=>dm)) (fun g=>?_) (fun _=>?_)
 ·exfalso
  rcases g with g | g | g | g
  ·exact g trivial
  ·exact Bm h0 g
  ·exact RT h1 g
  ·exact g
 have na:=I.apart
 refine c8 W.kx pc (Pe.ev (aa rfl) (Pe.ev (aa rfl) ⟨x,dx,[],[(Str.ofString "bound",.int b)],rfl,I,by decide,fun y=>iH (fs:=[]) rfl y,fun od=>?_⟩)) uT
 have I1:cq (H.set dx ⟨od,.attrs [(Str.ofString "bound",.int b)]⟩) x 287 dx [(Str.ofString "bound",.int b)]:=by
  refine q3 I fun FN _=>?_;clear I;obtain⟨o,a⟩:=FN
  exact⟨⟨o,(bj _ _ na).trans a⟩,od,b9 _ _ _⟩
 have e1:∀a,a≠dx→(H.set dx ⟨od,.attrs [(Str.ofString "bound",.int b)]⟩) a=H a:=fun a ha=>bj _ _ ha
 generalize H.set dx ⟨od,.attrs [(Str.ofString "bound",.int b)]⟩=H1 at I1 e1 ⊢
 refine c8 W.kx pc (fO W.ok fun hd oh hh=>Pe.ev (aa rfl) ⟨x,dx,_,[(Str.ofString "bound",.int b)]++[(Str.ofString "held",.ref hd)],rfl,I1.ext (aC.set (aC.refl _) hh),(by show 1≤1000;decide),fun y=>iH rfl y,fun Gk=>?_⟩) ry
 have xh:x≠hd:=fun e=>by refine q3 I1 fun FK _=>?_;clear I1;obtain⟨o,a⟩:=FK;rw[e,hh] at a;cases a
 have dh:dx≠hd:=fun e=>by refine qK I1 fun o _ a=>?_;clear I1;rw[e,hh] at a;cases a
 have I2:cq ((H1.set hd ⟨oh,.dict []⟩).set dx ⟨Gk,.attrs ([(Str.ofString "bound",.int b)]++[(Str.ofString "held",.ref hd)])⟩) x 287 dx ([(Str.ofString "bound",.int b)]++[(Str.ofString "held",.ref hd)]):=by
  refine q3 I1 fun FJ _=>?_;clear I1;obtain⟨o,a⟩:=FJ
  exact⟨⟨o,(bj _ _ na).trans ((bj _ _ xh).trans a)⟩,Gk,b9 _ _ _⟩
 have D2:ax ((H1.set hd ⟨oh,.dict []⟩).set dx ⟨Gk,.attrs ([(Str.ofString "bound",.int b)]++[(Str.ofString "held",.ref hd)])⟩) hd []:=(ax.same _ _ _ _).ne dh.symm
 have e2:∀a,a≠dx→H1 a≠none→((H1.set hd ⟨oh,.dict []⟩).set dx ⟨Gk,.attrs ([(Str.ofString "bound",.int b)]++[(Str.ofString "held",.ref hd)])⟩) a=H1 a:=fun a ha hn=>(bj _ _ ha).trans (bj _ _ fun e=>hn (e▸hh))
 generalize (H1.set hd ⟨oh,.dict []⟩).set dx ⟨Gk,.attrs ([(Str.ofString "bound",.int b)]++[(Str.ofString "held",.ref hd)])⟩=H2 at I2 D2 e2 ⊢
 refine c8 W.kx pc (Pe.ev ae (Pe.ev (aa rfl) ⟨x,dx,_,[(Str.ofString "bound",.int b)]++[(Str.ofString "held",.ref hd)]++[(Str.ofString "coming",.int 0)],rfl,I2,(by show 2≤1000;decide),fun y=>iH rfl y,fun od3=>?_⟩)) fx
 refine aO ⟨rfl,hd,?_,⟨?_,D2.ne dh.symm⟩,fun a ha hn=>?_⟩
 ·by_cases q:H hd=none
  ·exact q
  ·exact absurd hh (by rw[e1 hd dh.symm];exact q)
 ·refine q3 I2 fun FI _=>?_;clear I2;obtain⟨o,a⟩:=FI
  exact⟨⟨o,(bj _ _ na).trans a⟩,od3,b9 _ _ _⟩
 ·rw[bj _ _ ha,e2 a ha (by rw[e1 a ha];exact hn),e1 a ha]
theorem oK(W:Lw c (KK P) sc ns){f:Fx}{m:bL}{H:AH}{X:Value→AH→Prop}{Q:V→AH→Prop}{e:Expr}{b:Int}{p₁ p:Pos}(R:bw 3 f.A)(pW:f.A.frames=some f.bK)(he:Pe c f e m H (.int b))(h0:0≤b)(h1:b≤1000)
  (q:∀x dx hd H',aC H H'→H x=none→H dx=none→H hd=none→bc H' x dx hd b 0 []→Q (.ref x) H')
  (hg:autoParam (f.env.globals=mainGlobals) aR._auto_1) (hb:autoParam (f.env.builtins=builtinsNs) aR._auto_1) (hk:autoParam (f.env.scope.kind=.function) aR._auto_1) (hn:autoParam (f.env.kindOf (Str.ofString "Pack")=some .globalImplicit) aR._auto_1) (ik:autoParam (starEach [e] f.env=(false,eval e f.env)::starEach [] f.env) aR._auto_1) :
  Ev c f (.Call (.Name (Str.ofString "Pack") p₁) [e] [] p) m H Q X:=by
 refine zi W.kx (fI:=190) (k:=2) W.ok (W.glob rfl) R pW (by kernel_rfl) (by kernel_rfl) (by kernel_rfl) (by kernel_rfl) he (fun x dx oi od hx qy de=>?_) hg hb hk hn (by decide) ik
 have I:cq ((H.set dx ⟨od,.attrs []⟩).set x ⟨oi,.inst 287 dx⟩) x 287 dx []:=⟨⟨oi,b9 _ _ _⟩,od,(bj _ _ de.symm).trans (b9 _ _ _)⟩
 have ex:aC H ((H.set dx ⟨od,.attrs []⟩).set x ⟨oi,.inst 287 dx⟩):=aC.upd (aC.set (aC.refl _) qy) hx
 refine Fn.mono (xU W _ x dx b I h0 h1) (fun d H' z=>?_) fun _ _ z=>z.elim
 refine q80 (d0:=d) z fun hd hh pa kp=>?_;clear z
 refine⟨rfl,q x dx hd H' (fun a ha=>?_) hx qy (ex.none hh) pa⟩
 have hna:a≠dx:=fun e=>ha (e▸qy)
 rw[kp a hna (by rw[ex a ha];exact ha),ex a ha]
theorem yR:findIn (KK P) (.ref 287) (Str.ofString "need")=some (some (.ref 197)):=by kernel_rfl
theorem yN:typeIn (KK P) (.ref 197)=some (.type "function"):=by kernel_rfl
theorem xR(W:Lw c (KK P) sc ns)(H:AH)(x dx hd:Addr)(b n k:Int)(kvs:List (Int×V))(PA:bc H x dx hd b n kvs)(hk:aJ kvs k):
  Fn c 2 (.ref 197) [.ref x,.int k] H (fun d H'=>d=.none∧H'=H) (fun _ _=>False):=by
 refine aV W.ok.lim (W.kx 197 _ rfl) rfl rfl (codeRec_of W.kx rfl) rfl (names:=["self","number"]) (cR rfl fun _ _=>rfl) rfl (by decide) (fun n=>eI (.inl rfl) (.inl rfl)) rfl rfl rfl fun A L bK hE R O=>?_
 refine aL (fN (bg (gG (jv (P:=True) (gw W.ok (W.glob rfl) (W.kx 169 _ rfl) rfl R O.frames (aa rfl) (mU W _ _)) (by simp))) fun _=>bg (P:=False) (aH (aa rfl) (bA W.kx pc (aa rfl) PA.i (bX _ _ _) bz bY) (oN PA.d) (by rw[aB hk];simp)) fun _=>dm)) (fun g=>?_) (fun _=>?_)
 ·simp at g
 ·exact aO ⟨rfl,rfl⟩
theorem fw(W:Lw c (KK P) sc ns){f:Fx}{m:bL}{H:AH}{X:Value→AH→Prop}{Q:V→AH→Prop}{o e:Expr}{ap p:Pos}{x dx hd:Addr}{b n k:Int}{kvs:List (Int×V)}(R:bw 2 f.A)(pW:f.A.frames=some f.bK)(ho:Pe c f o m H (.ref x))(he:Pe c f e m H (.int k))(PA:bc H x dx hd b n kvs)(hk:aJ kvs k)(q:Q .none H)
  (dA:autoParam (attributeBase o (Str.ofString "need") f.env (eval o f.env)=eval o f.env) aR._auto_1)
  (lV:autoParam (methodCallForm ([e].length+([]:List Keyword).length) (backTo p (starEach [e] f.env)) (backToKw p (keywordEach [] f.env))=true) aR._auto_1)
  (dY:autoParam ((ap.endLine == p.line)=true) aR._auto_1) (ik:autoParam (starEach [e] f.env=(false,eval e f.env)::starEach [] f.env) aR._auto_1):Ev c f (.Call (.Attribute o (Str.ofString "need") ap) [e] [] p) m H Q X:=
 Ht W.kx pc R pW ho PA.i rfl yR yN (W.kx 197 _ rfl) rfl (az (he.ev (bk (Fn.mono (xR W _ x dx hd b n k kvs PA hk) (fun d H' z=>by refine xX (d0:=d) (d1:=H') z ?_;clear z;exact q) fun _ _ z=>z.elim))) ik) dA lV dY ik
theorem p4(W:Lw c (KK P) sc ns):GN c (Str.ofString "reversed") (.type "reversed"):=W.blt rfl (by decide) qd
inductive TxW(kvs:List (Int×V))(tx:Int→List Nat)(rk:Int→Nat)(H:AH)(a hd:Addr)(k:Int)(q:Nat)(m:bL)(H':AH):Prop
 | mk (o:Obj) (pre:List V) (nd:Nat→Int) (x:Int):H'=H.set a ⟨o,.list pre⟩→q=rk x→aJ kvs x→pre.length+rk x≤rk k→nd 0=k→nd pre.length=x→(∀j,j<pre.length→∃at_ gone aS,pre[j]?=some (gE at_ gone aS)∧aJ kvs (nd (j+1))∧aJ kvs (nd j)∧fT (tx (nd (j+1))) (tx (nd j)) at_ gone aS)→m (Str.ofString "held")=some (.ref hd)→m (Str.ofString "number")=some (.int x)→m (Str.ofString "changes")=some (.ref a)→TxW kvs tx rk H a hd k q m H'
theorem lp(W:Lw c (KK P) sc ns)(H:AH)(hd:Addr)(k:Int)(kvs:List (Int×V))(tx:Int→List Nat)(rk:Int→Nat)(DD:ax H hd kvs)(E:bh kvs tx rk)(hk:aJ kvs k):
  Fn c 2 (.ref 176) [.ref hd,.int k] H (fun d H'=>d=.s (tx k)∧H'=H) (fun _ _=>False):=by
 have hs:1000000≤sizeLine:=by decide
 refine Fn.of_ext (Fn.mono (Q:=fun d H'=>aC H H'∧d=.s (tx k)) (X:=fun _ _=>False) ?_ (fun d H' z=>⟨z.1,z.2,rfl⟩) fun _ _ z=>z.elim)
 refine aV W.ok.lim (W.kx 176 _ rfl) rfl rfl (codeRec_of W.kx rfl) rfl (names:=["held","number"]) (cR rfl fun _ _=>rfl) rfl (by decide) (fun n=>eI (.inl rfl) (.inl rfl)) rfl rfl rfl fun A L bK hE R O=>?_
 refine ag (cw W.ok (bk ⟨Nat.zero_le _,fun a o ha=>?_⟩)) (.inl rfl)
 have hda:hd≠a:=DD.ne_new ha
 refine hB O (TxW kvs tx rk H a hd k) (rk k)
  ⟨o,[],fun _=>k,k,rfl,rfl,hk,by simp,rfl,rfl,fun j hj=>absurd hj (by simp),rfl,rfl,rfl⟩ ?_
 rintro q m' H' XA;obtain⟨o,pre,nd,x,rfl,rfl,kx,hlen,n0,nx,steps,mh,mn,mc⟩:=XA
 have VE:ax (H.set a ⟨o,.list pre⟩) hd kvs:=DD.ne hda
 have la:ai (H.set a ⟨o,.list pre⟩) a pre:=ai.same _ _ _ _
 have ex:aC H (H.set a ⟨o,.list pre⟩):=aC.set (aC.refl _) ha
 have low:=E.low k
 have ent:=E.ent x _ (aB kx)
 have gp:=aB kx
 have two:∀ {u v:V},aE kvs x=.tup [u,v]→aF kvs x=some (.tup [u,v]):=fun e=>by rw[gp,e]
 have G0:∀ {u v:V} {f:Fx},G2 c f (H.set a ⟨o,.list pre⟩) (.tup [u,v]) (.int 0) u:=fun {u v f}=>bB (j:=0) rfl rfl (by decide)
 have G1:∀ {u v:V} {f:Fx},G2 c f (H.set a ⟨o,.list pre⟩) (.tup [u,v]) (.int 1) v:=fun {u v f}=>bB (j:=1) rfl rfl (by decide)
 generalize qz:aE kvs x=d0 at ent two
 cases ent with
 | root=>
  have gx:=two rfl
  refine Ts.mono (bq (aj (aj (aa mh) (aa mn) (aT VE gx)) ae G0)) (fun t d8 CI=>q3 CI fun e r=>?_) fun _ _ z=>z.elim
  subst e
  refine⟨fun ht=>(r.mp ht rfl).elim,fun _=>?_⟩
  refine ag (Pe.ev (aj (aj (aa mh) (aa mn) (aT VE gx)) ae G1) ?_) (.inl rfl)
  refine ct O (xw R.handled ((bF W.ok (p4 W)).ev ⟨rfl,Pe.ev (aa mc) ⟨a,pre,rfl,la,fun i m2 H2=>H2=H.set a ⟨o,.list pre⟩∧i≤pre.length∧m2 (Str.ofString "text")=some (.s (tx (nd (pre.length-i)))),⟨rfl,Nat.zero_le _,by rw[Nat.sub_zero,nx];rfl⟩,?_,?_⟩⟩)) (.inl rfl)
  ·rintro i d m2 H2 kp dz IB _;refine iz IB fun FH hi mt=>?_;clear IB;obtain rfl:=FH
   have fQ:=(List.getElem?_eq_some_iff.mp dz).1
   rw[List.length_reverse] at fQ
   rw[List.getElem?_reverse fQ] at dz
   obtain⟨at_,gone,aS,e1,k1,k2,st⟩:=steps (pre.length-1-i) (ni fQ)
   rw[e1] at dz;injection dz with dz;subst dz
   rw[show pre.length-1-i+1=pre.length-i by exact RS fQ] at st k1
   have s1:=E.short _ k1
   have s2:=E.short _ k2
   have g1:=st.gone_le
   have g2:=st.come_le
   refine ag (Pe.ev (kJ W.ok (W.glob rfl) (W.kx 106 _ rfl) rfl R O.frames (aa mt) (aa rfl) (qH W _ _ gone aS at_ st.h0 st.h1 st.fit (eX s1) (Bf s2 g2) (Bf s1 g1))) (aO ⟨⟨rfl,by exact vx fQ,?_⟩,fun _ _=>rfl⟩)) (.inl rfl)
   rw[show pre.length-(i+1)=pre.length-1-i by exact pC,st.new];rfl
  ·rintro m2 H2 Iz _;refine iz Iz fun FG hi mt=>?_;clear Iz;obtain rfl:=FG
   rw[List.length_reverse,Nat.sub_self,n0] at mt
   exact aK (Pe.ev (aa mt) ⟨ex,rfl⟩)
 | lean b at_ gone aS hb cA st=>
  have gx:=two rfl
  refine Ts.mono (bq (aj (aj (aa mh) (aa mn) (aT VE gx)) ae G0)) (fun t d8 CH=>q3 CH fun e r=>?_) fun _ _ z=>z.elim
  subst e
  refine⟨fun _=>?_,fun ht=>?_⟩
  ·refine ed (aa mc) (aj (aj (aa mh) (aa mn) (aT VE gx)) ae G1) la (RQ hs hlen low) (fun o'=>?_)
   have DD2:ax ((H.set a ⟨o,.list pre⟩).set a ⟨o',.list (pre++[gE at_ gone aS])⟩) hd kvs:=VE.ne hda
   refine ag (Pe.ev (aj (aj (aa mh) (aa mn) (aT DD2 gx)) ae (bB (j:=0) rfl rfl (by decide))) (aO ⟨rk b,cA,o',pre++[gE at_ gone aS],fun j=>if j=pre.length+1 then b else nd j,b,AH.set_set _ _ _ _,rfl,hb,by simp;exact vQ hlen cA,?_,?_,fun j hj=>?_,mh,rfl,mc⟩)) (.inl rfl)
   ·rw[if_neg (RP)];exact n0
   ·rw[List.length_append];simp
   ·rw[List.length_append] at hj
    have hj:j<pre.length+1:=by simpa using hj
    by_cases q:j=pre.length
    ·subst q
     refine⟨at_,gone,aS,by simp,?_⟩
     rw[if_pos rfl,if_neg (RO),nx]
     exact⟨hb,kx,st⟩
    ·obtain⟨at',U0,Vg,e1,k1,k2,uB⟩:=steps j (fm hj q)
     refine⟨at',U0,Vg,by rw[List.getElem?_append_left (fm hj q)];exact e1,?_⟩
     rw[if_neg (RN q),if_neg (RM hj)]
     exact⟨k1,k2,uB⟩
  ·rw[r.mpr (fun z=>nomatch z)] at ht;cases ht
theorem gf:findIn (KK P) (.ref 287) (Str.ofString "read")=some (some (.ref 211)):=by kernel_rfl
theorem gc:typeIn (KK P) (.ref 211)=some (.type "function"):=by kernel_rfl
theorem sG:findIn (KK P) (.ref 287) (Str.ofString "base")=some (some (.ref 218)):=by kernel_rfl
theorem sD:typeIn (KK P) (.ref 218)=some (.type "function"):=by kernel_rfl
theorem g6:findIn (KK P) (.ref 287) (Str.ofString "chain")=some (some (.ref 225)):=by kernel_rfl
theorem gZ:typeIn (KK P) (.ref 225)=some (.type "function"):=by kernel_rfl
theorem md:findIn (KK P) (.ref 287) (Str.ofString "numbers")=some (some (.ref 232)):=by kernel_rfl
theorem l7:typeIn (KK P) (.ref 232)=some (.type "function"):=by kernel_rfl
theorem fH:findIn (KK P) (.ref 287) (Str.ofString "bases")=some (some (.ref 239)):=by kernel_rfl
theorem fG:typeIn (KK P) (.ref 239)=some (.type "function"):=by kernel_rfl
theorem ow:findIn (KK P) (.ref 287) (Str.ofString "rows")=some (some (.ref 244)):=by kernel_rfl
theorem om:typeIn (KK P) (.ref 244)=some (.type "function"):=by kernel_rfl
theorem ue:findIn (KK P) (.ref 287) (Str.ofString "weight")=some (some (.ref 251)):=by kernel_rfl
theorem tZ:typeIn (KK P) (.ref 251)=some (.type "function"):=by kernel_rfl
theorem dp{d:V}(h:d=.none):∀h v,Is h d v→∀a,v≠.ref a:=fun _ v i a e=>by subst h;rw[aG i] at e;exact nomatch e
theorem fU(W:Lw c (KK P) sc ns)(H:AH)(x dx hd:Addr)(b n k:Int)(kvs:List (Int×V))(tx:Int→List Nat)(rk:Int→Nat)(PA:bc H x dx hd b n kvs)(E:bh kvs tx rk)(hk:aJ kvs k):
  Fn c 3 (.ref 211) [.ref x,.int k] H (fun d H'=>d=.s (tx k)∧H'=H) (fun _ _=>False):=by
 refine aV W.ok.lim (W.kx 211 _ rfl) rfl rfl (codeRec_of W.kx rfl) rfl (names:=["self","number"]) (cR rfl fun _ _=>rfl) rfl (by decide) (fun n=>eI (.inl rfl) (.inl rfl)) rfl rfl rfl fun A L bK hE R O=>?_
 refine cv (fw W R O.frames (aa rfl) (aa rfl) PA hk ⟨dp rfl,?_⟩)
 exact aK (Pe.ev (kJ W.ok (W.glob rfl) (W.kx 176 _ rfl) rfl R O.frames (bA W.kx pc (aa rfl) PA.i (bX _ _ _) bz bY) (aa rfl) (lp W H hd k kvs tx rk PA.d E hk)) ⟨rfl,rfl⟩)
theorem eF{c:Cx}{f:Fx}{H:AH}{kvs:List (Int×V)}{tx:Int→List Nat}{rk:Int→Nat}{k:Int}(E:bh kvs tx rk)(hk:aJ kvs k):G2 c f H (aE kvs k) (.int 0) (aP (aE kvs k))∧G2 c f H (aE kvs k) (.int 1) (je (aE kvs k)):=by
 have e:=E.MF (aB hk)
 generalize aE kvs k=d at e ⊢
 constructor
 ·have:G2 c f H (.tup [aP d,je d]) (.int 0) (aP d):=bB (j:=0) rfl rfl (by decide)
  rwa [← e] at this
 ·have:G2 c f H (.tup [aP d,je d]) (.int 1) (je d):=bB (j:=1) rfl rfl (by decide)
  rwa [← e] at this
theorem rA(W:Lw c (KK P) sc ns)(H:AH)(x dx hd:Addr)(b n k:Int)(kvs:List (Int×V))(tx:Int→List Nat)(rk:Int→Nat)(PA:bc H x dx hd b n kvs)(E:bh kvs tx rk)(hk:aJ kvs k):
  Fn c 3 (.ref 218) [.ref x,.int k] H (fun d H'=>d=aP (aE kvs k)∧H'=H) (fun _ _=>False):=by
 refine aV W.ok.lim (W.kx 218 _ rfl) rfl rfl (codeRec_of W.kx rfl) rfl (names:=["self","number"]) (cR rfl fun _ _=>rfl) rfl (by decide) (fun n=>eI (.inl rfl) (.inl rfl)) rfl rfl rfl fun A L bK hE R O=>?_
 refine cv (fw W R O.frames (aa rfl) (aa rfl) PA hk ⟨dp rfl,?_⟩)
 exact aK (Pe.ev (aj (aj (bA W.kx pc (aa rfl) PA.i (bX _ _ _) bz bY) (aa rfl) (aT PA.d (aB hk))) ae (eF E hk).1) ⟨rfl,rfl⟩)
theorem lA(W:Lw c (KK P) sc ns)(H:AH)(x dx hd:Addr)(b n:Int)(kvs:List (Int×V))(PA:bc H x dx hd b n kvs)(bf:kvs.length≤40):
  Fn c 1 (.ref 232) [.ref x] H (fun d H'=>∃a aX,d=.ref a∧aC H H'∧H a=none∧fR kvs aX∧ai H' a (aX.map V.int)) (fun _ _=>False):=by
 refine aV W.ok.lim (W.kx 232 _ rfl) rfl rfl (codeRec_of W.kx rfl) rfl (names:=["self"]) (eK rfl fun _=>rfl) rfl (by decide) (fun n=>hU (.inl rfl)) rfl rfl rfl fun A L bK hE R O=>?_
 exact aK (cj W.ok (cg W) (Pe.ev (bA W.kx pc (aa rfl) PA.i (bX _ _ _) bz bY) (cK W.ok R.handled PA.d (m8 bf) fun a o aX ha pm pw=>⟨a,aX,rfl,aC.set (aC.refl _) ha,ha,⟨pm,pw⟩,ai.same _ _ _ _⟩)))
theorem oz(kvs:List (Int×V))(aX:List Int):bases (heldOf kvs aX)=aX.map fun k=>(k,aP (aE kvs k)):=by unfold bases heldOf;rw[List.map_map];rfl
theorem fz(W:Lw c (KK P) sc ns)(H:AH)(x dx hd:Addr)(b n:Int)(kvs:List (Int×V))(tx:Int→List Nat)(rk:Int→Nat)(PA:bc H x dx hd b n kvs)(E:bh kvs tx rk):
  Fn c 1 (.ref 239) [.ref x] H (fun d H'=>∃a aX,d=.ref a∧aC H H'∧H a=none∧fR kvs aX∧ax H' a (bases (heldOf kvs aX))) (fun _ _=>False):=by
 have hs:1000000≤sizeLine:=by decide
 have bf:=E.bf
 refine Fn.gen fun QQ eH=>?_
 refine aV W.ok.lim (W.kx 239 _ rfl) rfl rfl (codeRec_of W.kx rfl) rfl (names:=["self"]) (eK rfl fun _=>rfl) rfl (by decide) (fun n=>hU (.inl rfl)) rfl rfl rfl fun A L bK hE R O=>?_
 refine ag (fO W.ok fun af oa ha=>?_) (.inl rfl)
 have sT:=PA.ext (aC.set (x:=⟨oa,.dict []⟩) (aC.refl _) ha)
 refine ct O (bD R.handled (cj W.ok (cg W) (Pe.ev (bA W.kx pc (aa rfl) sT.i (bX _ _ _) bz bY) (cK W.ok R.handled sT.d (m8 bf) fun mJ oR aX mH pm pw=>⟨mJ,_,rfl,ai.same _ _ _ _,fun i m' H'=>aC H H'∧ax H' af ((aX.take i).map fun k=>(k,aP (aE kvs k)))∧m' (Str.ofString "self")=some (.ref x)∧m' (Str.ofString "found")=some (.ref af),⟨aC.set (aC.set (aC.refl _) ha) mH,(ax.same _ _ _ _).fresh mH,rfl,rfl⟩,?_,?_⟩)))) (.inl rfl)
 ·rintro i d m' H' kp dz Iy tr;refine uD Iy fun ex df ms mf=>?_;clear Iy
  refine q2 (aI dz) fun k hk FF=>?_;obtain rfl:=FF
  have S:fR kvs aX:=⟨pm,pw⟩
  have kk:=S.mem.mp (List.mem_of_getElem? hk)
  have eZ:=PA.ext ex
  have afs:af≠mJ:=(ax.same H af oa []).ne_new mH
  refine bl (Pe.ev (aj (aj (bA W.kx pc (aa ms) eZ.i (bX _ _ _) bz bY) (aa rfl) (aT eZ.d (aB kk))) ae (eF E kk).1) (Pe.ev (aa mf) (Pe.ev (aa rfl) ⟨af,_,k,rfl,rfl,df,by have:=S.len;simp;exact Be hs bf this,fun o'=>?_⟩)))
  rw[cc (by rw[iX];exact iV (S.nd E.nd) hk)]
  refine aO ⟨⟨aC.upd ex ha,by rw[List.take_add_one,hk,List.map_append];exact ax.same _ _ _ _,ms,mf⟩,fun y hy=>?_⟩
  rw[List.mem_singleton] at hy;subst hy
  rw[bj _ _ afs.symm];exact tr _ (.head _)
 ·rintro m' H' Iw _;refine uD Iw fun ex df ms mf=>?_;clear Iw
  rw[List.take_of_length_le (by simp)] at df
  exact aK (Pe.ev (aa mf) (eH _ _ ⟨af,aX,rfl,ex,ha,⟨pm,pw⟩,by rw[oz];exact df⟩))
theorem bh.heldOf{kvs:List (Int×V)}{tx:Int→List Nat}{rk:Int→Nat}(E:bh kvs tx rk){aX:List Int}(S:fR kvs aX):bh (heldOf kvs aX) tx rk:=
 E.dj (fun k=>(iP S k).symm) (by rw[dr];exact S.nd E.nd) (by unfold Mine.heldOf;rw[List.length_map,S.len];exact E.bf)
theorem cB{kvs:List (Int×V)}{aX:List Int}(S:fR kvs aX):dS (heldOf kvs aX) kvs:=iP S
theorem gN(W:Lw c (KK P) sc ns)(H:AH)(x dx hd:Addr)(b n k:Int)(kvs:List (Int×V))(tx:Int→List Nat)(rk:Int→Nat)(PA:bc H x dx hd b n kvs)(E:bh kvs tx rk)(hk:aJ kvs k):
  Fn c 3 (.ref 225) [.ref x,.int k] H (fun d H'=>∃a xs,d=.ref a∧aC H H'∧H a=none∧ai H' a (xs.map V.int)∧av (bases kvs) k xs∧xs.length≤50) (fun _ _=>False):=by
 refine aV W.ok.lim (W.kx 225 _ rfl) rfl rfl (codeRec_of W.kx rfl) rfl (names:=["self","number"]) (cR rfl fun _ _=>rfl) rfl (by decide) (fun n=>eI (.inl rfl) (.inl rfl)) rfl rfl rfl fun A L bK hE R O=>?_
 have R1:bw 1 A:=R.le (rQ)
 refine cv (fw W R O.frames (aa rfl) (aa rfl) PA hk ⟨dp rfl,?_⟩)
 refine aK (gK W.ok (W.glob rfl) (W.kx 127 _ rfl) rfl R1 O.frames (hF W.kx pc R1 O.frames (aa rfl) PA.i rfl fH fG (W.kx 239 _ rfl) rfl (Fn.mono (fz W H x dx hd b n kvs tx rk PA E) (fun d H1 z=>?_) fun _ _ z=>z.elim)))
 refine oQ (d0:=d) z fun a aX e1 ha S D=>?_;clear z
 have de:Mine.heldOf kvs aX≠[]:=fun e=>by
  have:=(cB S).key.mpr hk
  rw[e] at this;refine q4 this fun d q=>?_;clear this;cases q
 refine(aa rfl).ev (Fn.mono (fV W H1 a _ rk k (aP (aE kvs k)) D ((E.heldOf S).qD de) (by rw[aN,iP S,aB hk];rfl)) (fun d H2 z=>?_) fun _ _ z=>z.elim)
 refine nR (d0:=d) (d1:=H2) z fun a2 o xs h2 ch xl=>?_;clear z
 exact⟨a2,xs,rfl,aC.set e1 h2,e1.none h2,ai.same _ _ _ _,(cB S).bases.chain ch,xl⟩
theorem nO(W:Lw c (KK P) sc ns)(H:AH)(x dx hd:Addr)(b n:Int)(kvs:List (Int×V))(tx:Int→List Nat)(rk:Int→Nat)(PA:bc H x dx hd b n kvs)(E:bh kvs tx rk):
  Fn c 1 (.ref 244) [.ref x] H (fun d H'=>∃a aX,d=.ref a∧aC H H'∧H a=none∧fR kvs aX∧ai H' a (cX kvs aX)) (fun _ _=>False):=by
 have hs:1000000≤sizeLine:=by decide
 have bf:=E.bf
 refine aV W.ok.lim (W.kx 244 _ rfl) rfl rfl (codeRec_of W.kx rfl) rfl (names:=["self"]) (eK rfl fun _=>rfl) rfl (by decide) (fun n=>hU (.inr ⟨rfl,rfl⟩)) rfl rfl rfl fun A L bK hE R O=>?_
 refine aK (eV W.ok (bD R.handled (cj W.ok (cg W) (Pe.ev (bA W.kx pc (aa rfl) PA.i (bX _ _ _) bz bY) (cK W.ok R.handled PA.d (m8 bf) fun mJ oR aX mH pm pw=>⟨mJ,_,rfl,ai.same _ _ _ _,?_⟩)))) rfl (by decide) rfl (by decide) rfl (mI ⟨rfl,rfl,rfl⟩ qA))
 have S:fR kvs aX:=⟨pm,pw⟩
 have sT:=PA.ext (aC.set (x:=⟨oR,.list (aX.map V.int)⟩) (aC.refl _) mH)
 refine cL (cX kvs aX) (by unfold cX;simp) (by have:=S.len;simp;exact m7 hs bf this) ?_ ?_
 ·intro i d C hE dz
  refine q2 (aI dz) fun k hk FE=>?_;obtain rfl:=FE
  have kk:=S.mem.mp (List.mem_of_getElem? hk)
  refine⟨_,aQ hk,?_⟩
  exact bM (au (aa rfl) (au (aj (aj (bA W.kx pc (aa rfl) sT.i (bX _ _ _) bz bY) (aa rfl) (aT sT.d (aB kk))) ae (eF E kk).1) (au (aj (aj (bA W.kx pc (aa rfl) sT.i (bX _ _ _) bz bY) (aa rfl) (aT sT.d (aB kk))) ae (eF E kk).2) aU))) (cF _ _ _)
 ·intro a o ha
  exact⟨a,aX,rfl,aC.set (aC.set (aC.refl _) mH) ha,(aC.set (x:=⟨oR,.list (aX.map V.int)⟩) (aC.refl _) mH).none ha,S,ai.same _ _ _ _⟩
theorem s8(W:Lw c (KK P) sc ns)(H:AH)(x dx hd:Addr)(b n:Int)(kvs:List (Int×V))(tx:Int→List Nat)(rk:Int→Nat)(PA:bc H x dx hd b n kvs)(E:bh kvs tx rk):
  Fn c 2 (.ref 251) [.ref x] H (fun d H'=>d=.int (iC kvs (kvs.map (·.1)))∧H'=H) (fun _ _=>False):=by
 have hs:1000000≤sizeLine:=by decide
 refine Fn.of_ext (Fn.mono (Q:=fun d H'=>aC H H'∧d=.int (iC kvs (kvs.map (·.1)))) (X:=fun _ _=>False) ?_ (fun d H' z=>⟨z.1,z.2,rfl⟩) fun _ _ z=>z.elim)
 refine aV W.ok.lim (W.kx 251 _ rfl) rfl rfl (codeRec_of W.kx rfl) rfl (names:=["self"]) (eK rfl fun _=>rfl) rfl (by decide) (fun n=>hU (.inl rfl)) rfl rfl rfl fun A L bK hE R O=>?_
 refine ag (Pe.ev ae ?_) (.inl rfl)
 refine ct O (bD R.handled (hF W.kx pc R O.frames (aa rfl) PA.i rfl ow om (W.kx 244 _ rfl) rfl (Fn.mono (nO W H x dx hd b n kvs tx rk PA E) (fun d H1 z=>?_) fun _ _ z=>z.elim))) (.inl rfl)
 refine oQ (d0:=d) z fun a aX e1 ha S l1=>?_;clear z
 refine⟨a,_,rfl,l1,fun i m' H'=>H'=H1∧m' (Str.ofString "total")=some (.int (iC kvs (aX.take i))),⟨rfl,rfl⟩,?_,?_⟩
 ·rintro i d m' H' kp dz ⟨rfl,mt⟩ _
  refine q2 (aI dz) fun k hk FD=>?_;obtain rfl:=FD
  have kk:=S.mem.mp (List.mem_of_getElem? hk)
  have ent:=E.ent k _ (aB kk)
  have sk:=E.short k kk
  have Zo:iC kvs (aX.take (i+1))=iC kvs (aX.take i)+yk (aE kvs k):=by rw[List.take_add_one,hk];exact s6 _ _
  unfold row
  generalize qz:aE kvs k=d0 at ent Zo
  cases ent with
  | root=>
   refine aL (dM (aj (aa rfl) ae (bB (d:=.none) (j:=1) rfl rfl (by decide)))) (fun _=>?_) (fun g=>(g rfl).elim)
   refine ag (Pe.ev (aw (aa mt) (ck W.ok (bu W) (aj (aa rfl) ae (bB (d:=.s (tx k)) (j:=2) rfl rfl (by decide))) (eu (RL hs sk))) bx) (aO ⟨⟨rfl,?_⟩,fun _ _=>rfl⟩)) (.inl rfl)
   rw[Zo];show some (V.int _)=some (V.int (_+((Str.length ⟨(tx k).toArray⟩:Nat):Int)));rw[cE]
  | lean bb at_ gone aS hb cA st=>
   have s1:=E.short _ hb
   have g1:=st.gone_le
   have g2:=st.come_le
   refine aL (dM (aj (aa rfl) ae (bB (d:=.int bb) (j:=1) rfl rfl (by decide)))) (fun g=>nomatch g) (fun _=>?_)
   refine ag (Pe.ev (aw (aw (aa mt) (ck W.ok (bu W) (aj (aj (aa rfl) ae (bB (d:=gE at_ gone aS) (j:=2) rfl rfl (by decide))) ae (bB (d:=.s gone) (j:=1) rfl rfl (by decide))) (eu (Bd hs s1 g1))) bx) (ck W.ok (bu W) (aj (aj (aa rfl) ae (bB (d:=gE at_ gone aS) (j:=2) rfl rfl (by decide))) ae (bB (d:=.s aS) (j:=2) rfl rfl (by decide))) (eu (Bd hs sk g2))) bx) (aO ⟨⟨rfl,?_⟩,fun _ _=>rfl⟩)) (.inl rfl)
   rw[Zo];show some (V.int _)=some (V.int (_+(((Str.length ⟨gone.toArray⟩:Nat):Int)+((Str.length ⟨aS.toArray⟩:Nat):Int))));rw[cE,cE,Int.add_assoc]
 ·rintro m' H' ⟨rfl,mt⟩ _
  rw[List.take_of_length_le (by unfold cX;simp),s7 S.pm] at mt
  exact aK (Pe.ev (aa mt) ⟨e1,rfl⟩)
theorem iN:findIn (KK P) (.ref 287) (Str.ofString "store")=some (some (.ref 204)):=by kernel_rfl
theorem iM:typeIn (KK P) (.ref 204)=some (.type "function"):=by kernel_rfl
noncomputable def dO(H H':AH)(dx hd:Addr):Prop:=∀a,H a≠none→a≠dx→a≠hd→H' a=H a
theorem eT(W:Lw c (KK P) sc ns)(H:AH)(x dx hd:Addr)(b n:Int)(kvs:List (Int×V))(tx:Int→List Nat)(rk:Int→Nat)(l:List Nat)(PA:bc H x dx hd b n kvs)(E:bh kvs tx rk)(bf:kvs.length<40)(hl:l.length≤20000)(hn:¬aJ kvs n)(hb:0≤b):
  Fn c 2 (.ref 204) [.ref x,.s l,.none] H (fun d H'=>d=.int n∧bc H' x dx hd b (n+1) (kvs++[(n,.tup [.none,.s l])])∧dO H H' dx hd) (fun _ _=>False):=by
 have hs:1000000≤sizeLine:=by decide
 refine Fn.gen fun QQ eH=>?_
 refine aV W.ok.lim (W.kx 204 _ rfl) rfl rfl (codeRec_of W.kx rfl) rfl (names:=["self","text","beside"]) (jf rfl fun _ _ _=>rfl) rfl (by decide) (fun n=>lM (.inl rfl) (.inl rfl) (.inl rfl)) rfl rfl rfl fun A L bK hE R O=>?_
 refine ag (Pe.ev (bM (au bS (au (aa rfl) aU)) (by show 2≤sizeLine;exact cH hs)) ?_) (.inl rfl)
 refine aL (bq (aa rfl)) (fun g=>(g rfl).elim) (fun _=>?_)
 refine ag (Pe.ev (bA W.kx pc (aa rfl) PA.i (jS _ _ _) dK jU) ?_) (.inl rfl)
 refine ag (hF W.kx pc R O.frames (aa rfl) PA.i rfl fH fG (W.kx 239 _ rfl) rfl (Fn.mono (fz W H x dx hd b n kvs tx rk PA E) (fun d H1 z=>?_) fun _ _ z=>z.elim)) (.inl rfl)
 refine oQ (d0:=d) z fun a aX e1 ha S D=>?_;clear z
 have qV:n∉(bases (Mine.heldOf kvs aX)).map (·.1):=by rw[cJ,dr];exact fun q=>hn (S.mem.mp q)
 have sl:=S.len
 refine bl (Pe.ev (aa rfl) (Pe.ev (aa rfl) (Pe.ev (aa rfl) ⟨a,_,n,rfl,rfl,D,by unfold bases Mine.heldOf;rw[List.length_map,List.length_map];exact vN bf hs sl,fun o1=>?_⟩)))
 rw[cc qV]
 have e2:aC H (H1.set a ⟨o1,.dict (bases (Mine.heldOf kvs aX)++[(n,.none)])⟩):=aC.upd e1 ha
 have D2:ax (H1.set a ⟨o1,.dict (bases (Mine.heldOf kvs aX)++[(n,.none)])⟩) a (bases (Mine.heldOf kvs aX)++[(n,.none)]):=ax.same _ _ _ _
 generalize H1.set a ⟨o1,.dict (bases (Mine.heldOf kvs aX)++[(n,.none)])⟩=H2 at e2 D2 ⊢
 have eZ:=PA.ext e2
 refine ag (Pe.ev bS ?_) (.inl rfl)
 have E2:bh (Mine.heldOf kvs aX++[(n,.tup [.none,.s l])]) (fun y=>if y=n then l else tx y) rk:=(E.heldOf S).put (by rw[dr];exact fun q=>hn (S.mem.mp q)) (by unfold Mine.heldOf;rw[List.length_map];exact vM bf sl) hl (.inl rfl)
 have eb:bases (Mine.heldOf kvs aX++[(n,.tup [.none,.s l])])=bases (Mine.heldOf kvs aX)++[(n,.none)]:=by unfold bases;rw[List.map_append];rfl
 have wd:oA (bases (Mine.heldOf kvs aX)++[(n,.none)]) rk:=by rw[← eb];exact E2.qD (by simp)
 have g0:aF (bases (Mine.heldOf kvs aX)++[(n,V.none)]) n=some .none:=by rw[bC qV,if_pos rfl]
 refine aL (aH (aw (Pe.of_ext (d:=.int 1) (cj W.ok (bu W) (cy W.ok (W.glob rfl) (W.kx 127 _ rfl) rfl R O.frames (aa rfl) (aa rfl) (Fn.mono (fV W H2 a _ rk n .none D2 wd g0) (fun d H3 z=>?_) fun _ _ z=>z.elim)))) ae dF) (bA W.kx pc (aa rfl) eZ.i (gP _ _ _) dK gS) jw decide_eq_true_iff) (fun g=>absurd g (RI hb)) (fun _=>?_)
 ·refine nR (d0:=d) (d1:=H3) z fun a3 o3 xs h3 ch xl=>?_;clear z
  have hx:xs=[n]:=by
   cases ch with
   | stop _=>rfl
   | step e _=>rw[g0] at e;cases e
  subst hx
  exact(cT (ai.same _ _ _ _) (by show 1≤sizeLine;exact pD hs)).op ⟨rfl,aC.set (aC.refl _) h3⟩
 have tQ:n∉kvs.map (·.1):=fun q=>hn (ay.mpr q)
 refine bl (Pe.ev (aa rfl) (Pe.ev (bA W.kx pc (aa rfl) eZ.i (bX _ _ _) bz bY) (Pe.ev (aa rfl) ⟨hd,kvs,n,rfl,rfl,eZ.d,by exact rP bf hs,fun o4=>?_⟩)))
 rw[cc tQ]
 refine q3 (eZ.i.ne_dict eZ.d) fun n1 n2=>?_
 have I3:=eZ.i.ne (y:=⟨o4,.dict (kvs++[(n,.tup [.none,.s l])])⟩) n1 n2
 have D3:ax (H2.set hd ⟨o4,.dict (kvs++[(n,.tup [.none,.s l])])⟩) hd (kvs++[(n,.tup [.none,.s l])]):=ax.same _ _ _ _
 have k3:∀a,a≠hd→(H2.set hd ⟨o4,.dict (kvs++[(n,.tup [.none,.s l])])⟩) a=H2 a:=fun a h=>bj _ _ h
 generalize H2.set hd ⟨o4,.dict (kvs++[(n,.tup [.none,.s l])])⟩=H3 at I3 D3 k3 ⊢
 refine c8 W.kx pc (Pe.ev (aw (aa rfl) ae bx) (Pe.ev (aa rfl) ⟨x,dx,_,pk (.int b) (.ref hd) (.int (n+1)),rfl,I3,(by show 3≤1000;decide),dV _ _ _ _,fun od=>?_⟩)) fx
 refine aL (bq (aa rfl)) (fun g=>(g rfl).elim) (fun _=>?_)
 refine aK (Pe.ev (aa rfl) (eH _ _ ⟨rfl,⟨?_,D3.ne n2.symm⟩,fun y hy kV qU=>?_⟩))
 ·refine q3 (id I3) fun FC _=>?_;obtain⟨o,q⟩:=FC
  exact⟨⟨o,(bj _ _ I3.apart).trans q⟩,od,b9 _ _ _⟩
 ·rw[bj _ _ kV,k3 y qU,e2 y hy]
theorem kP(W:Lw c (KK P) sc ns)(H:AH)(hd:Addr)(b:Int)(kvs:List (Int×V))(tx:Int→List Nat)(rk:Int→Nat)(D:ax H hd kvs)(E:bh kvs tx rk)(hb:∀k xs,av (bases kvs) k xs→(xs.length:Int)≤b+1):
  Fn c 1 (.ref 298) [.ref hd,.int b] H (fun d H'=>d=.none∧H'=H) (fun _ _=>False):=by
 refine aV W.ok.lim (W.kx 298 _ rfl) rfl rfl (codeRec_of W.kx rfl) rfl (names:=["held","bound"]) (cR rfl fun _ _=>rfl) rfl (by decide) (fun n=>eI (.inl rfl) (.inl rfl)) rfl rfl rfl fun A L bK hE R O=>?_
 refine ct O (dc R.handled (Pe.ev (aa rfl) ⟨hd,kvs,rfl,D,fun i m' H'=>H'=H∧m' (Str.ofString "held")=some (.ref hd)∧m' (Str.ofString "bound")=some (.int b),⟨rfl,rfl,rfl⟩,?_,?_⟩)) (.inl rfl)
 ·rintro i d m' H' kp dz Iv _;refine iz Iv fun FA mh mb=>?_;clear Iv;obtain rfl:=FA
  refine q2 (aI dz) fun Fz hk Fy=>?_;obtain⟨k,dk⟩:=Fz;obtain rfl:=Fy
  have kk:aJ kvs k:=⟨dk,bU E.nd (List.mem_of_getElem? hk)⟩
  refine ag (Pe.ev ae ?_) (.inl rfl)
  refine ag (Pe.ev (aa rfl) ?_) (.inl rfl)
  refine hB (O.kept kp) (fun q m2 H2=>H2=H'∧∃x st:Int,q=rk x∧aJ kvs x∧(∀xs,av (bases kvs) x xs→st+(xs.length:Int)≤b+1)∧m2 (Str.ofString "held")=some (.ref hd)∧m2 (Str.ofString "bound")=some (.int b)∧m2 (Str.ofString "one")=some (.int x)∧m2 (Str.ofString "steps")=some (.int st)) (rk k) ⟨rfl,k,0,rfl,kk,fun xs h=>by have:=hb k xs h;exact RH this,mh,mb,rfl,rfl⟩ ?_
  rintro q m2 H2 Iu;refine q83 (d0:=H2) (d1:=q) Iu fun x st kx hc mh mb mo ms=>?_;clear Iu
  have ent:=E.ent x _ (aB kx)
  have gp:=aB kx
  generalize qz:aE kvs x=d0 at ent gp
  cases ent with
  | root=>
   refine Ts.mono (bq (aj (aj (aa mh) (aa mo) (aT D gp)) ae (bB (d:=.none) (j:=0) rfl rfl (by decide)))) (fun t H3 CG=>q3 CG fun e r=>?_) fun _ _ z=>z.elim
   subst e
   refine⟨fun ht=>(r.mp ht rfl).elim,fun _=>aO ⟨⟨rfl,mh,mb⟩,fun _ _=>rfl⟩⟩
  | lean bb at_ gone aS jq cA VR=>
   refine Ts.mono (bq (aj (aj (aa mh) (aa mo) (aT D gp)) ae (bB (d:=.int bb) (j:=0) rfl rfl (by decide)))) (fun t H3 CF=>q3 CF fun e r=>?_) fun _ _ z=>z.elim
   subst e
   have up:∀xs,av (bases kvs) bb xs→st+1+(xs.length:Int)≤b+1:=fun xs h=>by
    have:=hc (x::xs) (.step (by rw[aN,gp];rfl) h)
    rw[List.length_cons] at this;exact RG this
   refine⟨fun _=>?_,fun ht=>by rw[r.mpr (fun z=>nomatch z)] at ht;cases ht⟩
   refine ag (Pe.ev (aj (aj (aa mh) (aa mo) (aT D gp)) ae (bB (d:=.int bb) (j:=0) rfl rfl (by decide))) ?_) (.inl rfl)
   refine ag (Pe.ev (aw (aa ms) ae bx) ?_) (.inl rfl)
   refine aL (aH (P:=False) (aa rfl) (aa mh) (oN D) (by rw[aB jq];simp)) (fun g=>g.elim) (fun _=>?_)
   refine q2 (E.chain jq) fun xs cx _=>?_
   have:=up xs cx
   refine q4 (cx.head) fun r' hx=>?_
   have wu:1≤xs.length:=by rw[hx];simp
   refine aL (aH (aa rfl) (aa mb) jw decide_eq_true_iff) (fun g=>absurd g (RF this wu)) (fun _=>?_)
   exact aO ⟨rk bb,cA,rfl,bb,st+1,rfl,jq,up,mh,mb,rfl,rfl⟩
 ·rintro m' H' It _;refine iz It fun Fw mh mb=>?_;clear It;obtain rfl:=Fw
  exact aO ⟨rfl,rfl⟩
theorem jR(W:Lw c (KK P) sc ns)(H:AH)(hd:Addr)(kvs:List (Int×V))(tx:Int→List Nat)(rk:Int→Nat)(D:ax H hd kvs)(E:bh kvs tx rk):
  Fn c 3 (.ref 305) [.ref hd] H (fun d H'=>d=.none∧H'=H) (fun _ _=>False):=by
 refine aV W.ok.lim (W.kx 305 _ rfl) rfl rfl (codeRec_of W.kx rfl) rfl (names:=["held"]) (eK rfl fun _=>rfl) rfl (by decide) (fun n=>hU (.inl rfl)) rfl rfl rfl fun A L bK hE R O=>?_
 refine ze O (fun m' H'=>H'=H) ?_ (fun m' H' h=>aO ⟨rfl,h⟩)
 refine ct O (dc R.handled (Pe.ev (aa rfl) ⟨hd,kvs,rfl,D,fun i m' H'=>H'=H∧m' (Str.ofString "held")=some (.ref hd),⟨rfl,rfl⟩,?_,?_⟩)) (.inl rfl)
 ·rintro i d m' H' kp dz ⟨rfl,mh⟩ _
  refine q2 (aI dz) fun Fv hk Fu=>?_;obtain⟨k,dk⟩:=Fv;obtain rfl:=Fu
  have kk:aJ kvs k:=⟨dk,bU E.nd (List.mem_of_getElem? hk)⟩
  exact cv (Pe.ev (kJ W.ok (W.glob rfl) (W.kx 176 _ rfl) rfl R O.frames (aa mh) (aa rfl) (lp W _ hd k kvs tx rk D E kk)) ⟨fun h v i a e=>(by refine q4 (cM i) fun t Ft=>?_;obtain rfl:=Ft;cases e),aO ⟨⟨rfl,mh⟩,fun _ _=>rfl⟩⟩)
 ·rintro m' H' ⟨rfl,mh⟩ _
  exact aO ⟨rfl,rfl⟩
noncomputable def cY(l:List Int):Int:=l.getLast?.getD (-1)
theorem pP(l:List Int)(k:Int):cY (l++[k])=k:=by unfold cY;simp
theorem tL{l:List Int}{k:Int}(h:∀y∈l,y<k)(h0:0≤k):cY l<k:=by
 unfold cY
 cases q:l.getLast? with
 | none=>show(-1:Int)<k;exact RK h0
 | some y=>exact h y (List.mem_of_getLast? q)
theorem pX(kvs:List (Int×V))(l:List Int)(k:Int):Mine.heldOf kvs (l++[k])=Mine.heldOf kvs l++[(k,aE kvs k)]:=by unfold Mine.heldOf;rw[List.map_append];rfl
inductive OpI(kvs:List (Int×V))(aX:List Int)(H:AH)(x dx qz ah:Addr)(b:Int)(i:Nat)(m:bL)(H':AH):Prop
 | mk:aC H H'→bc H' x dx qz b 0 []→ax H' ah (Mine.heldOf kvs (aX.take i))→m (Str.ofString "pack")=some (.ref x)→m (Str.ofString "held")=some (.ref ah)→m (Str.ofString "bound")=some (.int b)→m (Str.ofString "last")=some (.int (cY (aX.take i)))→OpI kvs aX H x dx qz ah b i m H'
theorem tc(W:Lw c (KK P) sc ns)(H:AH)(r:Addr)(b:Int)(kvs:List (Int×V))(aX:List Int)(tx:Int→List Nat)(rk:Int→Nat)(LL:ai H r (cX kvs aX))(S:fR kvs aX)(E:bh kvs tx rk)(h0:0≤b)(h1:b≤1000)(pos:∀k,aJ kvs k→0≤k)(hb:∀k xs,av (bases kvs) k xs→(xs.length:Int)≤b+1):
  Fn c 4 (.ref 312) [.ref r,.int b] H (fun d H'=>∃x dx hd,d=.ref x∧aC H H'∧H x=none∧H dx=none∧H hd=none∧bc H' x dx hd b (cY aX+1) (Mine.heldOf kvs aX)) (fun _ _=>False):=by
 have hs:1000000≤sizeLine:=by decide
 have bf:=E.bf
 have sl:=S.len
 refine Fn.gen fun QQ eH=>?_
 refine aV W.ok.lim (W.kx 312 _ rfl) rfl rfl (codeRec_of W.kx rfl) rfl (names:=["rows","bound"]) (cR rfl fun _ _=>rfl) rfl (by decide) (fun n=>eI (.inl rfl) (.inl rfl)) rfl rfl rfl fun A L bK hE R O=>?_
 have R1:bw 1 A:=R.le (m6)
 refine ag (oK W R O.frames (aa rfl) h0 h1 fun x dx qz H1 e1 hx qy BW PA=>?_) (.inl rfl)
 refine ag (fO W.ok fun ah oh hh=>?_) (.inl rfl)
 have GL:H ah=none:=e1.none hh
 refine ag (Pe.ev (dE ae) ?_) (.inl rfl)
 have rah:r≠ah:=(e1.list LL).ne_new hh
 refine ct O (bD R.handled (Pe.ev (aa rfl) ⟨r,_,rfl,(e1.list LL).fresh hh,OpI kvs aX H x dx qz ah b,⟨aC.set e1 hh,PA.ext (aC.set (aC.refl _) hh),ax.same _ _ _ _,rfl,rfl,rfl,rfl⟩,?_,?_⟩)) (.inl rfl)
 ·rintro i d m' H' kp dz Xz tr;obtain⟨ex,mR,df,mp,mh,mb,ml⟩:=Xz
  refine q2 (aI dz) fun k hk Fq=>?_;obtain rfl:=Fq
  have kk:=S.mem.mp (List.mem_of_getElem? hk)
  have lt:cY (aX.take i)<k:=tL (fun y hy=>by
   obtain⟨j,hj,e⟩:=List.getElem_of_mem hy
   rw[List.getElem_take] at e
   rw[List.length_take] at hj
   refine q4 (List.getElem?_eq_some_iff.mp hk) fun hi e2=>?_
   have h1:=List.pairwise_iff_getElem.mp S.pw j i (rS hj) hi (Rx hj)
   have h2:aX[j]'(rS hj)≠aX[i]:=fun q=>by
    have:=(List.getElem_inj (h₀:=by exact rS hj) (h₁:=hi) (S.nd E.nd)).mp q
    exact Bo hj this
   exact Ru e e2 h1 h2) (pos k kk)
  refine aL (aH (aj (aa rfl) ae (bB (d:=.int k) (j:=0) rfl rfl (by decide))) (aa ml) xA decide_eq_true_iff) (fun g=>absurd g (Rq lt)) (fun _=>?_)
  refine ag (Pe.ev (aj (aa rfl) ae (bB (d:=.int k) (j:=0) rfl rfl (by decide))) ?_) (.inl rfl)
  refine bl (Pe.ev (bM (au (aj (aa rfl) ae (bB (d:=aP (aE kvs k)) (j:=1) rfl rfl (by decide))) (au (aj (aa rfl) ae (bB (d:=je (aE kvs k)) (j:=2) rfl rfl (by decide))) aU)) (by show 2≤sizeLine;exact cH hs)) (Pe.ev (aa mh) (Pe.ev (aa rfl) ⟨ah,_,k,rfl,rfl,df,by unfold Mine.heldOf;simp;exact Be hs bf sl,fun o'=>?_⟩)))
  rw[cc (by rw[dr];exact iV (S.nd E.nd) hk),← E.MF (aB kk),← pX]
  have et:aX.take (i+1)=aX.take i++[k]:=by rw[List.take_add_one,hk];rfl
  rw[← et]
  have nn:=mR.i.ne_dict df
  have nh:qz≠ah:=fun e=>by have q:=BW;rw[e] at q;exact(PA.some_x.2.2) (by rw[e];exact hh)
  refine aO ⟨⟨aC.upd ex GL,⟨mR.i.ne nn.1 nn.2,mR.d.ne nh⟩,ax.same _ _ _ _,mp,mh,mb,?_⟩,fun y hy=>?_⟩
  ·rw[et,pP];rfl
  ·rw[List.mem_singleton] at hy;subst hy
   rw[bj _ _ rah];exact tr _ (.head _)
 rintro m' H' Xy _;obtain⟨ex,mR,df,mp,mh,mb,ml⟩:=Xy
 rw[List.take_of_length_le (by unfold cX;simp)] at df ml
 have E':=E.heldOf S
 have iL:∀k xs,av (bases (Mine.heldOf kvs aX)) k xs→(xs.length:Int)≤b+1:=fun k xs h=>hb k xs ((cB S).bases.chain h)
 refine cv (cy W.ok (W.glob rfl) (W.kx 298 _ rfl) rfl R1 O.frames (aa mh) (aa mb) (Fn.mono (kP W H' ah b _ tx rk df E' iL) (fun d H2 z=>?_) fun _ _ z=>z.elim))
 refine xX (d0:=d) (d1:=H2) z ?_;clear z
 refine⟨dp rfl,?_⟩
 refine cv (kL W.ok (W.glob rfl) (W.kx 305 _ rfl) rfl R O.frames (aa mh) (Fn.mono (jR W _ ah _ tx rk df E') (fun d H' z=>?_) fun _ _ z=>z.elim))
 refine VX (d0:=d) z fun Fo=>?_;clear z;obtain rfl:=Fo
 refine⟨dp rfl,?_⟩
 have nn:=mR.i.ne_dict df
 refine c8 W.kx pc (Pe.ev (aa mh) (Pe.ev (aa mp) ⟨x,dx,_,pk (.int b) (.ref ah) (.int 0),rfl,mR.i,(by show 3≤1000;decide),pg _ _ _ _,fun od=>?_⟩)) ry
 have I3:cq (H'.set dx ⟨od,.attrs (pk (.int b) (.ref ah) (.int 0))⟩) x 287 dx (pk (.int b) (.ref ah) (.int 0)):=by
  refine q3 (id mR.i) fun Fm _=>?_;obtain⟨o,q⟩:=Fm
  exact⟨⟨o,(bj _ _ mR.i.apart).trans q⟩,od,b9 _ _ _⟩
 have D3:=df.ne (x:=⟨od,.attrs (pk (.int b) (.ref ah) (.int 0))⟩) nn.2.symm
 have e3:aC H (H'.set dx ⟨od,.attrs (pk (.int b) (.ref ah) (.int 0))⟩):=aC.upd ex qy
 generalize H'.set dx ⟨od,.attrs (pk (.int b) (.ref ah) (.int 0))⟩=H3 at I3 D3 e3 ⊢
 refine c8 W.kx pc (Pe.ev (aw (aa ml) ae bx) (Pe.ev (aa mp) ⟨x,dx,_,pk (.int b) (.ref ah) (.int (cY aX+1)),rfl,I3,(by show 3≤1000;decide),dV _ _ _ _,fun Gk=>?_⟩)) fx
 refine aK (Pe.ev (aa mp) (eH _ _ ⟨x,dx,ah,rfl,aC.upd e3 qy,hx,qy,GL,⟨?_,D3.ne nn.2.symm⟩⟩))
 refine q3 (id I3) fun Fl _=>?_;obtain⟨o,q⟩:=Fl
 exact⟨⟨o,(bj _ _ I3.apart).trans q⟩,Gk,b9 _ _ _⟩
@[irreducible] noncomputable def uV:List Nat:=(Str.ofString " !\"#$&'()*+,-./0123456789:;<=>?@ABCDEFGHIJKLMNOPQRSTUVWXYZ[\\]^_`").cps.toList
@[irreducible] noncomputable def uU:List Nat:=(Str.ofString "abcdefghijklmnopqrstuvwxyz{|}~\n\t").cps.toList
theorem xN:(Str.ofString " !\"#$&'()*+,-./0123456789:;<=>?@ABCDEFGHIJKLMNOPQRSTUVWXYZ[\\]^_`").cps.toList=uV:=by unfold uV;rfl
theorem xM:(Str.ofString "abcdefghijklmnopqrstuvwxyz{|}~\n\t").cps.toList=uU:=by unfold uU;rfl
theorem iB:uV.length=64:=by unfold uV;decide +kernel
theorem iA:uU.length=32:=by unfold uU;decide +kernel
noncomputable def sg(cell:Int):Nat:=(uV++uU).getD (cell % 96).toNat 0
theorem sR{f:Fx}{m:bL}{H:AH}{x:Str}{k:Nat}{p:Pos}{l:List Nat}(h:x.cps.toList=l):Pe c f (.Constant (.str x) k p) m H (.s l):=h▸y6
theorem hJ(W:Lw c (KK P) sc ns)(H:AH)(cell:Int):Fn c 1 (.ref 333) [.int cell] H (fun d H'=>d=.s [sg cell]∧H'=H) (fun _ _=>False):=by
 refine aV W.ok.lim (W.kx 333 _ rfl) rfl rfl (codeRec_of W.kx rfl) rfl (names:=["_law_cell"]) (eK rfl fun _=>rfl) rfl (by decide) (fun n=>hU (.inl rfl)) rfl rfl rfl fun A L bK hE R O=>?_
 refine ag (Pe.ev (sR xN) ?_) (.inl rfl)
 refine ag (Pe.ev (aw (aa rfl) (sR xM) (fP (by rw[iB,iA];decide))) ?_) (.inl rfl)
 refine aK (Pe.ev (aj (aa rfl) (aw (aa rfl) ae (bV (by decide))) (jK (ch:=sg cell) (bo (Rp) ?_) ?_ (Ro))) ⟨rfl,rfl⟩)
 ·rw[List.length_append,iB,iA];exact Rn
 ·rw[sg,List.getD_eq_getElem?_getD,List.getElem?_eq_getElem (by rw[List.length_append,iB,iA];exact Rm)];rfl
noncomputable def VO(cell size:Int):List Nat:=(List.range size.toNat).map fun k:Nat=>sg (cell+7*((k:Int) / (1+cell % 3)))
theorem kX(cell size:Int):(VO cell size).length=size.toNat:=by simp[VO]
theorem lk(W:Lw c (KK P) sc ns)(H:AH)(cell size:Int)(h0:0≤size)(h1:size≤100000):Fn c 2 (.ref 338) [.int cell,.int size] H (fun d H'=>d=.s (VO cell size)∧H'=H) (fun _ _=>False):=by
 refine aV W.ok.lim (W.kx 338 _ rfl) rfl rfl (codeRec_of W.kx rfl) rfl (names:=["_law_cell","_law_size_here"]) (cR rfl fun _ _=>rfl) rfl (by decide) (fun n=>eI (.inr ⟨rfl,rfl⟩) (.inl rfl)) rfl rfl rfl fun A L bK hE R O=>?_
 refine aK (Pe.ev (Pe.of_ext ?_) ⟨rfl,rfl⟩)
 refine hZ plainAttrs_str slot_str_join (j5.ev ⟨yE,az ?_⟩) type_str_join
 refine eV W.ok (cW R.handled ((bF W.ok (eD W)).ev ⟨rfl,Pe.ev (aa rfl) ⟨size,rfl,by omega,by omega,?_⟩⟩)) rfl (by decide) rfl (by decide) rfl (mI ⟨rfl,rfl,rfl⟩ qA)
 ·refine cL (((List.range size.toNat).map fun k:Nat=>[sg (cell+7*((k:Int) / (1+cell % 3)))]).map V.s) (by simp) ?_ ?_ ?_
  ·rw[List.length_map,List.length_range];exact Nat.le_trans (by exact Rl h1:size.toNat≤100000) (by decide:100000≤sizeLine)
  ·intro i d C hE hd
   refine q2 (aI hd) fun k hk Fj=>?_;obtain rfl:=Fj
   refine⟨_,aQ (aQ hk),?_⟩
   refine gw W.ok (W.glob rfl) (W.kx 333 _ rfl) rfl R O.frames (aw (aa rfl) (aw ae (aw (aa rfl) (aw ae (aw (aa rfl) ae (bV (by decide))) bx) (dG (Rk) (Rj))) (iu (cN (by decide)))) bx) (hJ W H _)
  ·intro a o ha
   refine bk ((Hh (b9 _ _ _) ?_).op ⟨?_,aC.set (aC.refl _) ha⟩)
   ·rw[B5,List.length_map,List.length_range];exact Ri h1
   ·rw[B5];rfl
theorem hK(W:Lw c (KK P) sc ns)(H:AH)(old:List Nat)(cell:Int)(ho:old.length≤10000):
  Fn c 3 (.ref 345) [.s old,.int cell] H (fun d H'=>H'=H∧∃l:List Nat,d=.s l∧l.length≤old.length+9) (fun _ _=>False):=by
 have hs:1000000≤sizeLine:=by decide
 refine aV W.ok.lim (W.kx 345 _ rfl) rfl rfl (codeRec_of W.kx rfl) rfl (names:=["_law_old","_law_cell"]) (cR rfl fun _ _=>rfl) rfl (by decide) (fun n=>eI (.inl rfl) (.inl rfl)) rfl rfl rfl fun A L bK hE R O=>?_
 have R1:bw 1 A:=R.le (rQ)
 refine ag (Pe.ev (aw (aa rfl) ae (bV (by decide))) ?_) (.inl rfl)
 refine ag (Pe.ev (aw (aw (aa rfl) ae (dG (by decide) (by decide))) (aw (ck W.ok (bu W) (aa rfl) (eu (kf ho hs))) ae bx) (bV (vK))) ?_) (.inl rfl)
 refine ag (Pe.ev (aw (aw (aa rfl) ae (dG (by decide) (by decide))) (aw (ck W.ok (bu W) (aa rfl) (eu (kf ho hs))) ae bx) (dG (vK) (Rh ho))) ?_) (.inl rfl)
 have a0:0≤cell / 5 % ((old.length:Int)+1):=Int.emod_nonneg _ (Rg)
 generalize cell / 5 % ((old.length:Int)+1)=a at a0
 generalize cell / 5 / ((old.length:Int)+1)=left
 refine aL (aH (aa rfl) ae fg beq_iff_eq) (fun _=>aK (Pe.ev (aa rfl) ⟨rfl,old,rfl,by exact Rf⟩)) (fun _=>?_)
 refine aL (aH (aa rfl) ae fg beq_iff_eq) (fun _=>?_) (fun _=>?_)
 ·refine aK (Pe.ev (aw (aw (aw (gu (aa rfl) (aa rfl) a0 (kf ho hs)) (gw W.ok (W.glob rfl) (W.kx 333 _ rfl) rfl R1 O.frames (aa rfl) (hJ W _ _)) (fP ?_)) (gw W.ok (W.glob rfl) (W.kx 333 _ rfl) rfl R1 O.frames (aw (aa rfl) ae (dG (by decide) (by decide))) (hJ W _ _)) (fP ?_)) (gs (aa rfl) (aa rfl) a0 (kf ho hs)) (fP ?_)) ⟨rfl,_,rfl,?_⟩)
  all_goals simp only[List.length_append,List.length_take,List.length_drop,List.length_cons,List.length_nil];first | exact A9 ho hs | exact Rd ho hs | exact Rc ho hs | exact Rb
 refine aL (aH (aa rfl) ae fg beq_iff_eq) (fun _=>?_) (fun _=>?_)
 ·refine aK (Pe.ev (aw (gu (aa rfl) (aa rfl) a0 (kf ho hs)) (gs (aa rfl) (aw (aw (aa rfl) ae bx) (aw (aa rfl) ae (bV (by decide))) bx) (Ra a0) (kf ho hs)) (fP ?_)) ⟨rfl,_,rfl,?_⟩)
  all_goals simp only[List.length_append,List.length_take,List.length_drop,List.length_cons,List.length_nil];first | exact Q9 ho hs | exact Q8
 refine aL (aH (aa rfl) ae fg beq_iff_eq) (fun _=>?_) (fun _=>?_)
 ·refine aK (Pe.ev (aw (aw (gu (aa rfl) (aa rfl) a0 (kf ho hs)) (gw W.ok (W.glob rfl) (W.kx 333 _ rfl) rfl R1 O.frames (aa rfl) (hJ W _ _)) (fP ?_)) (gs (aa rfl) (aw (aa rfl) ae bx) (rO a0) (kf ho hs)) (fP ?_)) ⟨rfl,_,rfl,?_⟩)
  all_goals simp only[List.length_append,List.length_take,List.length_drop,List.length_cons,List.length_nil];first | exact A9 ho hs | exact Q7 ho hs | exact Q6
 refine aK (Pe.ev (kJ W.ok (W.glob rfl) (W.kx 338 _ rfl) rfl R O.frames (aa rfl) (aw (aa rfl) ae (bV (by decide))) (lk W _ _ _ (A8) (Q5))) ⟨rfl,_,rfl,?_⟩)
 rw[kX];exact Q4
theorem kU{l r:List Nat}{i j:Nat}{x y:Nat}(hl:l[i]?=some x)(hr:r[j]?=some y):decide ([x]=[y])=true↔l[i]?=r[j]?:=by
 rw[hl,hr];simp
theorem fq(W:Lw c (KK P) sc ns)(H:AH)(old new:List Nat)(ho:old.length≤100000)(hn:new.length≤100000):
  Fn c 1 (.ref 120) [.s old,.s new] H (fun d H'=>H'=H∧∃a e:Nat,qu old new a e∧d=.tup [.int a,.s ((old.take (old.length-e)).drop a),.s ((new.take (new.length-e)).drop a)]) (fun _ _=>False):=by
 have hs:1000000≤sizeLine:=by decide
 refine aV W.ok.lim (W.kx 120 _ rfl) rfl rfl (codeRec_of W.kx rfl) rfl (names:=["old","new"]) (cR rfl fun _ _=>rfl) rfl (by decide) (fun n=>eI (.inl rfl) (.inl rfl)) rfl rfl rfl fun A L bK hE R O=>?_
 refine ag (Pe.ev (iQ W.ok (lZ W) (ck W.ok (bu W) (aa rfl) (eu (dN ho hs))) (ck W.ok (bu W) (aa rfl) (eu (dN hn hs))) (sU R.handled)) ?_) (.inl rfl)
 obtain⟨most,hm⟩:∃k:Nat,k=min old.length new.length:=⟨_,rfl⟩
 rw[show min (old.length:Int) (new.length:Int)=(most:Int) by exact Bc hm]
 refine ag (Pe.ev ae ?_) (.inl rfl)
 refine i3 O (fun a:Nat=>.int a) (fun a=>most-a) (fun a=>a≤most∧old.take a=new.take a) (fun a=>(a:Int)<most∧old[a]?=new[a]?∧True) 0 ⟨by exact vJ,by simp⟩ rfl (fun a CE=>q3 CE fun h1 h2=>?_) (fun a CD CC=>q3 CD fun h1 h2=>iz CC fun h3 h4 _=>?_) (fun a CB h3=>q3 CB fun h1 h2=>?_)
 ·refine fj (bI (aH (aa rfl) (aa rfl) oO decide_eq_true_iff) fun g=>bI ?_ fun _=>d7)
  have e1:=List.getElem?_eq_getElem (l:=old) (i:=a) (A7 hm g)
  have e2:=List.getElem?_eq_getElem (l:=new) (i:=a) (A6 hm g)
  exact aH (aj (aa rfl) (aa rfl) (jK (bo (dW) (A5 hm g)) e1 (rN hn hm g))) (aj (aa rfl) (aa rfl) (jK (bo (dW) (A4 hm g)) e2 (rN hn hm g))) oP (kU e1 e2)
 ·refine ag (Pe.ev (aw (aa rfl) ae bx) (aO ⟨rfl,rfl,a+1,⟨by exact A3 h3,?_⟩,by exact A2 h3,bL.set_set _ _ _ _⟩)) (.inl rfl)
  rw[List.take_add_one,List.take_add_one,h2,h4]
 have sA:a=min old.length new.length∨old[a]?≠new[a]?:=by
  by_cases q:a=most
  ·exact .inl (q.trans hm)
  ·exact .inr fun z=>h3 ⟨by exact A1 h1 q,z,trivial⟩
 refine ag (Pe.ev ae ?_) (.inl rfl)
 refine i3 O (fun e:Nat=>.int e) (fun e=>most-e) (fun e=>a+e≤most∧old.drop (old.length-e)=new.drop (new.length-e)) (fun e=>(e:Int)<(most:Int)-(a:Int)∧old[old.length-1-e]?=new[new.length-1-e]?∧True) 0 ⟨by exact A0 h1,by simp⟩ rfl (fun e CA=>q3 CA fun k1 k2=>?_) (fun e Cz Cy=>q3 Cz fun k1 k2=>iz Cy fun k3 k4 _=>?_) (fun e Cw k3=>q3 Cw fun k1 k2=>?_)
 ·refine fj (bI (aH (aa rfl) (aw (aa rfl) (aa rfl) dF) oO decide_eq_true_iff) fun g=>bI ?_ fun _=>d7)
  have e1:=List.getElem?_eq_getElem (l:=old) (i:=old.length-1-e) (m4 hm g)
  have e2:=List.getElem?_eq_getElem (l:=new) (i:=new.length-1-e) (m1 hm g)
  have s1:seqIndex? ((old.length:Int)-1-e) old.length=some (old.length-1-e):=(bo (Q3 hm g) (AZ)).trans (congrArg some (AY))
  have s2:seqIndex? ((new.length:Int)-1-e) new.length=some (new.length-1-e):=(bo (Q2 hm g) (AZ)).trans (congrArg some (AY))
  exact aH (aj (aa rfl) (aw (aw (ck W.ok (bu W) (aa rfl) (eu (dN ho hs))) ae dF) (aa rfl) dF) (jK s1 e1 (Q1 ho hm g))) (aj (aa rfl) (aw (aw (ck W.ok (bu W) (aa rfl) (eu (dN hn hs))) ae dF) (aa rfl) dF) (jK s2 e2 (Q0 hn hm g))) oP (kU e1 e2)
 ·refine ag (Pe.ev (aw (aa rfl) ae bx) (aO ⟨rfl,rfl,e+1,⟨by exact AX k3,?_⟩,by exact AW k3,bL.set_set _ _ _ _⟩)) (.inl rfl)
  have e1:=List.getElem?_eq_getElem (l:=old) (i:=old.length-1-e) (m4 hm k3)
  have e2:=List.getElem?_eq_getElem (l:=new) (i:=new.length-1-e) (m1 hm k3)
  rw[show old.length-(e+1)=old.length-1-e by exact pC,show new.length-(e+1)=new.length-1-e by exact pC,List.drop_eq_getElem_cons (l:=old) (i:=old.length-1-e) (m4 hm k3),List.drop_eq_getElem_cons (l:=new) (i:=new.length-1-e) (m1 hm k3),show old.length-1-e+1=old.length-e by exact AV hm k3,show new.length-1-e+1=new.length-e by exact AU hm k3,k2]
  rw[e1,e2] at k4
  injection k4 with k4
  rw[k4]
 have sE:a+e=min old.length new.length∨old[old.length-1-e]?≠new[new.length-1-e]?:=by
  by_cases q:a+e=most
  ·exact .inl (q.trans hm)
  ·exact .inr fun z=>k3 ⟨by exact AS k1 q,z,trivial⟩
 refine aK (Pe.ev (bM (au (aa rfl) (au (dB (aa rfl) (aa rfl) (aw (ck W.ok (bu W) (aa rfl) (eu (dN ho hs))) (aa rfl) dF) (dW) (AR hm k1) (dN ho hs)) (au (dB (aa rfl) (aa rfl) (aw (ck W.ok (bu W) (aa rfl) (eu (dN hn hs))) (aa rfl) dF) (dW) (AQ hm k1) (dN hn hs)) aU))) (cF _ _ _)) ⟨rfl,a,e,⟨by exact AP hm k1,by exact AO hm k1,h2,k2,sA,sE⟩,?_⟩)
 rw[show((old.length:Int)-(e:Int)).toNat=old.length-e by exact rM,show((new.length:Int)-(e:Int)).toNat=new.length-e by exact rM]
 rfl
theorem cQ(W:Lw c (KK P) sc ns)(H:AH)(old new:List Nat)(ho:old.length≤100000)(hn:new.length≤100000):
  Fn c 1 (.ref 359) [.s old,.s new] H (fun d H'=>H'=H∧∃a e:Nat,qu old new a e∧d=.tup [.int a,.s ((old.take (old.length-e)).drop a),.s ((new.take (new.length-e)).drop a)]) (fun _ _=>False):=by
 have hs:1000000≤sizeLine:=by decide
 refine aV W.ok.lim (W.kx 359 _ rfl) rfl rfl (codeRec_of W.kx rfl) rfl (names:=["_law_old","_law_new"]) (cR rfl fun _ _=>rfl) rfl (by decide) (fun n=>eI (.inl rfl) (.inl rfl)) rfl rfl rfl fun A L bK hE R O=>?_
 obtain⟨most,hm⟩:∃k:Nat,k=min old.length new.length:=⟨_,rfl⟩
 have hmi:min (old.length:Int) (new.length:Int)=(most:Int):=by exact Bc hm
 refine ag (Pe.ev ae ?_) (.inl rfl)
 refine i3 O (fun a:Nat=>.int a) (fun a=>most-a) (fun a=>a≤most∧old.take a=new.take a) (fun a=>(a:Int)<most∧old[a]?=new[a]?∧True) 0 ⟨by exact vJ,by simp⟩ rfl (fun a Cv=>q3 Cv fun h1 h2=>?_) (fun a Cu Ct=>q3 Cu fun h1 h2=>iz Ct fun h3 h4 _=>?_) (fun a Cs h3=>q3 Cs fun h1 h2=>?_)
 ·refine fj (bI (aH (aa rfl) (iQ W.ok (lZ W) (ck W.ok (bu W) (aa rfl) (eu (dN ho hs))) (ck W.ok (bu W) (aa rfl) (eu (dN hn hs))) (sU R.handled)) oO (by rw[hmi];exact decide_eq_true_iff)) fun g=>bI ?_ fun _=>d7)
  have e1:=List.getElem?_eq_getElem (l:=old) (i:=a) (A7 hm g)
  have e2:=List.getElem?_eq_getElem (l:=new) (i:=a) (A6 hm g)
  exact aH (aj (aa rfl) (aa rfl) (jK (bo (dW) (A5 hm g)) e1 (rN hn hm g))) (aj (aa rfl) (aa rfl) (jK (bo (dW) (A4 hm g)) e2 (rN hn hm g))) oP (kU e1 e2)
 ·refine ag (Pe.ev (aw (aa rfl) ae bx) (aO ⟨rfl,rfl,a+1,⟨by exact A3 h3,?_⟩,by exact A2 h3,bL.set_set _ _ _ _⟩)) (.inl rfl)
  rw[List.take_add_one,List.take_add_one,h2,h4]
 have sA:a=min old.length new.length∨old[a]?≠new[a]?:=by
  by_cases q:a=most
  ·exact .inl (q.trans hm)
  ·exact .inr fun z=>h3 ⟨by exact A1 h1 q,z,trivial⟩
 refine ag (Pe.ev ae ?_) (.inl rfl)
 refine i3 O (fun e:Nat=>.int e) (fun e=>most-e) (fun e=>a+e≤most∧old.drop (old.length-e)=new.drop (new.length-e)) (fun e=>(e:Int)<(most:Int)-(a:Int)∧old[old.length-1-e]?=new[new.length-1-e]?∧True) 0 ⟨by exact A0 h1,by simp⟩ rfl (fun e Cr=>q3 Cr fun k1 k2=>?_) (fun e Cq Cp=>q3 Cq fun k1 k2=>iz Cp fun k3 k4 _=>?_) (fun e Co k3=>q3 Co fun k1 k2=>?_)
 ·refine fj (bI (aH (aa rfl) (aw (iQ W.ok (lZ W) (ck W.ok (bu W) (aa rfl) (eu (dN ho hs))) (ck W.ok (bu W) (aa rfl) (eu (dN hn hs))) (sU R.handled)) (aa rfl) dF) oO (by rw[hmi];exact decide_eq_true_iff)) fun g=>bI ?_ fun _=>d7)
  have e1:=List.getElem?_eq_getElem (l:=old) (i:=old.length-1-e) (m4 hm g)
  have e2:=List.getElem?_eq_getElem (l:=new) (i:=new.length-1-e) (m1 hm g)
  have s1:seqIndex? (-1-(e:Int)) old.length=some (old.length-1-e):=(cC (AN) (QZ hm g)).trans (congrArg some (AM))
  have s2:seqIndex? (-1-(e:Int)) new.length=some (new.length-1-e):=(cC (AN) (QY hm g)).trans (congrArg some (AM))
  exact aH (aj (aa rfl) (aw (dE ae) (aa rfl) dF) (jK s1 e1 (AL hn hm g))) (aj (aa rfl) (aw (dE ae) (aa rfl) dF) (jK s2 e2 (AL hn hm g))) oP (kU e1 e2)
 ·refine ag (Pe.ev (aw (aa rfl) ae bx) (aO ⟨rfl,rfl,e+1,⟨by exact AX k3,?_⟩,by exact AW k3,bL.set_set _ _ _ _⟩)) (.inl rfl)
  have e1:=List.getElem?_eq_getElem (l:=old) (i:=old.length-1-e) (m4 hm k3)
  have e2:=List.getElem?_eq_getElem (l:=new) (i:=new.length-1-e) (m1 hm k3)
  rw[show old.length-(e+1)=old.length-1-e by exact pC,show new.length-(e+1)=new.length-1-e by exact pC,List.drop_eq_getElem_cons (l:=old) (i:=old.length-1-e) (m4 hm k3),List.drop_eq_getElem_cons (l:=new) (i:=new.length-1-e) (m1 hm k3),show old.length-1-e+1=old.length-e by exact AV hm k3,show new.length-1-e+1=new.length-e by exact AU hm k3,k2]
  rw[e1,e2] at k4
  injection k4 with k4
  rw[k4]
 have sE:a+e=min old.length new.length∨old[old.length-1-e]?≠new[new.length-1-e]?:=by
  by_cases q:a+e=most
  ·exact .inl (q.trans hm)
  ·exact .inr fun z=>k3 ⟨by exact AS k1 q,z,trivial⟩
 refine aK (Pe.ev (bM (au (aa rfl) (au (dB (aa rfl) (aa rfl) (aw (ck W.ok (bu W) (aa rfl) (eu (dN ho hs))) (aa rfl) dF) (dW) (AR hm k1) (dN ho hs)) (au (dB (aa rfl) (aa rfl) (aw (ck W.ok (bu W) (aa rfl) (eu (dN hn hs))) (aa rfl) dF) (dW) (AQ hm k1) (dN hn hs)) aU))) (cF _ _ _)) ⟨rfl,a,e,⟨by exact AP hm k1,by exact AO hm k1,h2,k2,sA,sE⟩,?_⟩)
 rw[show((old.length:Int)-(e:Int)).toNat=old.length-e by exact rM,show((new.length:Int)-(e:Int)).toNat=new.length-e by exact rM]
 rfl
theorem lj(W:Lw c (KK P) sc ns)(H:AH)(old new:List Nat)(way:Int)(ho:old.length≤20000)(hn:new.length≤20000):
  Fn c 2 (.ref 366) [.s old,.s new,.int way] H (fun d H'=>H'=H∧∃a gone aS,d=gE a gone aS∧fT old new a gone aS) (fun _ _=>False):=by
 have hs:1000000≤sizeLine:=by decide
 refine aV W.ok.lim (W.kx 366 _ rfl) rfl rfl (codeRec_of W.kx rfl) rfl (names:=["_law_old","_law_new","_law_way"]) (jf rfl fun _ _ _=>rfl) rfl (by decide) (fun n=>lM (.inl rfl) (.inl rfl) (.inl rfl)) rfl rfl rfl fun A L bK hE R O=>?_
 refine ag (cy W.ok (W.glob rfl) (W.kx 359 _ rfl) rfl R O.frames (aa rfl) (aa rfl) (Fn.mono (cQ W H old new (eX ho) (eX hn)) (fun d H' z=>?_) fun _ _ z=>z.elim)) (.inl rfl)
 refine Ge (d0:=H') (d1:=d) z fun a e C=>?_;clear z
 have c1:=C.le
 have c2:=C.Ui
 refine ag (Pe.ev (aj (aa rfl) ae (bB (d:=.int a) (j:=0) rfl rfl (by decide))) ?_) (.inl rfl)
 refine fy (aH (aa rfl) ae fg beq_iff_eq) (fun _=>iQ W.ok (gB W) ae (aw (aa rfl) ae dF) (nH R.handled)) (fun d hd=>?_) (.inl rfl)
 obtain⟨p,rfl,hp⟩:∃p:Nat,d=.int p∧p≤a:=by
  rcases hd with ⟨_,rfl⟩ | ⟨_,rfl⟩
  ·exact⟨a-2,congrArg V.int (QX),by exact QW⟩
  ·exact⟨a,rfl,Nat.le_refl _⟩
 refine aL (aH (aa rfl) ae fg beq_iff_eq) (fun _=>?_) (fun _=>?_)
 ·exact aK (Pe.ev (bM (au ae (au (aa rfl) (au (aa rfl) aU))) (cF _ _ _)) ⟨rfl,0,old,new,rfl,fT.whole old new⟩)
 ·refine aK (Pe.ev (bM (au (aa rfl) (au (aw (dB (aa rfl) (aa rfl) (aj (aa rfl) ae (bB (d:=.int a) (j:=0) rfl rfl (by decide))) (dW) (dW) (AK ho hs)) (aj (aa rfl) ae (bB (d:=.s ((old.take (old.length-e)).drop a)) (j:=1) rfl rfl (by decide))) (fP ?_)) (au (aw (dB (aa rfl) (aa rfl) (aj (aa rfl) ae (bB (d:=.int a) (j:=0) rfl rfl (by decide))) (dW) (dW) (AK ho hs)) (aj (aa rfl) ae (bB (d:=.s ((new.take (new.length-e)).drop a)) (j:=2) rfl rfl (by decide))) (fP ?_)) aU))) (cF _ _ _)) ⟨rfl,p,_,_,rfl,?_⟩)
  ·simp only[List.length_drop,List.length_take];exact Nat.le_trans (Nat.add_le_add (Nat.le_trans (Nat.sub_le _ _) (Nat.min_le_right _ _)) (Nat.le_trans (Nat.sub_le _ _) (Nat.min_le_right _ _))) (QV ho hs)
  ·simp only[List.length_drop,List.length_take];exact Nat.le_trans (Nat.add_le_add (Nat.le_trans (Nat.sub_le _ _) (Nat.min_le_left (Int.toNat ((a:Nat):Int)) _)) (Nat.le_trans (Nat.sub_le _ _) (Nat.min_le_right _ _))) (show a+new.length≤sizeLine by exact QU ho hn hs c1)
  ·exact C.step hp
inductive NmI(H:AH)(a:Addr)(i:Nat)(m':bL)(H':AH):Prop  | mk (o:Obj) (nm:List Int) (num:Int):H'=H.set a ⟨o,.list (nm.map V.int)⟩→nm.length=i→nm.Nodup→(∀x∈nm,0≤x∧x≤num)→-1≤num→m' (Str.ofString "_law_names_here")=some (.ref a)→m' (Str.ofString "_law_number")=some (.int num)→NmI H a i m' H'
theorem uX(W:Lw c (KK P) sc ns)(H:AH)(ca:Addr)(cs:List Int)(lc:ai H ca (cs.map V.int))(bf:cs.length≤100):
  Fn c 1 (.ref 373) [.ref ca] H (fun d H'=>∃(a:Addr) (nm:List Int),d=.ref a∧aC H H'∧H a=none∧ai H' a (nm.map V.int)∧nm.length=cs.length∧nm.Nodup∧∀x∈nm,0≤x) (fun _ _=>False):=by
 have hs:1000000≤sizeLine:=by decide
 refine Fn.gen fun QQ eH=>?_;refine aV W.ok.lim (W.kx 373 _ rfl) rfl rfl (codeRec_of W.kx rfl) rfl (names:=["_law_cells_here"]) (eK rfl fun _=>rfl) rfl (by decide) (fun n=>hU (.inl rfl)) rfl rfl rfl fun A L bK hE R O=>?_
 refine ag (cw W.ok (bk ⟨Nat.zero_le _,fun a o ha=>?_⟩)) (.inl rfl)
 have cna:ca≠a:=lc.ne_new ha
 refine ag (Pe.ev (dE ae) ?_) (.inl rfl)
 refine ct O (bD R.handled (Pe.ev (aa rfl) ⟨ca,_,rfl,lc.ne cna,NmI H a,⟨o,[],-1,rfl,rfl,List.nodup_nil,(fun _ h=>nomatch h),Int.le_refl _,rfl,rfl⟩,?_,?_⟩)) (.inl rfl)
 ·rintro i d m' H' kp hd Xx _;obtain⟨o,nm,num,rfl,hl,nd,hx,h1,mn,mu⟩:=Xx
  refine q2 (aI hd) fun cell hc Fi=>?_;obtain rfl:=Fi
  have il:i<cs.length:=(List.getElem?_eq_some_iff.mp hc).1
  refine ag (Pe.ev (aw (aw (aa mu) ae bx) (aw (aw (aa rfl) ae (dG (by decide) (by decide))) ae (bV (by decide))) bx) ?_) (.inl rfl)
  refine fy (aH (aw (aw (aa rfl) ae (dG (by decide) (by decide))) ae (bV (by decide))) ae fg beq_iff_eq) (fun _=>aw (aa rfl) (aw ae ae (VF (by decide) (by decide) (by decide))) bx) (fun d tU=>?_) (.inl rfl)
  obtain⟨nx,rfl,Wr⟩:∃nx:Int,d=.int nx∧num<nx:=by
   rcases tU with ⟨_,rfl⟩ | ⟨_,rfl⟩
   ·exact⟨_,rfl,by show num<num+1+cell / 3 % 3+10 ^ 12;omega⟩
   ·exact⟨_,rfl,by exact QT⟩
  refine ed (aa mn) (aa rfl) (ai.same _ _ _ _) (by rw[List.length_map];exact QS bf hs hl il) fun o'=>aO ⟨⟨o',nm++[nx],nx,?_,by simp[hl],?_,fun x h=>?_,by exact QR h1 Wr,mn,rfl⟩,fun y hy=>?_⟩
  ·rw[AH.set_set,List.map_append];rfl
  ·rw[List.nodup_append]
   refine⟨nd,by simp,fun x h y h' e=>?_⟩
   simp at h';subst h';have:=(hx x h).2;exact QP e Wr this
  ·rcases List.mem_append.mp h with h | h
   ·have:=hx x h;exact QO Wr this
   ·rw[List.mem_singleton] at h;exact QN h1 Wr h
  ·rw[List.mem_singleton] at hy;subst hy
   rw[AH.set_set,bj _ _ cna,bj _ _ cna]
 ·rintro m' H' Xw _;obtain⟨o,nm,num,rfl,hl,nd,hx,h1,mn,mu⟩:=Xw
  rw[List.length_map] at hl
  exact aK (Pe.ev (aa mn) (eH _ _ ⟨a,nm,rfl,aC.set (aC.refl _) ha,ha,ai.same _ _ _ _,hl,nd,fun x h=>(hx x h).1⟩))
theorem xO(W:Lw c (KK P) sc ns)(H:AH)(cell:Int):Fn c 1 (.ref 380) [.int cell] H (fun d H'=>H'=H∧∃s:Int,d=.int s∧0≤s∧s<400) (fun _ _=>False):=by
 refine aV W.ok.lim (W.kx 380 _ rfl) rfl rfl (codeRec_of W.kx rfl) rfl (names:=["_law_cell"]) (eK rfl fun _=>rfl) rfl (by decide) (fun n=>hU (.inl rfl)) rfl rfl rfl fun A L bK hE R O=>?_
 refine aL (aH (aw (aw (aa rfl) ae (dG (by decide) (by decide))) ae (bV (by decide))) ae fg beq_iff_eq) (fun _=>?_) (fun _=>?_)
 ·exact aK (Pe.ev (aw (aw ae (aw (aa rfl) ae (dG (by decide) (by decide))) (iu (cN (by decide)))) ae (bV (by decide))) ⟨rfl,_,rfl,by exact QM,by exact QL⟩)
 ·exact aK (Pe.ev (aw (aa rfl) ae (bV (by decide))) ⟨rfl,_,rfl,by exact A8,by exact QK⟩)
theorem lu(W:Lw c (KK P) sc ns)(H:AH)(hd:Addr)(kvs:List (Int×V))(tx:Int→List Nat)(rk:Int→Nat)(D:ax H hd kvs)(E:bh kvs tx rk):
  Fn c 1 (.ref 390) [.ref hd] H (fun d H'=>∃a aX,d=.ref a∧aC H H'∧H a=none∧fR kvs aX∧ai H' a (cX kvs aX)) (fun _ _=>False):=by
 have hs:1000000≤sizeLine:=by decide
 have bf:=E.bf
 refine aV W.ok.lim (W.kx 390 _ rfl) rfl rfl (codeRec_of W.kx rfl) rfl (names:=["_law_kept"]) (eK rfl fun _=>rfl) rfl (by decide) (fun n=>hU (.inr ⟨rfl,rfl⟩)) rfl rfl rfl fun A L bK hE R O=>?_
 refine aK (eV W.ok (bD R.handled (cj W.ok (cg W) (Pe.ev (aa rfl) (cK W.ok R.handled D (m8 bf) fun mJ oR aX mH pm pw=>⟨mJ,_,rfl,ai.same _ _ _ _,?_⟩)))) rfl (by decide) rfl (by decide) rfl (mI ⟨rfl,rfl,rfl⟩ qA))
 have S:fR kvs aX:=⟨pm,pw⟩
 have D1:=D.fresh (x:=⟨oR,.list (aX.map V.int)⟩) mH
 refine cL (cX kvs aX) (by unfold cX;simp) (by have:=S.len;simp;exact m7 hs bf this) ?_ ?_
 ·intro i d C hE dz
  refine q2 (aI dz) fun k hk Fh=>?_;obtain rfl:=Fh
  have kk:=S.mem.mp (List.mem_of_getElem? hk)
  refine⟨_,aQ hk,?_⟩
  exact bM (au (aa rfl) (au (aj (aj (aa rfl) (aa rfl) (aT D1 (aB kk))) ae (eF E kk).1) (au (aj (aj (aa rfl) (aa rfl) (aT D1 (aB kk))) ae (eF E kk).2) aU))) (cF _ _ _)
 ·intro a o ha
  exact⟨a,aX,rfl,aC.set (aC.set (aC.refl _) mH) ha,(aC.set (x:=⟨oR,.list (aX.map V.int)⟩) (aC.refl _) mH).none ha,S,ai.same _ _ _ _⟩
theorem cf(W:Lw c (KK P) sc ns)(H:AH)(b:Addr)(kvs:List (Int×V))(tx:Int→List Nat)(rk:Int→Nat)(n:Int)(hb:ax H b kvs)(E:bh kvs tx rk)(hn:aJ kvs n):
  Fn c 1 (.ref 397) [.ref b,.int n] H (fun d H'=>∃a o xs,d=.ref a∧H a=none∧H'=H.set a ⟨o,.list (xs.map V.int)⟩∧av (bases kvs) n xs∧xs.length≤50) (fun _ _=>False):=by
 have hs:1000000≤sizeLine:=by decide
 refine Fn.gen fun QQ eH=>?_;refine aV W.ok.lim (W.kx 397 _ rfl) rfl rfl (codeRec_of W.kx rfl) rfl (names:=["_law_kept","_law_number"]) (cR rfl fun _ _=>rfl) rfl (by decide) (fun n=>eI (.inl rfl) (.inl rfl)) rfl rfl rfl fun A L bK hE R O=>?_
 refine ag (cw W.ok (nG.nz (au (aa rfl) aU) ⟨by show 1≤sizeLine;exact pD hs,fun a o ha=>?_⟩)) (.inl rfl)
 have HO:b≠a:=hb.ne_new ha
 refine hB O (fun k m' H'=>∃(o:Obj) (pre:List Int) (x:Int),H'=H.set a ⟨o,.list ((pre++[x]).map V.int)⟩∧k=rk x∧aJ kvs x∧pre.length+rk x≤rk n∧(∀xs,av (bases kvs) x xs→av (bases kvs) n (pre++xs))∧m' (Str.ofString "_law_kept")=some (.ref b)∧m' (Str.ofString "_law_chain_here")=some (.ref a)) (rk n) ⟨o,[],n,rfl,rfl,hn,by simp,fun xs h=>by simpa using h,rfl,rfl⟩ ?_
 rintro k m' H' Ir;refine q87 (d0:=H') (d1:=k) Ir fun o pre x hx hlen hpre mb mc=>?_;clear Ir
 have hl:ai (H.set a ⟨o,.list ((pre++[x]).map V.int)⟩) a ((pre++[x]).map V.int):=ai.same _ _ _ _
 have iL:ax (H.set a ⟨o,.list ((pre++[x]).map V.int)⟩) b kvs:=hb.ne HO
 have low:=E.low n
 have pU:((pre++[x]).map V.int).length=pre.length+1:=by simp
 have s1:seqIndex? (-1) ((pre++[x]).map V.int).length=some pre.length:=by rw[pU];exact(cC (rR) (vS)).trans (congrArg some (vR))
 have g1:((pre++[x]).map V.int)[pre.length]?=some (.int x):=by simp
 refine Ts.mono (bq (aj (aj (aa mb) (aj (aa mc) (dE ae) (bN hl s1 g1 (m9))) (aT iL (aB hx))) ae (eF E hx).1)) (fun t H' Cn=>q3 Cn fun e q=>?_) fun _ _ z=>z.elim
 subst e
 have gb:aF (bases kvs) x=some (aP (aE kvs x)):=by rw[aN,aB hx];rfl
 have ent:=E.ent x _ (aB hx)
 refine⟨fun ht=>?_,fun ht=>?_⟩
 ·obtain⟨y,hy0,hy,cA⟩:∃y,aP (aE kvs x)=.int y∧aJ kvs y∧rk y<rk x:=by
   generalize aE kvs x=d0 at ent q
   cases ent with
   | root=>exact(q.mp ht rfl).elim
   | lean bb at_ gone aS jq cA VR=>exact⟨bb,rfl,jq,cA⟩
  refine ed (aa mc) (aj (aj (aa mb) (aj (aa mc) (dE ae) (bN hl s1 g1 (m9))) (aT iL (aB hx))) ae (eF E hx).1) hl (Bl hs hlen low pU) (fun o'=>aO ⟨rk y,cA,o',pre++[x],y,?_,rfl,hy,by simp;exact vQ hlen cA,fun xs h=>?_,mb,mc⟩)
  ·rw[AH.set_set,hy0];simp
  ·simpa using hpre _ (.step (hy0▸gb) h)
 ·have h0:aP (aE kvs x)=.none:=by
   apply Classical.byContradiction;intro z
   rw[q.mpr z] at ht;cases ht
  exact aK (Pe.ev (aa mc) (eH _ _ ⟨a,o,pre++[x],rfl,ha,rfl,hpre _ (.stop (h0▸gb)),by simp;exact Bk hlen low⟩))
theorem qG(W:Lw c (KK P) sc ns)(H:AH)(hd:Addr)(kvs:List (Int×V))(tx:Int→List Nat)(rk:Int→Nat)(D:ax H hd kvs)(E:bh kvs tx rk)(de:kvs≠[]):
  Fn c 2 (.ref 402) [.ref hd] H (fun d H'=>H'=H∧∃M:Int,d=.int M∧0≤M∧M≤60∧(∃k xs,aJ kvs k∧av (bases kvs) k xs∧(xs.length:Int)=M+1)∧∀k xs,av (bases kvs) k xs→(xs.length:Int)≤M+1) (fun _ _=>False):=by
 have hs:1000000≤sizeLine:=by decide
 have bf:=E.bf
 obtain⟨cl,fS⟩:∃cl:Int→List Int,∀k,aJ kvs k→av (bases kvs) k (cl k)∧(cl k).length≤41:=by
  classical
  refine⟨fun k=>if h:aJ kvs k then Classical.choose (E.chain h) else[],fun k h=>?_⟩
  dsimp only;rw[dif_pos h];exact Classical.choose_spec (E.chain h)
 have key:∀k xs,av (bases kvs) k xs→aJ kvs k:=fun k xs h=>by
  have:∃d,aF (bases kvs) k=some d:=by cases h with | stop e=>exact⟨_,e⟩ | step e _=>exact⟨_,e⟩
  refine q4 this fun d e=>?_;clear this
  rw[aN] at e
  cases q:aF kvs k with
  | none=>rw[q] at e;cases e
  | some d'=>exact⟨d',q⟩
 refine q2 (eP ((kvs.map (·.1)).map fun k=>((cl k).length:Int)-1) (by simpa using de)) fun M hM1 UU=>?_
 refine Fn.of_ext (Fn.mono (Q:=fun d H'=>aC H H'∧d=.int M) (X:=fun _ _=>False) ?_ (fun d H' z=>⟨z.1,rfl,M,z.2,?_⟩) fun _ _ z=>z.elim)
 case refine_2=>
  refine q2 (List.mem_map.mp hM1) fun k hk Fs=>?_;obtain rfl:=Fs
  refine q3 (fS k (ay.mpr hk)) fun c1 c2=>?_
  refine q4 (c1.head) fun r hr=>?_
  have:1≤(cl k).length:=by rw[hr];simp
  refine⟨by exact RD this,by exact RC c2,⟨k,cl k,ay.mpr hk,c1,by exact RB⟩,fun k' xs h=>?_⟩
  have kk:=key k' xs h
  have e:=h.uniq (fS k' kk).1
  subst e
  have:=UU _ (List.mem_map.mpr ⟨k',ay.mp kk,rfl⟩)
  exact RA this
 refine aV W.ok.lim (W.kx 402 _ rfl) rfl rfl (codeRec_of W.kx rfl) rfl (names:=["_law_kept"]) (eK rfl fun _=>rfl) rfl (by decide) (fun n=>hU (.inr ⟨rfl,rfl⟩)) rfl rfl rfl fun A L bK hE R O=>?_
 refine aK (cj W.ok (gB W) (eV W.ok (dc R.handled (Pe.ev (aa rfl) ⟨hd,kvs,rfl,D,?_⟩)) rfl (by decide) rfl (by decide) rfl (mI ⟨rfl,rfl,rfl⟩ qA)))
 refine cL (((kvs.map (·.1)).map fun k=>((cl k).length:Int)-1).map V.int) (by simp) (by simp;exact fB hs bf) ?_ ?_
 ·intro i d C hE dz
  refine q2 (aI dz) fun Fg hk Ff=>?_;obtain⟨k,dk⟩:=Fg;obtain rfl:=Ff
  have kk:aJ kvs k:=⟨dk,bU E.nd (List.mem_of_getElem? hk)⟩
  refine⟨_,aQ (aQ (aQ hk)),?_⟩
  refine aw (Pe.of_ext (d:=.int (cl k).length) (cj W.ok (bu W) (cy W.ok (W.glob rfl) (W.kx 397 _ rfl) rfl R O.frames (aa rfl) (aa rfl) (Fn.mono (cf W H hd kvs tx rk k D E kk) (fun d H3 z=>?_) fun _ _ z=>z.elim)))) ae dF
  refine nR (d0:=d) (d1:=H3) z fun a3 o3 xs h3 ch xl=>?_;clear z
  have e:=ch.uniq (fS k kk).1
  subst e
  exact(cT (ai.same H a3 o3 ((cl k).map V.int)) (by rw[List.length_map];exact iF hs xl)).op ⟨congrArg V.int (by rw[List.length_map]),aC.set (aC.refl _) h3⟩
 ·intro a o ha
  exact(w9 R.handled (ai.same _ _ _ _) hM1 UU).op ⟨aC.set (aC.refl _) ha,rfl⟩
theorem Ga{nm:List Int}{many:Nat}{s:Int}(h1:1≤many)(nl:nm.length=many)(nd:nm.Nodup)(np:∀x∈nm,0≤x):
  ((List.range many).map fun k:Nat=>nm.getD (((k:Int)+s) % (many:Int)).toNat 0).Nodup∧∀x∈(List.range many).map fun k:Nat=>nm.getD (((k:Int)+s) % (many:Int)).toNat 0,0≤x:=by
 have lt:∀k:Nat,(((k:Int)+s) % (many:Int)).toNat<nm.length:=fun k=>by
  have a:=Int.emod_nonneg ((k:Int)+s) (b:=(many:Int)) (pB h1)
  have b:=Int.emod_lt_of_pos ((k:Int)+s) (b:=(many:Int)) (m5 h1)
  exact RE h1 nl b
 have ge:∀k:Nat,nm.getD (((k:Int)+s) % (many:Int)).toNat 0=nm[(((k:Int)+s) % (many:Int)).toNat]'(lt k):=fun k=>by
  rw[List.getD_eq_getElem?_getD,List.getElem?_eq_getElem (lt k)];rfl
 constructor
 ·refine List.Pairwise.map _ ?_ (List.Pairwise.and_mem.mp List.nodup_range)
  rintro a b Iq e;refine iz Iq fun ha hb de=>?_;clear Iq
  rw[ge a,ge b] at e
  have e2:=(List.getElem_inj (h₀:=lt a) (h₁:=lt b) nd).mp e
  have pa:=Int.emod_nonneg ((a:Int)+s) (b:=(many:Int)) (pB h1)
  have pb:=Int.emod_nonneg ((b:Int)+s) (b:=(many:Int)) (pB h1)
  have ha:=List.mem_range.mp ha
  have hb:=List.mem_range.mp hb
  have:=yg (m:=(many:Int)) (m5 h1) (a:=(a:Int)+s) (b:=(b:Int)+s) (Rz e2 pa pb) (Bb ha) (Bb hb)
  exact de (Ry this)
 ·intro x hx
  refine q2 (List.mem_map.mp hx) fun k _ Fp=>?_;obtain rfl:=Fp
  rw[ge k];exact np _ (List.getElem_mem _)
inductive MdI(H2:AH)(ca ao ak ta:Addr)(ord:List Int)(many i:Nat)(m':bL)(H':AH):Prop  | mk (kvs:List (Int×V)) (tx:Int→List Nat):bh kvs tx (fun x=>ord.idxOf x)→kvs.map (·.1)=ord.take i→aC H2 H'→ax H' ak kvs→ax H' ta ((ord.take i).map fun x=>(x,V.s (tx x)))→(∀x,aJ kvs x→(tx x).length≤400+9*i)→m' (Str.ofString "_law_cells_here")=some (.ref ca)→m' (Str.ofString "_law_many")=some (.int many)→m' (Str.ofString "_law_order")=some (.ref ao)→m' (Str.ofString "_law_kept")=some (.ref ak)→m' (Str.ofString "_law_texts")=some (.ref ta)→MdI H2 ca ao ak ta ord many i m' H'
theorem xS(W:Lw c (KK P) sc ns)(H:AH)(ca:Addr)(cs:List Int)(many:Nat)(shift:Int)(lc:ai H ca (cs.map V.int))(hl:cs.length=3*many)(h1:1≤many)(h2:many≤14):
  Fn c 4 (.ref 385) [.ref ca,.int shift] H (fun d H'=>∃(ar ak ta:Addr) (kvs:List (Int×V)) (tx:Int→List Nat) (rk:Int→Nat),d=.ref ar∧aC H H'∧H ar=none∧H ak=none∧H ta=none∧ai H' ar [.ref ak,.ref ta]∧ax H' ak kvs∧ax H' ta (kvs.map fun p=>(p.1,V.s (tx p.1)))∧bh kvs tx rk∧kvs.length=many∧ak≠ta∧∀k,aJ kvs k→0≤k∧(tx k).length≤600) (fun _ _=>False):=by
 have hs:1000000≤sizeLine:=by decide
 refine Fn.gen fun QQ eH=>?_;refine aV W.ok.lim (W.kx 385 _ rfl) rfl rfl (codeRec_of W.kx rfl) rfl (names:=["_law_cells_here","_law_shift"]) (cR rfl fun _ _=>rfl) rfl (by decide) (fun n=>eI (.inl rfl) (.inr ⟨rfl,rfl⟩)) rfl rfl rfl fun A L bK hE R O=>?_
 have R1:bw 1 A:=R.le (m6)
 have R2:bw 2 A:=R.le (vL)
 have UH:(cs.map V.int).length=3*many:=by rw[List.length_map];exact hl
 refine ag (Pe.ev (aw (ck W.ok (bu W) (aa rfl) (cT lc (AJ h2 hs UH))) ae (dG (by decide) (by decide))) ?_) (.inr ⟨rfl,rfl⟩)
 rw[show((cs.map V.int).length:Int) / 3=(many:Int) by exact QJ UH]
 refine ag (xu W.ok (W.glob rfl) (W.kx 373 _ rfl) rfl R1 O.frames (oM W.ok (aa rfl) (aw ae (aa rfl) (iu (cN (by decide)))) lc (QI) (QH UH) (AJ h2 hs UH) fun sa so hsa=>?_)) (.inr ⟨rfl,rfl⟩)
 have e0:aC H (H.set sa ⟨so,.list ((cs.map V.int).drop (2*(many:Int)).toNat)⟩):=aC.set (aC.refl _) hsa
 have dl:(cs.drop (2*(many:Int)).toNat).length=many:=by rw[List.length_drop];exact QG hl
 refine Fn.mono (uX W _ sa (cs.drop (2*(many:Int)).toNat) (by rw[List.map_drop];exact ai.same _ _ _ _) (QF h2 dl)) (fun d H1 z=>?_) fun _ _ z=>z.elim
 refine q89 (d0:=d) z fun an nm e1 han ln nl nnd Zr=>?_;clear z
 rw[dl] at nl
 have ex1:=e0.trans e1
 have lc1:=ex1.list lc
 refine q3 (Ga (s:=shift / 2) h1 nl nnd Zr) fun or1 or2=>?_
 refine cU W.ok (cW R.handled ((bF W.ok (eD W)).ev ⟨rfl,Pe.ev (aa rfl) ⟨many,rfl,by omega,by omega,?_⟩⟩)) rfl rfl (by decide) rfl (by decide) rfl (mI ⟨rfl,rfl,rfl⟩ (mI ⟨rfl,rfl,rfl⟩ (mI ⟨rfl,rfl,rfl⟩ qA))) (.inl rfl)
 refine cL (((List.range many).map fun k:Nat=>nm.getD (((k:Int)+shift / 2) % (many:Int)).toNat 0).map V.int) (by simp) (by rw[List.length_map,List.length_range];simp;exact AI h2 hs) ?_ ?_
 ·intro i d C hE hd
  refine q2 (aI hd) fun k hk Fe=>?_;obtain rfl:=Fe
  refine⟨_,aQ (aQ (by simpa using hk)),?_⟩
  have a:=Int.emod_nonneg ((k:Int)+shift / 2) (b:=(many:Int)) (pB h1)
  have b:=Int.emod_lt_of_pos ((k:Int)+shift / 2) (b:=(many:Int)) (m5 h1)
  have gi:(((k:Int)+shift / 2) % (many:Int)).toNat<nm.length:=by exact QE h1 nl b
  refine aj (aa rfl) (aw (aw (aa rfl) (aw (aa rfl) ae (dG (by decide) (by decide))) bx) (aa rfl) (bV (m5 h1))) (bN (j:=(((k:Int)+shift / 2) % (many:Int)).toNat) ln (bo a (by rw[List.length_map];exact QD nl b)) ?_ (QC h2 a b))
  rw[List.getElem?_map,List.getElem?_eq_getElem gi,List.getD_eq_getElem?_getD,List.getElem?_eq_getElem gi];rfl
 intro ao oo hao
 have cao:ca≠ao:=lc1.ne_new hao
 refine xj (fun m2 H'=>(∃(o:Obj) (ord:List Int),H'=H1.set ao ⟨o,.list (ord.map V.int)⟩∧ord.length=many∧ord.Nodup∧∀x∈ord,0≤x)∧m2 (Str.ofString "_law_cells_here")=some (.ref ca)∧m2 (Str.ofString "_law_many")=some (.int many)∧m2 (Str.ofString "_law_order")=some (.ref ao)) (aH (aw (aa rfl) ae (bV (by decide))) ae fg beq_iff_eq) (fun _=>?_) (fun _=>?_) ?_
 ·refine cv (xp plainAttrs_list slot_list_reverse (Pe.ev (aa rfl) ⟨eO (ai.same _ _ _ _),ur (ai.same _ _ _ _) (by simp;exact AI h2 hs) fun o'=>⟨fun h v i a e=>(by rw[aG i] at e;exact nomatch e),aO ⟨rfl,⟨o',((List.range many).map fun k:Nat=>nm.getD (((k:Int)+shift / 2) % (many:Int)).toNat 0).reverse,?_,by simp,List.pairwise_reverse.mpr (or1.imp fun h=>h.symm),fun x hx=>or2 x (List.mem_reverse.mp hx)⟩,rfl,rfl,rfl⟩⟩⟩) type_list_reverse)
  rw[AH.set_set,List.map_reverse]
 ·exact aO ⟨rfl,⟨oo,(List.range many).map fun k:Nat=>nm.getD (((k:Int)+shift / 2) % (many:Int)).toNat 0,rfl,by simp,or1,or2⟩,rfl,rfl,rfl⟩
 rintro m2 H' Xv;obtain⟨⟨o2,ord,rfl,ol,ond,Yi⟩,mc,mm,mo⟩:=Xv
 have lo:ai (H1.set ao ⟨o2,.list (ord.map V.int)⟩) ao (ord.map V.int):=ai.same _ _ _ _
 have Gr:=lc1.ne (x:=⟨o2,.list (ord.map V.int)⟩) cao
 have uh:aC H (H1.set ao ⟨o2,.list (ord.map V.int)⟩):=aC.upd ex1 (ex1.none hao)
 generalize H1.set ao ⟨o2,.list (ord.map V.int)⟩=H2 at lo Gr uh ⊢
 refine ag (fO W.ok fun ak ok sr=>?_) (.inl rfl)
 refine ag (fO W.ok fun ta ot xF=>?_) (.inl rfl)
 have wq:H2 ta=none:=(aC.set (x:=⟨ok,.dict []⟩) (aC.refl H2) sr).none xF
 have y5:ak≠ta:=(ax.same H2 ak ok []).ne_new xF
 have zZ:∀ {i:Nat} {x:Int},ord[i]?=some x→ord.idxOf x=i:=fun h=>Gx ond h
 have gC:∀ {H':AH} {f:Fx} {i:Int} {k:Nat},ai H' ca (cs.map V.int)→i=(k:Int)→k<3*many→G2 c f H' (.ref ca) (.int i) (.int (cs.getD k 0)):=fun {H' f i k} h hi hk=>by
  subst hi
  refine bN (j:=k) h ((bo (dW) (QB UH hk)).trans (congrArg some (vH))) ?_ (QA h2 hk)
  rw[List.getElem?_map,List.getElem?_eq_getElem (AG hl hk),List.getD_eq_getElem?_getD,List.getElem?_eq_getElem (AG hl hk)];rfl
 have gO:∀ {H':AH} {f:Fx} {i:Int} {k:Nat} {x:Int},ai H' ao (ord.map V.int)→i=(k:Int)→ord[k]?=some x→G2 c f H' (.ref ao) (.int i) (.int x):=fun {H' f i k x} h hi hx=>by
  subst hi
  have:=(List.getElem?_eq_some_iff.mp hx).1
  exact bN (j:=k) h ((bo (dW) (by rw[List.length_map];exact AF this)).trans (congrArg some (vH))) (aQ hx) (Qz h2 ol this)
 refine ct O (cW R.handled ((bF W.ok (eD W)).ev ⟨rfl,Pe.ev (aa mm) ⟨many,rfl,by omega,by omega,MdI H2 ca ao ak ta ord many,
  ⟨[],fun _=>[],bh.nil fun k=>by have:=List.idxOf_le_length (a:=k) (l:=ord);exact Qx h2 ol this,by simp,aC.set (aC.set (aC.refl _) sr) xF,(ax.same _ _ _ _).fresh xF,by simpa using ax.same _ _ _ _,(fun x Cm=>q4 Cm fun d e=>nomatch e),mc,mm,mo,rfl,rfl⟩,?_,?_⟩⟩)) (.inl rfl)
 ·rintro i d m' H' kp hd wG _
  refine Ex.gen fun QQ hQ=>?_
  obtain⟨kvs,tx,E,uG,ex,dk,dt,short,mc,mm,mo,mk,mt⟩:=wG
  refine q2 (aI hd) fun k hk Fd=>?_;obtain rfl:=Fd
  refine q3 (jg hk) fun hi Fc=>?_;obtain rfl:=Fc
  have qx:k<many:=by exact vG hi
  obtain⟨x,hx⟩:∃x,ord[k]?=some x:=⟨_,List.getElem?_eq_getElem (vY ol qx)⟩
  have qC:=iV ond hx
  have xk:x∉kvs.map (·.1):=by rw[uG];exact qC
  have kl:kvs.length=k:=by have:=congrArg List.length uG;rw[List.length_map,List.length_take] at this;exact Qw ol qx this
  have ZG:=ex.list Gr
  have HD:=ex.list lo
  have afX:=sr
  refine ag (Pe.ev (aj (aa mc) (aa rfl) (gC ZG (k:=k) rfl (Qv qx))) ?_) (.inl rfl)
  refine ag (Pe.ev (aj (aa mc) (aw (aa mm) (aa rfl) bx) (gC ZG (k:=many+k) (Qu) (Qt qx))) ?_) (.inl rfl)
  generalize cs.getD k 0=one
  generalize cs.getD (many+k) 0=two
  have fin:∀ {l:List Nat} {dd:V} {o' o'':Obj},l.length≤400+9*(k+1)→(dd=.tup [.none,.s l]∨∃b a gone aS,dd=.tup [.int b,gE a gone aS]∧aJ kvs b∧ord.idxOf b<ord.idxOf x∧fT (tx b) l a gone aS)→
    bh (kvs++[(x,dd)]) (fun y=>if y=x then l else tx y) (fun x=>ord.idxOf x)∧(kvs++[(x,dd)]).map (·.1)=ord.take (k+1)∧aC H2 ((H'.set ta ⟨o',.dict (((ord.take k).map fun x=>(x,V.s (tx x)))++[(x,.s l)])⟩).set ak ⟨o'',.dict (kvs++[(x,dd)])⟩)∧ax ((H'.set ta ⟨o',.dict (((ord.take k).map fun x=>(x,V.s (tx x)))++[(x,.s l)])⟩).set ak ⟨o'',.dict (kvs++[(x,dd)])⟩) ak (kvs++[(x,dd)])∧ax ((H'.set ta ⟨o',.dict (((ord.take k).map fun x=>(x,V.s (tx x)))++[(x,.s l)])⟩).set ak ⟨o'',.dict (kvs++[(x,dd)])⟩) ta ((ord.take (k+1)).map fun y=>(y,V.s (if y=x then l else tx y)))∧∀y,aJ (kvs++[(x,dd)]) y→(if y=x then l else tx y).length≤400+9*(k+1):=by
   intro l dd o' o'' BR dz
   have et:ord.take (k+1)=ord.take k++[x]:=by rw[List.take_add_one,hx];rfl
   refine⟨E.put xk (Qs h2 qx kl) (Qr h2 qx BR) dz,by rw[List.map_append,uG,et];rfl,aC.upd (aC.upd ex wq) sr,ax.same _ _ _ _,?_,fun y hy=>?_⟩
   ·rw[et,List.map_append]
    have e1:((ord.take k).map fun y=>(y,V.s (if y=x then l else tx y)))=(ord.take k).map fun x=>(x,V.s (tx x)):=List.map_congr_left fun y hy=>by rw[if_neg (fun e:y=x=>qC (e▸hy))]
    rw[e1]
    simp only[List.map_cons,List.map_nil,if_true]
    exact(ax.same _ _ _ _).ne y5.symm
   ·by_cases e:y=x
    ·rw[if_pos e];exact BR
    ·rw[if_neg e]
     rw[ay,List.map_append] at hy
     rcases List.mem_append.mp hy with q | q
     ·have:=short y (ay.mpr q);exact Qq this
     ·simp at q;exact(e q).elim
  have gx:∀ {l:List Nat},aF (((ord.take k).map fun x=>(x,V.s (tx x)))++[(x,.s l)]) x=some (.s l):=fun {l}=>by rw[bC (by rw[iX];exact qC),if_pos rfl]
  refine aL (fN (bg (aH (aa rfl) ae fg beq_iff_eq) fun _=>bg (aH (aw (aa rfl) ae (bV (by decide))) ae fg beq_iff_eq) fun _=>dm)) (fun _=>?_) (fun g=>?_)
  ·refine bl (gK W.ok (W.glob rfl) (W.kx 338 _ rfl) rfl R2 O.frames (Pe.ev (aw (aa rfl) ae (dG (by decide) (by decide))) (kL W.ok (W.glob rfl) (W.kx 380 _ rfl) rfl R1 O.frames (aa rfl) (Fn.mono (xO W H' two) (fun d H4 z=>?_) fun _ _ z=>z.elim))))
   refine q91 (d0:=H4) (d1:=d) z fun s s0 s1=>?_;clear z
   refine Fn.mono (lk W H' (two / 9) s s0 (Qp s1)) (fun d H5 z=>?_) fun _ _ z=>z.elim
   refine xX (d0:=d) (d1:=H5) z ?_;clear z
   have BR:=kX (two / 9) s
   generalize VO (two / 9) s=l at BR
   refine Pe.ev (aa mt) (Pe.ev (aj (aa mo) (aa rfl) (gO HD (k:=k) rfl hx)) ⟨ta,_,x,rfl,rfl,dt,by simp;exact AE h2 hs qx,fun o'=>?_⟩)
   rw[cc (by rw[iX];exact qC)]
   have W5:ao≠ta:=lo.ne_new wq
   have WQ:ax (H'.set ta ⟨o',.dict (((ord.take k).map fun x=>(x,V.s (tx x)))++[(x,.s l)])⟩) ta (((ord.take k).map fun x=>(x,V.s (tx x)))++[(x,.s l)]):=ax.same _ _ _ _
   have Ud:=HD.ne (x:=⟨o',.dict (((ord.take k).map fun x=>(x,V.s (tx x)))++[(x,.s l)])⟩) W5
   have dk4:=dk.ne (x:=⟨o',.dict (((ord.take k).map fun x=>(x,V.s (tx x)))++[(x,.s l)])⟩) y5
   refine bl (Pe.ev (bM (au bS (au (aj (aa mt) (aj (aa mo) (aa rfl) (gO Ud (k:=k) rfl hx)) (aT WQ gx)) aU)) (by show 2≤sizeLine;exact cH hs)) (Pe.ev (aa mk) (Pe.ev (aj (aa mo) (aa rfl) (gO Ud (k:=k) rfl hx)) ⟨ak,_,x,rfl,rfl,dk4,by exact AD h2 hs qx kl,fun o''=>?_⟩)))
   rw[cc xk]
   obtain⟨f1,f2,f3,f4,f5,f6⟩:=fin (l:=l) (o':=o') (o'':=o'') (Qo s1 BR) (.inl rfl)
   exact aO (hQ _ _ _ ⟨⟨_,_,f1,f2,f3,f4,f5,f6,mc,mm,mo,mk,mt⟩,fun _ h=>nomatch h⟩)
  ·have BS:1≤k:=by
    apply Classical.byContradiction;intro q
    exact g (.inl (Qm q))
   obtain⟨y1,kV⟩:∃y,ord[k-1]?=some y:=⟨_,List.getElem?_eq_getElem (Ql ol qx)⟩
   have q0:0≤one / 5 % (k:Int):=Int.emod_nonneg _ (pB BS)
   have q1:one / 5 % (k:Int)<k:=Int.emod_lt_of_pos _ (m5 BS)
   obtain⟨y2,qU⟩:∃y,ord[(one / 5 % (k:Int)).toNat]?=some y:=⟨_,List.getElem?_eq_getElem (Qk ol qx q1)⟩
   refine ag (Pe.ev (aj (aa mo) (aw (aa rfl) ae dF) (gO HD (k:=k-1) (Qj BS) kV)) ?_) (.inl rfl)
   refine fy (aH (aw (aa rfl) ae (bV (by decide))) ae jw decide_eq_true_iff) (fun _=>aj (aa mo) (aw (aw (aa rfl) ae (dG (by decide) (by decide))) (aa rfl) (bV (m5 BS))) (gO HD (k:=(one / 5 % (k:Int)).toNat) (Qi q0) qU)) (fun d tU=>?_) (.inl rfl)
   obtain⟨b,j,rfl,hj,hb⟩:∃(b:Int) (j:Nat),d=.int b∧j<k∧ord[j]?=some b:=by
    rcases tU with ⟨_,rfl⟩ | ⟨_,rfl⟩
    ·exact⟨y2,_,rfl,by exact Qh q0 q1,qU⟩
    ·exact⟨y1,_,rfl,by exact pG BS,kV⟩
   have bt:b∈ord.take k:=by
    refine List.mem_of_getElem? (i:=j) ?_
    rw[List.getElem?_take,if_pos hj];exact hb
   have kb:aJ kvs b:=ay.mpr (by rw[uG];exact bt)
   have sb:=short b kb
   have gb:aF ((ord.take k).map fun x=>(x,V.s (tx x))) b=some (.s (tx b)):=fM (g:=fun x=>V.s (tx x)) bt
   refine bl (cy W.ok (W.glob rfl) (W.kx 345 _ rfl) rfl R O.frames (aj (aa mt) (aa rfl) (aT dt gb)) (aa rfl) (Fn.mono (hK W H' (tx b) two (Qg h2 qx sb)) (fun d H4 z=>?_) fun _ _ z=>z.elim))
   refine Hw (d0:=H4) (d1:=d) z fun l BR=>?_;clear z
   refine Pe.ev (aa mt) (Pe.ev (aj (aa mo) (aa rfl) (gO HD (k:=k) rfl hx)) ⟨ta,_,x,rfl,rfl,dt,by simp;exact AE h2 hs qx,fun o'=>?_⟩)
   rw[cc (by rw[iX];exact qC)]
   have W5:ao≠ta:=lo.ne_new wq
   have cne:ca≠ta:=Gr.ne_new wq
   have WQ:ax (H'.set ta ⟨o',.dict (((ord.take k).map fun x=>(x,V.s (tx x)))++[(x,.s l)])⟩) ta (((ord.take k).map fun x=>(x,V.s (tx x)))++[(x,.s l)]):=ax.same _ _ _ _
   have Ud:=HD.ne (x:=⟨o',.dict (((ord.take k).map fun x=>(x,V.s (tx x)))++[(x,.s l)])⟩) W5
   have Uj:=ZG.ne (x:=⟨o',.dict (((ord.take k).map fun x=>(x,V.s (tx x)))++[(x,.s l)])⟩) cne
   have dk4:=dk.ne (x:=⟨o',.dict (((ord.take k).map fun x=>(x,V.s (tx x)))++[(x,.s l)])⟩) y5
   have gb4:aF (((ord.take k).map fun x=>(x,V.s (tx x)))++[(x,.s l)]) b=some (.s (tx b)):=by rw[bC (by rw[iX];exact qC),if_neg (fun e:b=x=>qC (e▸bt))];exact gb
   refine bl (cP (az (Pe.ev (aa rfl) (az (nK W.ok (W.glob rfl) (W.kx 366 _ rfl) rfl R2 O.frames (aj (aa mt) (aa rfl) (aT WQ gb4)) (aj (aa mt) (aj (aa mo) (aa rfl) (gO Ud (k:=k) rfl hx)) (aT WQ gx)) (aw (aj (aa mc) (aw (aw ae (aa mm) (iu (cN (by decide)))) (aa rfl) bx) (gC Uj (k:=2*many+k) (Qf) (Qe qx))) ae (bV (by decide))) (Fn.mono (lj W _ (tx b) l _ (Qd h2 qx sb) (Qc h2 qx sb BR)) (fun d H5 z=>?_) fun _ _ z=>z.elim))))))
   refine q93 (d0:=H5) (d1:=d) z fun a gone aS st=>?_;clear z
   refine bk ⟨by show 2≤sizeLine;exact cH hs,?_⟩
   refine Pe.ev (aa mk) (Pe.ev (aj (aa mo) (aa rfl) (gO Ud (k:=k) rfl hx)) ⟨ak,_,x,rfl,rfl,dk4,by exact AD h2 hs qx kl,fun o''=>?_⟩)
   rw[cc xk]
   obtain⟨f1,f2,f3,f4,f5,f6⟩:=fin (l:=l) (o':=o') (o'':=o'') (Qb sb BR) (.inr ⟨b,a,gone,aS,rfl,kb,by rw[zZ hb,zZ hx];exact hj,st⟩)
   exact aO (hQ _ _ _ ⟨⟨_,_,f1,f2,f3,f4,f5,f6,mc,mm,mo,mk,mt⟩,fun _ h=>nomatch h⟩)
 ·rintro m' H' Xu _;obtain⟨kvs,tx,E,uG,ex,dk,dt,short,mc,mm,mo,mk,mt⟩:=Xu
  rw[List.length_map,List.length_range] at uG dt short
  rw[List.take_of_length_le (by simp;exact Bw ol)] at uG dt
  refine aK (cw W.ok (nG.nz (au (aa mk) (au (aa mt) aU)) ⟨by show 2≤sizeLine;exact cH hs,fun ar o Wz=>?_⟩))
  have kl:kvs.length=many:=by have:=congrArg List.length uG;rw[List.length_map] at this;exact Bx ol this
  refine(eH _ _ ⟨ar,ak,ta,kvs,tx,_,rfl,aC.set (uh.trans ex) Wz,(uh.trans ex).none Wz,uh.none sr,uh.none wq,ai.same _ _ _ _,dk.fresh Wz,?_,E,kl,y5,fun k hk=>⟨?_,?_⟩⟩)
  ·rw[show(kvs.map fun p=>(p.1,V.s (tx p.1)))=(kvs.map (·.1)).map fun x=>(x,V.s (tx x)) by rw[List.map_map];rfl,uG];exact dt.fresh Wz
  ·exact Yi k (by rw[← uG];exact ay.mp hk)
  ·have:=short k hk;simp at this;exact Qa h2 this
theorem uZ(W:Lw c (KK P) sc ns)(H:AH)(kvs:List (Int×V))(tx:Int→List Nat)(rk:Int→Nat)(k:Int)(E:bh kvs tx rk)(hk:aJ kvs k):
  Fn c 2 (.ref 409) [row kvs k] H (fun d H'=>d=.bool true∧H'=H) (fun _ _=>False):=by
 have ent:=E.ent k _ (aB hk)
 unfold row
 generalize aE kvs k=d0 at ent
 refine aV W.ok.lim (W.kx 409 _ rfl) rfl rfl (codeRec_of W.kx rfl) rfl (names:=["_law_row"]) (eK rfl fun _=>rfl) rfl (by decide) (fun n=>hU (.inl rfl)) rfl rfl rfl fun A L bK hE R O=>?_
 refine aL (fN (bg (gG (w5 (gH W.ok (bW W) (p3 W) (aa rfl) B9))) fun _=>bg (aH (P:=False) (ck W.ok (bu W) (aa rfl) (B8 (cF _ _ _))) ae qv (by simp)) fun _=>bg (gG (jv (P:=True) (gw W.ok (W.glob rfl) (W.kx 326 _ rfl) rfl R O.frames (aj (aa rfl) ae (bB (d:=.int k) (j:=0) rfl rfl (by decide))) (jz W H k)) (by simp))) fun _=>dm)) (fun g=>?_) (fun _=>?_)
 ·simp at g
 cases ent with
 | root=>
  refine aL (dM (aj (aa rfl) ae (bB (d:=.none) (j:=1) rfl rfl (by decide)))) (fun _=>?_) (fun g=>(g rfl).elim)
  exact aK (Pe.ev (Pb.pe (gH W.ok (bW W) (qZ W) (aj (aa rfl) ae (bB (d:=.s (tx k)) (j:=2) rfl rfl (by decide))) xd) (by simp)) ⟨rfl,rfl⟩)
 | lean b a gone aS hb cA st=>
  refine aL (dM (aj (aa rfl) ae (bB (d:=.int b) (j:=1) rfl rfl (by decide)))) (fun g=>nomatch g) (fun _=>?_)
  refine aL (fN (bg (gG (jv (P:=True) (gw W.ok (W.glob rfl) (W.kx 326 _ rfl) rfl R O.frames (aj (aa rfl) ae (bB (d:=.int b) (j:=1) rfl rfl (by decide))) (jz W H b)) (by simp))) fun _=>bg (gG (w5 (gH W.ok (bW W) (p3 W) (aj (aa rfl) ae (bB (d:=gE a gone aS) (j:=2) rfl rfl (by decide))) B9))) fun _=>bg (aH (P:=False) (ck W.ok (bu W) (aj (aa rfl) ae (bB (d:=gE a gone aS) (j:=2) rfl rfl (by decide))) (B8 (cF _ _ _))) ae qv (by simp)) fun _=>dm)) (fun g=>?_) (fun _=>?_)
  ·simp at g
  refine aK (Pe.ev (Pb.pe (P:=True∧true=true∧true=true) (oF ?_ fun _=>oF ?_ fun _=>oE ?_) (by simp)) ⟨rfl,rfl⟩)
  ·exact(gw W.ok (W.glob rfl) (W.kx 326 _ rfl) rfl R O.frames (aj (aj (aa rfl) ae (bB (d:=gE a gone aS) (j:=2) rfl rfl (by decide))) ae (bB (d:=.int a) (j:=0) rfl rfl (by decide))) (jz W H a)).pb (by simp)
  ·exact gH W.ok (bW W) (qZ W) (aj (aj (aa rfl) ae (bB (d:=gE a gone aS) (j:=2) rfl rfl (by decide))) ae (bB (d:=.s gone) (j:=1) rfl rfl (by decide))) xd
  ·exact gH W.ok (bW W) (qZ W) (aj (aj (aa rfl) ae (bB (d:=gE a gone aS) (j:=2) rfl rfl (by decide))) ae (bB (d:=.s aS) (j:=2) rfl rfl (by decide))) xd
theorem oY(W:Lw c (KK P) sc ns)(H:AH)(af ak:Addr)(kvs:List (Int×V))(aX:List Int)(tx:Int→List Nat)(rk:Int→Nat)(lf:ai H af (cX kvs aX))(S:fR kvs aX)(D:ax H ak kvs)(E:bh kvs tx rk):
  Fn c 3 (.ref 416) [.ref af,.ref ak] H (fun d H'=>d=.bool true∧H'=H) (fun _ _=>False):=by
 have hs:1000000≤sizeLine:=by decide
 refine Fn.of_ext (Fn.mono (Q:=fun d H'=>aC H H'∧d=.bool true) (X:=fun _ _=>False) ?_ (fun d H' z=>⟨z.1,z.2,rfl⟩) fun _ _ z=>z.elim)
 refine aV W.ok.lim (W.kx 416 _ rfl) rfl rfl (codeRec_of W.kx rfl) rfl (names:=["_law_found","_law_kept"]) (cR rfl fun _ _=>rfl) rfl (by decide) (fun n=>eI (.inl rfl) (.inl rfl)) rfl rfl rfl fun A L bK hE R O=>?_
 have R1:bw 1 A:=R.le (rQ)
 have hu:A.units+100<cLine:=by have:=R.units;exact Ba this
 refine aL (gG (w5 (gH W.ok (bW W) (jD W) (aa rfl) (Hj lf)))) (fun g=>by simp at g) (fun _=>?_)
 refine ct O (bD R.handled (Pe.ev (aa rfl) ⟨af,_,rfl,lf,fun i m' H'=>H'=H∧m' (Str.ofString "_law_found")=some (.ref af)∧m' (Str.ofString "_law_kept")=some (.ref ak),⟨rfl,rfl,rfl⟩,?_,?_⟩)) (.inl rfl)
 ·rintro i d m' H' kp hd Ip _;refine iz Ip fun Fb mf mk=>?_;clear Ip;obtain rfl:=Fb
  refine q2 (aI hd) fun k hk Fa=>?_;obtain rfl:=Fa
  refine aL (gG (jv (P:=True) (gw W.ok (W.glob rfl) (W.kx 409 _ rfl) rfl R O.frames (aa rfl) (uZ W _ kvs tx rk k E (S.mem.mp (List.mem_of_getElem? hk)))) (by simp))) (fun g=>(g trivial).elim) (fun _=>aO ⟨⟨rfl,mf,mk⟩,fun _ _=>rfl⟩)
 ·rintro m' H' Io _;refine iz Io fun E9 mf mk=>?_;clear Io;obtain rfl:=E9
  refine aK (Hr ((aa mf).ev (kL W.ok (W.glob rfl) (W.kx 390 _ rfl) rfl R1 O.frames (aa mk) (Fn.mono (lu W _ ak kvs tx rk D E) (fun d H2 z=>?_) fun _ _ z=>z.elim))))
  refine oQ (d0:=d) z fun a ad4 e2 ha S2 l2=>?_;clear z
  obtain rfl:=S2.uniq S
  exact(Hu (e2.list lf) l2 rfl (E.alike_rows S2) (by show A.units+_<_;exact P9 hu)).op ⟨e2,rfl⟩
theorem u7(W:Lw c (KK P) sc ns)(H:AH)(start:Int)(many:Nat)(h0:0≤start)(h2:many≤100):
  Fn c 2 (.ref 421) [.ref sc,.int start,.int many] H (fun d H'=>∃(a:Addr) (cs:List Int),d=.ref a∧aC H H'∧H a=none∧ai H' a (cs.map V.int)∧cs.length=3*many) (fun _ _=>False):=by
 have hs:1000000≤sizeLine:=by decide
 refine aV W.ok.lim (W.kx 421 _ rfl) rfl rfl (codeRec_of W.kx rfl) rfl (names:=["_law_script","_law_start","_law_many"]) (jf rfl fun _ _ _=>rfl) rfl (by decide) (fun n=>lM (.inr ⟨rfl,rfl⟩) (.inr ⟨rfl,rfl⟩) (.inl rfl)) rfl rfl rfl fun A L bK hE R O=>?_
 refine aK (eV W.ok (cW R.handled ((bF W.ok (eD W)).ev ⟨rfl,Pe.ev (aw ae (aa rfl) (iu (cN (by decide)))) ⟨_,rfl,by omega,by omega,?_⟩⟩)) rfl (by decide) rfl (by decide) rfl (mI ⟨rfl,rfl,rfl⟩ (mI ⟨rfl,rfl,rfl⟩ qA)))
 refine cL (((List.range (3*(many:Int)).toNat).map fun k:Nat=>dg ns (start+k)).map V.int) (by simp) (by rw[List.length_map,List.length_range];exact P8 h2 hs) ?_ ?_
 ·intro i d C hE hd
  refine q2 (aI hd) fun k hk E8=>?_;obtain rfl:=E8
  exact⟨_,aQ (aQ hk),g9 W R O.frames rfl (aw (aa rfl) (aa rfl) bx) (vT h0)⟩
 ·intro a o ha
  exact⟨a,_,rfl,aC.set (aC.refl _) ha,ha,ai.same _ _ _ _,by rw[List.length_map,List.length_range];exact P7⟩
theorem hW{ks:List Int}{i:Nat}{k:Int}(h:ks[i]?=some k):ks.getD i 0=k:=by rw[List.getD_eq_getElem?_getD,h];rfl
theorem bh.jt{kvs:List (Int×V)}{tx:Int→List Nat}{rk:Int→Nat}(E:bh kvs tx rk):∃cl:Int→List Int,∀k,aJ kvs k→av (bases kvs) k (cl k)∧(cl k).length≤41:=by
 classical
 refine⟨fun k=>if h:aJ kvs k then Classical.choose (E.chain h) else[],fun k h=>?_⟩
 dsimp only;rw[dif_pos h];exact Classical.choose_spec (E.chain h)
theorem mj{kvs:List (Int×V)}{tx:Int→List Nat}{k:Int}(hk:aJ kvs k):aF (kvs.map fun p=>(p.1,V.s (tx p.1))) k=some (.s (tx k)):=by
 rw[show(kvs.map fun p=>(p.1,V.s (tx p.1)))=(kvs.map (·.1)).map fun x=>(x,V.s (tx x)) by rw[List.map_map];rfl]
 exact fM (g:=fun x=>V.s (tx x)) (ay.mp hk)
theorem fJ(kvs:List (Int×V)):∃aX,fR kvs aX:=by
 refine⟨(kvs.map (·.1)).mergeSort (fun a b=>decide (a≤b)),List.mergeSort_perm _ _,?_⟩
 have:=List.pairwise_mergeSort (le:=fun a b:Int=>decide (a≤b)) (fun a b c h1 h2=>by simp at *;exact Rw h1 h2) (fun a b=>by simp;exact Rv) (kvs.map (·.1))
 exact this.imp fun h=>by simpa using h
theorem gX{aX:List Int}(h:aX≠[]):aX[aX.length-1]?=some (cY aX):=by
 unfold cY
 rw[← List.getLast?_eq_getElem?]
 cases q:aX.getLast? with
 | none=>exact(h (List.getLast?_eq_none_iff.mp q)).elim
 | some y=>rfl
theorem tK{aX:List Int}(pw:aX.Pairwise (·≤·)){k:Int}(h:k∈aX):k≤cY aX:=by
 have de:aX≠[]:=List.ne_nil_of_mem h
 obtain⟨j,hj,e⟩:=List.getElem_of_mem h
 refine q4 (List.getElem?_eq_some_iff.mp (gX de)) fun hl e2=>?_
 by_cases q:j=aX.length-1
 ·subst q;exact Rt e2 e
 ·have:=List.pairwise_iff_getElem.mp pw j (aX.length-1) hj hl (Rr hj q)
  exact Bg e e2 this
theorem dS.put{kvs kvs':List (Int×V)}(h:dS kvs kvs'){n:Int}{d:V}(hn:¬aJ kvs' n):dS (kvs++[(n,d)]) (kvs'++[(n,d)]):=fun k=>by
 rw[bC (fun q=>hn (h.key.mp (ay.mpr q))),bC (fun q=>hn (ay.mpr q)),h k]
theorem kI(W:Lw c (KK P) sc ns){f:Fx}{m:bL}{H:AH}{o e:Expr}{ap p1 p2 p:Pos}{x dx hd ak:Addr}{b n:Int}{bG kv:List (Int×V)}{tx Ia:Int→List Nat}{rk fk:Int→Nat}(R:bw 3 f.A)(pW:f.A.frames=some f.bK)(ho:Pe c f o m H (.ref x))(he:∀H',aC H H'→Pe c f e m H' (.ref ak))(PA:bc H x dx hd b n bG)(EP:bh bG tx rk)(D:ax H ak kv)(E:bh kv Ia fk)(dj:dS bG kv)
  (hg:autoParam (f.env.globals=mainGlobals) aR._auto_1) (hb:autoParam (f.env.builtins=builtinsNs) aR._auto_1) (hk:autoParam (f.env.scope.kind=.function) aR._auto_1) (hn:autoParam (f.env.kindOf (Str.ofString "_law_rows_are")=some .globalImplicit) aR._auto_1)
  (dA:autoParam (attributeBase o (Str.ofString "rows") f.env (eval o f.env)=eval o f.env) aR._auto_1) (dY:autoParam ((ap.endLine == p1.line)=true) aR._auto_1)
  (ik:autoParam (starEach [.Call (.Attribute o (Str.ofString "rows") ap) [] [] p1,e] f.env=(false,eval (.Call (.Attribute o (Str.ofString "rows") ap) [] [] p1) f.env)::starEach [e] f.env) aR._auto_1) (GA:autoParam (starEach [e] f.env=(false,eval e f.env)::starEach [] f.env) aR._auto_1) :
  Pe c f (.Call (.Name (Str.ofString "_law_rows_are") p2) [.Call (.Attribute o (Str.ofString "rows") ap) [] [] p1,e] [] p) m H (.bool true):=by
 refine Pe.of_ext (gK W.ok (W.glob rfl) (W.kx 416 _ rfl) rfl R pW (hF W.kx pc (R.le (m6)) pW ho PA.i rfl ow om (W.kx 244 _ rfl) rfl (Fn.mono (nO W H x dx hd b n bG tx rk PA EP) (fun d H1 z=>?_) fun _ _ z=>z.elim) dA dY) hg hb hk hn (by decide) ik GA)
 refine oQ (d0:=d) z fun a aX e1 ha S la=>?_;clear z
 have SK:=dj.aX EP.nd E.nd S
 rw[dj.rows] at la
 exact(he H1 e1).ev (Fn.mono (oY W H1 a ak kv aX Ia fk la SK (e1.dict D) E) (fun d H2 z=>by refine xX (d0:=d) (d1:=H2) z ?_;clear z;exact⟨rfl,e1⟩) fun _ _ z=>z.elim)
theorem i7(W:Lw c (KK P) sc ns)(H:AH)(x dx hd:Addr)(b n o:Int)(kvs:List (Int×V))(tx:Int→List Nat)(rk:Int→Nat)(l:List Nat)(xs:List Int)(PA:bc H x dx hd b n kvs)(E:bh kvs tx rk)(bf:kvs.length<40)(hl:l.length≤20000)(hn:¬aJ kvs n)(ho:aJ kvs o)(hx:av (bases kvs) o xs)(hb:(xs.length:Int)≤b):
  Fn c 4 (.ref 204) [.ref x,.s l,.int o] H (fun d H'=>d=.int n∧(∃a e:Nat,qu (tx o) l a e∧bc H' x dx hd b (n+1) (kvs++[(n,.tup [.int o,.tup [.int a,.s (((tx o).take ((tx o).length-e)).drop a),.s ((l.take (l.length-e)).drop a)]])]))∧dO H H' dx hd) (fun _ _=>False):=by
 have hs:1000000≤sizeLine:=by decide
 have so:=E.short o ho
 refine Fn.gen fun QQ eH=>?_
 refine aV W.ok.lim (W.kx 204 _ rfl) rfl rfl (codeRec_of W.kx rfl) rfl (names:=["self","text","beside"]) (jf rfl fun _ _ _=>rfl) rfl (by decide) (fun n=>lM (.inl rfl) (.inl rfl) (.inl rfl)) rfl rfl rfl fun A L bK hE R O=>?_
 have R1:bw 1 A:=R.le (m6)
 have R2:bw 2 A:=R.le (vL)
 refine ag (Pe.ev (bM (au bS (au (aa rfl) aU)) (by show 2≤sizeLine;exact cH hs)) ?_) (.inl rfl)
 refine aL (bq (aa rfl)) (fun _=>?_) (fun g=>(g (fun z=>nomatch z)).elim)
 refine cv (fw W R2 O.frames (aa rfl) (aa rfl) PA ho ⟨dp rfl,?_⟩)
 refine ag (cP (az (Pe.ev (aa rfl) (az (gK W.ok (W.glob rfl) (W.kx 120 _ rfl) rfl R1 O.frames (dZ W.kx pc R O.frames (aa rfl) PA.i rfl gf gc (W.kx 211 _ rfl) rfl (aa rfl) (Fn.mono (fU W H x dx hd b n o kvs tx rk PA E ho) (fun d H1 z=>?_) fun _ _ z=>z.elim))))))) (.inl rfl)
 refine xX (d0:=d) (d1:=H1) z ?_;clear z
 refine(aa rfl).ev (Fn.mono (fq W _ (tx o) l (eX so) (eX hl)) (fun d H z=>?_) fun _ _ z=>z.elim)
 refine q95 (d0:=d) z fun a e E7 C=>?_;clear z;obtain rfl:=E7
 refine bk ⟨by show 2≤sizeLine;exact cH hs,?_⟩
 have st:=C.step (Nat.le_refl a)
 rw[List.drop_eq_nil_of_le (by rw[List.length_take];exact pE),List.nil_append,List.nil_append] at st
 obtain⟨en,tT⟩:∃en:V,en=.tup [.int o,.tup [.int a,.s (((tx o).take ((tx o).length-e)).drop a),.s ((l.take (l.length-e)).drop a)]]:=⟨_,rfl⟩
 have tW:aP en=.int o:=by rw[tT];rfl
 refine ag (Pe.ev (bA W.kx pc (aa rfl) PA.i (jS _ _ _) dK jU) ?_) (.inl rfl)
 refine ag (hF W.kx pc R1 O.frames (aa rfl) PA.i rfl fH fG (W.kx 239 _ rfl) rfl (Fn.mono (fz W H x dx hd b n kvs tx rk PA E) (fun d H2 z=>?_) fun _ _ z=>z.elim)) (.inl rfl)
 refine oQ (d0:=d) z fun ba aX e1 ha S D=>?_;clear z
 have GD:¬aJ (Mine.heldOf kvs aX) n:=fun q=>hn ((cB S).key.mp q)
 have qV:n∉(bases (Mine.heldOf kvs aX)).map (·.1):=by rw[cJ];exact fun q=>GD (ay.mpr q)
 have sl:=S.len
 refine bl (Pe.ev (aa rfl) (Pe.ev (aa rfl) (Pe.ev (aa rfl) ⟨ba,_,n,rfl,rfl,D,by unfold bases Mine.heldOf;rw[List.length_map,List.length_map];exact vN bf hs sl,fun o1=>?_⟩)))
 rw[cc qV]
 have e2:aC H (H2.set ba ⟨o1,.dict (bases (Mine.heldOf kvs aX)++[(n,.int o)])⟩):=aC.upd e1 ha
 have D2:ax (H2.set ba ⟨o1,.dict (bases (Mine.heldOf kvs aX)++[(n,.int o)])⟩) ba (bases (Mine.heldOf kvs aX)++[(n,.int o)]):=ax.same _ _ _ _
 generalize H2.set ba ⟨o1,.dict (bases (Mine.heldOf kvs aX)++[(n,.int o)])⟩=H3 at e2 D2 ⊢
 have eZ:=PA.ext e2
 refine ag (Pe.ev bS ?_) (.inl rfl)
 have EH:=E.heldOf S
 have hoh:aJ (Mine.heldOf kvs aX) o:=(cB S).key.mpr ho
 obtain⟨tu,E2⟩:=EH.put_lean GD hoh (by unfold Mine.heldOf;rw[List.length_map];exact vM bf sl) hl st
 have wd:oA (bases (Mine.heldOf kvs aX)++[(n,.int o)]) tu:=by
  have:=E2.qD (by simp)
  rw[cO] at this;exact this
 have g0:aF (bases (Mine.heldOf kvs aX)++[(n,V.int o)]) n=some (.int o):=by rw[bC qV,if_pos rfl]
 have Ch:dS kvs (Mine.heldOf kvs aX):=fun k=>(cB S k).symm
 have ZY:av (bases (Mine.heldOf kvs aX)++[(n,.int o)]) n (n::xs):=.step g0 ((Ch.bases.chain hx).keep fun y hy=>fK (fun q=>GD (aW.mp q)) y hy)
 refine aL (aH (aw (Pe.of_ext (d:=.int ((xs.length:Int)+1)) (cj W.ok (bu W) (cy W.ok (W.glob rfl) (W.kx 127 _ rfl) rfl R1 O.frames (aa rfl) (aa rfl) (Fn.mono (fV W H3 ba _ tu n (.int o) D2 wd g0) (fun d H4 z=>?_) fun _ _ z=>z.elim)))) ae dF) (bA W.kx pc (aa rfl) eZ.i (gP _ _ _) dK gS) jw decide_eq_true_iff) (fun g=>absurd g (P6 hb)) (fun _=>?_)
 ·refine nR (d0:=d) (d1:=H4) z fun a3 o3 ys h3 ch xl=>?_;clear z
  have hy:=ch.uniq ZY
  subst hy
  exact(cT (ai.same _ _ _ _) (by rw[List.length_map];exact iF hs xl)).op ⟨congrArg V.int (by rw[List.length_map,List.length_cons];exact vO),aC.set (aC.refl _) h3⟩
 have tQ:n∉kvs.map (·.1):=fun q=>hn (ay.mpr q)
 refine bl (Pe.ev (aa rfl) (Pe.ev (bA W.kx pc (aa rfl) eZ.i (bX _ _ _) bz bY) (Pe.ev (aa rfl) ⟨hd,kvs,n,rfl,rfl,eZ.d,by exact rP bf hs,fun o4=>?_⟩)))
 rw[cc tQ,← tT]
 refine q3 (eZ.i.ne_dict eZ.d) fun n1 n2=>?_
 have I3:=eZ.i.ne (y:=⟨o4,.dict (kvs++[(n,en)])⟩) n1 n2
 have D3:ax (H3.set hd ⟨o4,.dict (kvs++[(n,en)])⟩) hd (kvs++[(n,en)]):=ax.same _ _ _ _
 have k3:∀a,a≠hd→(H3.set hd ⟨o4,.dict (kvs++[(n,en)])⟩) a=H3 a:=fun a h=>bj _ _ h
 generalize H3.set hd ⟨o4,.dict (kvs++[(n,en)])⟩=H4 at I3 D3 k3 ⊢
 refine c8 W.kx pc (Pe.ev (aw (aa rfl) ae bx) (Pe.ev (aa rfl) ⟨x,dx,_,pk (.int b) (.ref hd) (.int (n+1)),rfl,I3,(by show 3≤1000;decide),dV _ _ _ _,fun od=>?_⟩)) fx
 refine aL (bq (aa rfl)) (fun g=>(g rfl).elim) (fun _=>?_)
 have PF:bc (H4.set dx ⟨od,.attrs (pk (.int b) (.ref hd) (.int (n+1)))⟩) x dx hd b (n+1) (kvs++[(n,en)]):=by
  refine q3 (id I3) fun E6 _=>?_;obtain⟨o',q⟩:=E6
  exact⟨⟨⟨o',(bj _ _ I3.apart).trans q⟩,od,b9 _ _ _⟩,D3.ne n2.symm⟩
 rw[tT] at PF
 refine aK (Pe.ev (aa rfl) (eH _ _ ⟨rfl,⟨a,e,C,PF⟩,fun y hy kV qU=>?_⟩))
 rw[bj _ _ kV,k3 y qU,e2 y hy]
theorem wM:findIn (KK P) (.ref 287) (Str.ofString "below")=some (some (.ref 272)):=by kernel_rfl
theorem wK:typeIn (KK P) (.ref 272)=some (.type "function"):=by kernel_rfl
theorem yS:findIn (KK P) (.ref 287) (Str.ofString "lean")=some (some (.ref 279)):=by kernel_rfl
theorem yO:typeIn (KK P) (.ref 279)=some (.type "function"):=by kernel_rfl
theorem nw{l:List Int}{n:Int}(h:n∈l):l[l.idxOf n]?=some n∧∀i,i<l.idxOf n→l[i]?≠some n:=by
 have cA:=List.idxOf_lt_length_of_mem h
 refine⟨by rw[List.getElem?_eq_getElem cA,List.getElem_idxOf cA],fun i hi e=>?_⟩
 refine q4 (List.getElem?_eq_some_iff.mp e) fun hl e2=>?_
 have:=List.not_of_lt_findIdx (p:=(· == n)) (xs:=l) (i:=i) hi
 simp[e2] at this
theorem u9(W:Lw c (KK P) sc ns)(H:AH)(x dx hd:Addr)(b n k:Int)(kvs:List (Int×V))(tx:Int→List Nat)(rk:Int→Nat)(PA:bc H x dx hd b n kvs)(E:bh kvs tx rk):
  Fn c 4 (.ref 272) [.ref x,.int k] H (fun d H'=>H'=H∧∃hi:Int,d=.int hi∧Hi kvs k hi) (fun _ _=>False):=by
 have hs:1000000≤sizeLine:=by decide
 refine q4 (E.jt) fun cl fS=>?_
 have yD:=PA.some_x.2.2
 refine Fn.of_ext (Fn.mono (Q:=fun d H'=>aC H H'∧∃hi:Int,d=.int hi∧Hi kvs k hi) (X:=fun _ _=>False) ?_ (fun d H' z=>⟨z.1,rfl,z.2⟩) fun _ _ z=>z.elim)
 refine aV W.ok.lim (W.kx 272 _ rfl) rfl rfl (codeRec_of W.kx rfl) rfl (names:=["self","number"]) (cR rfl fun _ _=>rfl) rfl (by decide) (fun n=>eI (.inl rfl) (.inl rfl)) rfl rfl rfl fun A L bK hE R O=>?_
 refine ag (Pe.ev ae ?_) (.inl rfl)
 refine ct O (dc R.handled (Pe.ev (bA W.kx pc (aa rfl) PA.i (bX _ _ _) bz bY) ⟨hd,kvs,rfl,PA.d,fun i m' H'=>aC H H'∧m' (Str.ofString "self")=some (.ref x)∧m' (Str.ofString "number")=some (.int k)∧∃hi:Int,m' (Str.ofString "most")=some (.int hi)∧0≤hi∧(∀(j:Nat) (v:Int),j<i→(kvs.map (·.1))[j]?=some v→k∈cl v→((cl v).idxOf k:Int)≤hi)∧(hi=0∨∃v xs,av (bases kvs) v xs∧k∈xs∧hi=(xs.idxOf k:Int)),⟨aC.refl _,rfl,rfl,0,rfl,Int.le_refl _,fun j v hj=>absurd hj (jb),.inl rfl⟩,?_,?_⟩)) (.inl rfl)
 ·rintro i d m' H' kp dz Im _;refine q96 Im fun hi ex ms mn mm h0 h1 h2=>?_;clear Im
  refine q2 (aI dz) fun E5 hv E4=>?_;obtain⟨v,dv⟩:=E5;obtain rfl:=E4
  have kv:aJ kvs v:=⟨dv,bU E.nd (List.mem_of_getElem? hv)⟩
  have yy:(kvs.map (·.1))[i]?=some v:=aQ hv
  have mR:=PA.ext ex
  refine ag (dZ W.kx pc R O.frames (aa ms) mR.i rfl g6 gZ (W.kx 225 _ rfl) rfl (aa rfl) (Fn.mono (gN W H' x dx hd b n v kvs tx rk mR E kv) (fun d H2 z=>?_) fun _ _ z=>z.elim)) (.inl rfl)
  refine Gd (d0:=d) z fun a xs e2 ha la ch xl=>?_;clear z
  have e:=ch.uniq (fS v kv).1
  subst e
  have x2:=ex.trans e2
  have nL:∀N:Int,hi≤N→(k∈cl v→((cl v).idxOf k:Int)≤N)→∀(j:Nat) (v':Int),j<i+1→(kvs.map (·.1))[j]?=some v'→k∈cl v'→((cl v').idxOf k:Int)≤N:=fun N q1 q2 j v' hj og hm=>by
   by_cases z:j=i
   ·subst z;rw[yy] at og;injection og with og;subst og;exact q2 hm
   ·have:=h1 j v' (fm hj z) og hm;exact AB q1 this
  refine aL (aH (aa mn) (aa rfl) (qw la) decide_eq_true_iff) (fun g=>?_) (fun g=>?_)
  ·refine q3 (nw g) fun i1 i2=>?_
   refine ag (Pe.ev (d:=.int (max hi ((cl v).idxOf k:Nat))) (iQ W.ok (gB W) (aa mm) (Pe.of_ext (d:=.int ((cl v).idxOf k:Nat)) (hZ plainAttrs_list slot_list_index (Pe.ev (aa rfl) ⟨eO la,nG.nz (au (aa mn) aU) ((oG la i1 i2 (iF hs xl)).op ⟨rfl,aC.refl _⟩)⟩) type_list_index)) (nH R.handled)) (aO ⟨⟨x2,ms,mn,_,rfl,by exact P4,nL _ (P2) (fun _=>by exact P1),?_⟩,fun y hy=>?_⟩)) (.inl rfl)
   ·by_cases q:hi≤((cl v).idxOf k:Nat)
    ·exact .inr ⟨v,cl v,ch,g,by exact P0 q⟩
    ·rw[show max hi ((cl v).idxOf k:Int)=hi by exact PZ q];exact h2
   ·rw[List.mem_singleton] at hy;subst hy;exact x2 _ yD
  ·exact aO ⟨⟨x2,ms,mn,hi,mm,h0,nL hi (Int.le_refl _) (fun q=>(g q).elim),h2⟩,fun y hy=>by rw[List.mem_singleton] at hy;subst hy;exact x2 _ yD⟩
 ·rintro m' H' Il _;refine q96 Il fun hi ex ms mn mm h0 h1 h2=>?_;clear Il
  refine aK (Pe.ev (aa mm) ⟨ex,hi,rfl,h0,fun v xs c hm=>?_,h2⟩)
  have kv:aJ kvs v:=aW.mp (c.keys v (by refine q4 (c.head) fun r hr=>?_;rw[hr];exact .head _))
  have e:=c.uniq (fS v kv).1
  subst e
  refine q4 (List.getElem?_of_mem (ay.mp kv)) fun j hj=>?_
  exact h1 j v (by rw[List.length_map];have:=(List.getElem?_eq_some_iff.mp hj).1;rw[List.length_map] at this;exact this) hj hm
theorem xT(W:Lw c (KK P) sc ns)(U:Vy c (KK P))(H:AH)(x dx hd:Addr)(b n k o:Int)(kvs:List (Int×V))(tx:Int→List Nat)(rk:Int→Nat)(xs:List Int)(hi:Int)(PA:bc H x dx hd b n kvs)(E:bh kvs tx rk)(hk:aJ kvs k)(ho:aJ kvs o)(hx:av (bases kvs) o xs)(HI:Hi kvs k hi):
  Fn c 5 (.ref 279) [.ref x,.int k,.int o] H (fun d H'=>d=.none∧k∉xs∧hi+xs.length≤b∧(∃a e:Nat,qu (tx o) (tx k) a e∧bc H' x dx hd b n (bR kvs k (.tup [.int o,.tup [.int a,.s (((tx o).take ((tx o).length-e)).drop a),.s (((tx k).take ((tx k).length-e)).drop a)]])))∧dO H H' dx hd)
   (fun C H'=>aC H H'∧((k∈xs∧C=.ref 61)∨(k∉xs∧b<hi+xs.length∧C=.ref 97))):=by
 have hs:1000000≤sizeLine:=by decide
 have bf:=E.bf
 have so:=E.short o ho
 have sk:=E.short k hk
 refine Fn.gen fun QQ eH=>?_
 refine aV W.ok.lim (W.kx 279 _ rfl) rfl rfl (codeRec_of W.kx rfl) rfl (names:=["self","number","other"]) (jf rfl fun _ _ _=>rfl) rfl (by decide) (fun n=>lM (.inl rfl) (.inl rfl) (.inl rfl)) rfl rfl rfl fun A L bK hE R O=>?_
 have R1:bw 1 A:=R.le (pA)
 have R2:bw 2 A:=R.le (rL)
 have R3:bw 3 A:=R.le (rK)
 refine cv (fw W R2 O.frames (aa rfl) (aa rfl) PA hk ⟨dp rfl,?_⟩)
 refine cv (fw W R2 O.frames (aa rfl) (aa rfl) PA ho ⟨dp rfl,?_⟩)
 refine ag (dZ W.kx pc R3 O.frames (aa rfl) PA.i rfl g6 gZ (W.kx 225 _ rfl) rfl (aa rfl) (Fn.mono (gN W H x dx hd b n o kvs tx rk PA E ho) (fun d H2 z=>?_) fun _ _ z=>z.elim)) (.inl rfl)
 refine Gd (d0:=d) z fun a ys e2 ha la ch xl=>?_;clear z
 have e:=ch.uniq hx
 subst e
 have eZ:=PA.ext e2
 refine aL (aH (aa rfl) (aa rfl) (qw la) decide_eq_true_iff) (fun g=>?_) (fun g=>?_)
 ·exact mB W.ok (U.cls _ 61 _ _ rfl (by kernel_rfl)) excBase_ValueError R.handled j5 ⟨e2,.inl ⟨g,rfl⟩⟩
 refine aL (aH (aw (dZ W.kx pc R O.frames (aa rfl) eZ.i rfl wM wK (W.kx 272 _ rfl) rfl (aa rfl) (Fn.mono (u9 W H2 x dx hd b n k kvs tx rk eZ E) (fun d H3 z=>by refine Hw (d0:=H3) (d1:=d) z fun uH h'=>?_;clear z;exact⟨congrArg V.int (h'.uniq HI),rfl⟩) fun _ _ z=>z.elim)) (ck W.ok (bu W) (aa rfl) (cT la (by rw[List.length_map];exact iF hs xl))) bx) (bA W.kx pc (aa rfl) eZ.i (gP _ _ _) dK gS) jw decide_eq_true_iff) (fun g2=>?_) (fun g2=>?_)
 ·rw[List.length_map] at g2
  exact mB W.ok (U.cls _ 97 _ _ rfl (by kernel_rfl)) excBase_ValueError R.handled j5 ⟨e2,.inr ⟨g,g2,rfl⟩⟩
 rw[List.length_map] at g2
 refine bl (cP (az (Pe.ev (aa rfl) (az (cy W.ok (W.glob rfl) (W.kx 120 _ rfl) rfl R1 O.frames (dZ W.kx pc R3 O.frames (aa rfl) eZ.i rfl gf gc (W.kx 211 _ rfl) rfl (aa rfl) (fU W H2 x dx hd b n o kvs tx rk eZ E ho)) (dZ W.kx pc R3 O.frames (aa rfl) eZ.i rfl gf gc (W.kx 211 _ rfl) rfl (aa rfl) (fU W H2 x dx hd b n k kvs tx rk eZ E hk)) (Fn.mono (fq W _ (tx o) (tx k) (eX so) (eX sk)) (fun d H3 z=>?_) fun _ _ z=>z.elim))))))
 refine Ge (d0:=H3) (d1:=d) z fun ca ce C=>?_;clear z
 refine bk ⟨by show 2≤sizeLine;exact cH hs,?_⟩
 refine Pe.ev (bA W.kx pc (aa rfl) eZ.i (bX _ _ _) bz bY) (Pe.ev (aa rfl) ⟨hd,kvs,k,rfl,rfl,eZ.d,by exact fB hs bf,fun o4=>?_⟩)
 refine q3 (eZ.i.ne_dict eZ.d) fun n1 n2=>?_
 exact aO (eH _ _ ⟨rfl,g,by exact PY g2,⟨ca,ce,C,eZ.i.ne n1 n2,ax.same _ _ _ _⟩,fun y hy kV qU=>(bj _ _ qU).trans (e2 y hy)⟩)
structure Jn(H:AH)(x dx hd ak ta:Addr)(b n:Int)(bG kv ts:List (Int×V))(tx:Int→List Nat)(rk:Int→Nat)(u:Nat):Prop where
 pa:bc H x dx hd b n bG
 dj:dS bG kv
 d:ax H ak kv
 t:ax H ta ts
 E:bh kv tx rk
 EP:bh bG tx rk
 tt:∀k,aJ kv k→aF ts k=some (.s (tx k))
 tf:ts.length+u≤40
 sh:∀k,aJ kv k→(tx k).length+9*u≤9000
 bf:kv.length+u≤39
 pos:∀k,aJ kv k→0≤k∧k<n
 b0:0≤b
 kh:ak≠hd
 th:ta≠hd
 kt:ak≠ta
theorem Jn.ext{H H':AH}{x dx hd ak ta:Addr}{b n:Int}{bG kv ts:List (Int×V)}{tx:Int→List Nat}{rk:Int→Nat}{u:Nat}(J:Jn H x dx hd ak ta b n bG kv ts tx rk u)(e:aC H H'):Jn H' x dx hd ak ta b n bG kv ts tx rk u:=
 { J with pa:=J.pa.ext e,d:=e.dict J.d,t:=e.dict J.t }
theorem Jn.ne_list{H:AH}{x dx hd ak ta a:Addr}{b n:Int}{bG kv ts:List (Int×V)}{tx:Int→List Nat}{rk:Int→Nat}{u:Nat}{ds:List V}{y:fc}(J:Jn H x dx hd ak ta b n bG kv ts tx rk u)(l:ai H a ds):Jn (H.set a y) x dx hd ak ta b n bG kv ts tx rk u:=
 { J with pa:=⟨J.pa.i.ne (J.pa.i.ne_list l).1 (J.pa.i.ne_list l).2,J.pa.d.ne (l.ne_dict J.pa.d).symm⟩,d:=J.d.ne (l.ne_dict J.d).symm,t:=J.t.ne (l.ne_dict J.t).symm }
theorem ya{kv:List (Int×V)}{s:List Int}(S:fR kv s)(de:kv≠[])(bf:kv.length≤100)(cell:Int):∃k,aJ kv k∧k∈s∧∀ {c:Cx} {f:Fx} {H:AH} {a:Addr},ai H a (s.map V.int)→G2 c f H (.ref a) (.int (cell % ((s.map V.int).length:Nat))) (.int k):=by
 have sl:=S.len
 have h0:0<kv.length:=List.length_pos_iff.mpr de
 have i0:0≤cell % ((s.map V.int).length:Int):=Int.emod_nonneg _ (by rw[List.length_map];exact PX sl h0)
 have i1:cell % ((s.map V.int).length:Int)<(s.map V.int).length:=Int.emod_lt_of_pos _ (by rw[List.length_map];exact vF sl h0)
 have il:=i1
 rw[List.length_map] at il
 have cA:(cell % ((s.map V.int).length:Int)).toNat<s.length:=by rw[List.length_map];rw[List.length_map] at i0;exact PV sl h0 il
 refine⟨s[(cell % ((s.map V.int).length:Int)).toNat],S.mem.mp (List.getElem_mem _),List.getElem_mem _,fun l=>bN l (bo i0 i1) (aQ (List.getElem?_eq_getElem cA)) ?_⟩
 rw[List.length_map] at i0 i1 ⊢
 exact PU bf sl i0 i1
theorem dS.symm{kvs kvs':List (Int×V)}(h:dS kvs kvs'):dS kvs' kvs:=fun k=>(h k).symm
theorem pM(d:V):0≤yk d:=pN _
theorem j8(kvs:List (Int×V)):∀l,0≤iC kvs l
 | []=>Int.le_refl _
 | k::r=>by have:=pM (aE kvs k);have:=j8 kvs r;unfold iC;exact PW (by assumption) this
noncomputable def qj(c:Cx)(G:AH)(d:V):Prop:=∃q a1 a2 l1 l2,d=.ref q∧ai G q [.ref a1,.ref a2]∧ai G a1 l1∧ai G a2 l2∧l1.length=l2.length∧∀(j:Nat) d₁ d₂,l1[j]?=some d₁→l2[j]?=some d₂→bH c G 4 d₁ d₂
theorem qj.ext{G G':AH}{d:V}(p:qj c G d)(e:aC G G'):qj c G' d:=by
 refine q99 p fun q a1 a2 l1 l2 h1 h2 h3 h4 h5 h6=>?_;clear p
 exact⟨q,a1,a2,l1,l2,h1,e.list h2,e.list h3,e.list h4,h5,fun j d₁ d₂ g₁ g₂=>(h6 j d₁ d₂ g₁ g₂).ext e⟩
theorem w0{kv:List (Int×V)}{tx:Int→List Nat}{rk:Int→Nat}(E:bh kv tx rk){s:List Int}(S:fR kv s):∀d∈(bases (Mine.heldOf kv s)).map (·.2),kM 0 d d true:=fun d hd=>by
 unfold bases Mine.heldOf at hd
 rw[List.map_map,List.map_map,List.mem_map] at hd
 refine Yd (d0:=d) hd fun k hk=>?_;clear hd
 have ent:=E.ent k _ (aB (S.mem.mp hk))
 show kM 0 (aP (aE kv k)) (aP (aE kv k)) true
 generalize aE kv k=d0 at ent
 cases ent with
 | root=>exact kM.none
 | lean bb at_ gone aS jq cA VR=>show kM 0 (.int bb) (.int bb) true;simpa using kM.int bb bb
theorem ju{G:AH}{l:List Int}:∀(j:Nat) d₁ d₂,(l.map V.int)[j]?=some d₁→(l.map V.int)[j]?=some d₂→bH c G 3 d₁ d₂:=fun j d₁ d₂ h₁ h₂=>by
 rw[h₁] at h₂;cases h₂
 refine q2 (aI h₁) fun v _ E3=>?_;obtain rfl:=E3
 exact bH.int _ _
theorem aaE{p:V→V→Prop}{a b d e a' b' d' e':V}(h1:p a a')(h2:p b b')(h3:p d d')(h4:p e e'):∀(j:Nat) d₁ d₂,[a,b,d,e][j]?=some d₁→[a',b',d',e'][j]?=some d₂→p d₁ d₂
 | 0,_,_,x,y=>by cases x;cases y;exact h1
 | 1,_,_,x,y=>by cases x;cases y;exact h2
 | 2,_,_,x,y=>by cases x;cases y;exact h3
 | 3,_,_,x,y=>by cases x;cases y;exact h4
 | n+4,_,_,x,_=>by simp at x
theorem o9(W:Lw c (KK P) sc ns)(H G:AH)(x dx hd ak ta ah:Addr)(b n cell:Int)(bG kv ts:List (Int×V))(tx:Int→List Nat)(rk:Int→Nat)(u:Nat)(ps:List V)(J:Jn H x dx hd ak ta b n bG kv ts tx rk u)(de:kv≠[])(la:ai H ah ps)(psl:ps.length≤100)(g:aC G H)(gh:G ah=none):
  Fn c 5 (.ref 478) [.ref x,.ref ak,.ref ta,.int cell,.ref ah] H (fun d H'=>d=.bool true∧∃(q:V) (G':AH),ai H' ah (ps++[q])∧aC G G'∧aC G' H'∧(∀a,H a≠none→G' a=G a)∧qj c G' q∧∀a,H a≠none→a≠ah→H' a=H a) (fun _ _=>False):=by
 have hs:1000000≤sizeLine:=by decide
 have bf:=J.bf
 have GR:=J.EP.bf
 have GL:H ah≠none:=by refine q4 la fun o e=>?_;clear la;rw[e];exact fun z=>nomatch z
 refine Fn.gen fun QQ eH=>?_
 refine aV W.ok.lim (W.kx 478 _ rfl) rfl rfl (codeRec_of W.kx rfl) rfl (names:=["_law_pack","_law_kept","_law_texts","_law_cell","_law_held"]) (qe rfl fun _ _ _ _ _=>rfl) rfl (by decide) (fun n=>v9 (.inl rfl) (.inl rfl) (.inl rfl) (.inl rfl) (.inl rfl)) rfl rfl rfl fun A L bK hE R O=>?_
 have R1:bw 1 A:=R.le (pA)
 have R2:bw 2 A:=R.le (rL)
 have R3:bw 3 A:=R.le (rK)
 have hu:A.units+100<cLine:=by have:=R.units;exact Az this
 refine ag (cj W.ok (cg W) (Pe.ev (aa rfl) (cK W.ok R.handled J.d (rJ bf) fun a1 o1 s h1 pm pw=>?_))) (.inl rfl)
 have S:fR kv s:=⟨pm,pw⟩
 have sl:=S.len
 have h0:0<kv.length:=List.length_pos_iff.mpr de
 have SP:fR bG s:=(dS.symm J.dj).aX J.E.nd J.EP.nd S
 have e1:aC H (H.set a1 ⟨o1,.list (s.map V.int)⟩):=aC.set (aC.refl _) h1
 have l1:=ai.same H a1 o1 (s.map V.int)
 generalize H.set a1 ⟨o1,.list (s.map V.int)⟩=H1 at e1 l1 ⊢
 obtain⟨one,ko,_,pk⟩:=ya S de (rI bf) (cell / 3)
 have kp:aJ bG one:=J.dj.key.mpr ko
 refine ag (Pe.ev (aj (aa rfl) (aw (aw (aa rfl) ae (dG (by decide) (by decide))) (ck W.ok (bu W) (aa rfl) (cT l1 (by rw[List.length_map];exact pq hs bf sl))) (bV (by rw[List.length_map];exact vF sl h0))) (pk l1)) ?_) (.inl rfl)
 have sT:=J.pa.ext e1
 refine ag (cw W.ok (az (hF W.kx pc R1 O.frames (aa rfl) sT.i rfl ow om (W.kx 244 _ rfl) rfl (Fn.mono (nO W H1 x dx hd b n bG tx rk sT J.EP) (fun d H2 z=>?_) fun _ _ z=>z.elim)))) (.inl rfl)
 refine oQ (d0:=d) z fun r1 s1 f1 Z8 S1 xD=>?_;clear z
 obtain rfl:=S1.uniq SP
 have e2:=e1.trans f1
 have Z8:=e1.none Z8
 have eZ:=J.pa.ext e2
 refine az (hF W.kx pc R1 O.frames (aa rfl) eZ.i rfl md l7 (W.kx 232 _ rfl) rfl (Fn.mono (lA W H2 x dx hd b n bG eZ GR) (fun d H3 z=>?_) fun _ _ z=>z.elim))
 refine oQ (d0:=d) z fun r2 s2 f2 Z7 S2 BK=>?_;clear z
 obtain rfl:=S2.uniq S1
 have e3:=e2.trans f2
 have Z7:=e2.none Z7
 have xD:=f2.list xD
 have mK:=J.pa.ext e3
 refine az (hF W.kx pc R1 O.frames (aa rfl) mK.i rfl fH fG (W.kx 239 _ rfl) rfl (Fn.mono (fz W H3 x dx hd b n bG tx rk mK J.EP) (fun d H4 z=>?_) fun _ _ z=>z.elim))
 refine oQ (d0:=d) z fun r3 s3 f3 Z6 S3 HB=>?_;clear z
 obtain rfl:=S3.uniq S1
 have e4:=e3.trans f3
 have Z6:=e3.none Z6
 have xD:=f3.list xD
 have BK:=f3.list BK
 have rm:=J.pa.ext e4
 refine az (dZ W.kx pc R3 O.frames (aa rfl) rm.i rfl g6 gZ (W.kx 225 _ rfl) rfl (aa rfl) (Fn.mono (gN W H4 x dx hd b n one bG tx rk rm J.EP kp) (fun d H5 z=>?_) fun _ _ z=>z.elim))
 refine Gd (d0:=d) z fun r4 xs f4 Z5 Wb ch xl=>?_;clear z
 have e5:=e4.trans f4
 have Z5:=e4.none Z5
 have xD:=f4.list xD
 have BK:=f4.list BK
 have HB:=f4.dict HB
 have Xg:s3.length≤40:=by exact PN bf sl
 refine bk ⟨by show 4≤sizeLine;exact Ay hs,fun at_ ot BZ=>?_⟩
 have f5:=aC.set (x:=⟨ot,.list [.ref r1,.ref r2,.ref r3,.ref r4]⟩) (aC.refl H5) BZ
 have lt:=ai.same H5 at_ ot [.ref r1,.ref r2,.ref r3,.ref r4]
 generalize H5.set at_ ⟨ot,.list [.ref r1,.ref r2,.ref r3,.ref r4]⟩=H6 at f5 lt ⊢
 have BZ:=e5.none BZ
 have e6:=e5.trans f5
 have xD:=f5.list xD
 have BK:=f5.list BK
 have HB:=f5.dict HB
 have Wb:=f5.list Wb
 refine cv (hZ plainAttrs_list PySem.slot_list_append (Pe.ev (aa rfl) ⟨eO (e6.list la),az (cw W.ok (az (Pe.ev (aa rfl) (az (cw W.ok (az (mE W.ok (jD W) (aj (aa rfl) ae (bN (d:=.ref r1) (j:=0) lt rfl rfl (by decide))) (ro W.ok xD (by unfold cX;rw[List.length_map];exact fB hs Xg) fun b1 Zm Wy=>?_))))))))⟩) PySem.type_list_append)
 have f6:=aC.set (x:=⟨Zm,.list (cX bG s3)⟩) (aC.refl H6) Wy
 have lb1:=ai.same H6 b1 Zm (cX bG s3)
 generalize H6.set b1 ⟨Zm,.list (cX bG s3)⟩=H7 at f6 lb1 ⊢
 have Wy:=e6.none Wy
 have e7:=e6.trans f6
 have lt7:=f6.list lt
 refine az (mE W.ok (jD W) (aj (aa rfl) ae (bN (d:=.ref r2) (j:=1) lt7 rfl rfl (by decide))) (ro W.ok (f6.list BK) (by rw[List.length_map];exact fB hs Xg) fun b2 Zk BY=>?_))
 have f7:=aC.set (x:=⟨Zk,.list (s3.map V.int)⟩) (aC.refl H7) BY
 have yr:=ai.same H7 b2 Zk (s3.map V.int)
 generalize H7.set b2 ⟨Zk,.list (s3.map V.int)⟩=H8 at f7 yr ⊢
 have BY:=e7.none BY
 have e8:=e7.trans f7
 have Gm:=f7.list lt7
 have f68:=f6.trans f7
 refine az (mE W.ok (kW W) (aj (aa rfl) ae (bN (d:=.ref r3) (j:=2) Gm rfl rfl (by decide))) (oH W.ok (f68.dict HB) (by unfold bases Mine.heldOf;rw[List.length_map,List.length_map];exact fB hs Xg) fun b3 Zj Wx=>?_))
 have f8:=aC.set (x:=⟨Zj,.dict (bases (Mine.heldOf bG s3))⟩) (aC.refl H8) Wx
 have xE:=ax.same H8 b3 Zj (bases (Mine.heldOf bG s3))
 generalize H8.set b3 ⟨Zj,.dict (bases (Mine.heldOf bG s3))⟩=H9 at f8 xE ⊢
 have Wx:=e8.none Wx
 have e9:=e8.trans f8
 have lt9:=f8.list Gm
 have f69:=f68.trans f8
 refine az (mE W.ok (jD W) (aj (aa rfl) ae (bN (d:=.ref r4) (j:=3) lt9 rfl rfl (by decide))) (ro W.ok (f69.list Wb) (by rw[List.length_map];exact iF hs xl) fun b4 Zi Ww=>?_))
 have f9:=aC.set (x:=⟨Zi,.list (xs.map V.int)⟩) (aC.refl H9) Ww
 have yq:=ai.same H9 b4 Zi (xs.map V.int)
 generalize H9.set b4 ⟨Zi,.list (xs.map V.int)⟩=xJ at f9 yq ⊢
 have Ww:=e9.none Ww
 have e10:=e9.trans f9
 refine bk ⟨by show 4≤sizeLine;exact Ay hs,fun ac oc qY=>?_⟩
 have f10:=aC.set (x:=⟨oc,.list [.ref b1,.ref b2,.ref b3,.ref b4]⟩) (aC.refl xJ) qY
 have lc:=ai.same xJ ac oc [.ref b1,.ref b2,.ref b3,.ref b4]
 generalize xJ.set ac ⟨oc,.list [.ref b1,.ref b2,.ref b3,.ref b4]⟩=H11 at f10 lc ⊢
 have qY:=e10.none qY
 have e11:=e10.trans f10
 refine bk ⟨by show 2≤sizeLine;exact cH hs,fun aq oq WA=>?_⟩
 have WK:=aC.set (x:=⟨oq,.list [.ref at_,.ref ac]⟩) (aC.refl H11) WA
 have lq:=ai.same H11 aq oq [.ref at_,.ref ac]
 generalize H11.set aq ⟨oq,.list [.ref at_,.ref ac]⟩=xf at WK lq ⊢
 have WA:=e11.none WA
 have WO:=e11.trans WK
 have k11:=f10.trans WK
 have k9:=f9.trans k11
 have k8:=f8.trans k9
 have k7:=f7.trans k8
 have k6:=f6.trans k7
 have Un:=WO.list la
 refine bk (ql Un (PM psl hs) fun op=>⟨dp rfl,?_⟩)
 have PR:qj c (over G H xf) (.ref aq):=by
  refine⟨aq,at_,ac,_,_,rfl,dH lq WA,dH (k6.list lt) BZ,dH (WK.list lc) qY,rfl,aaE (bH.list (dH (k6.list xD) Z8) (dH (k7.list lb1) Wy) rfl (J.EP.alike_rows S1)) (bH.list (dH (k6.list BK) Z7) (dH (k8.list yr) BY) rfl ju) (bH.up (bH.dict (mZ (k6.dict HB) Z6) (mZ (k9.dict xE) Wx) (w0 J.EP S1)) (PL)) (bH.list (dH (k6.list Wb) Z5) (dH (k11.list yq) Ww) rfl ju)⟩
 have g1:aC G (over G H xf):=wN g
 have g2:aC (over G H xf) xf:=vu g WO
 have g3:∀a,H a≠none→over G H xf a=G a:=fun a h=>lI h
 generalize over G H xf=G' at PR g1 g2 g3
 have g4:G' ah=none:=(g3 ah GL).trans gh
 have g5:aC G' (xf.set ah ⟨op,.list (ps++[.ref aq])⟩):=fun a h=>(bj _ _ (show a≠ah from fun e=>h (by rw[e];exact g4))).trans (g2 a h)
 have sV:Jn (xf.set ah ⟨op,.list (ps++[.ref aq])⟩) x dx hd ak ta b n bG kv ts tx rk u:=(J.ext WO).ne_list Un
 have e13:∀a,H a≠none→a≠ah→(xf.set ah ⟨op,.list (ps++[.ref aq])⟩) a=H a:=fun a h h'=>(bj _ _ h').trans (WO a h)
 have Um:=ai.same xf ah op (ps++[.ref aq])
 generalize xf.set ah ⟨op,.list (ps++[.ref aq])⟩=H13 at g5 sV e13 Um ⊢
 have fr:∀ {kk:List (Int×V)} {xs ys:List Int},av (bases bG) one xs→av (bases kv) one ys→xs=ys:=fun h h'=>(J.dj.bases.chain h).uniq h'
 refine ct O (cW R.handled ((bF W.ok (eD W)).ev ⟨rfl,Pe.ev (aw ae (aw (aa rfl) ae (bV (by decide))) bx) ⟨_,rfl,by omega,by omega,fun i m' H'=>H'=H13∧m' (Str.ofString "_law_pack")=some (.ref x)∧m' (Str.ofString "_law_kept")=some (.ref ak)∧m' (Str.ofString "_law_texts")=some (.ref ta)∧m' (Str.ofString "_law_one")=some (.int one),⟨rfl,rfl,rfl,rfl,rfl⟩,?_,?_⟩⟩)) (.inl rfl)
 ·rintro i d m' H' ZT dz Ik _;refine MD Ik fun EY mp mk mt mo=>?_;clear Ik;obtain rfl:=EY
  have ent:=J.E.ent one _ (aB ko)
  refine aL (fN (bg (P:=False) (aH (d₁:=.s (tx one)) (dZ W.kx pc R3 O.frames (aa mp) sV.pa.i rfl gf gc (W.kx 211 _ rfl) rfl (aa mo) (fU W H' x dx hd b n one bG tx rk sV.pa J.EP kp)) (aj (aa mt) (aa mo) (aT sV.t (J.tt one ko))) xy (by simp)) fun _=>bg (P:=False) (aH (d₁:=aP (aE kv one)) (dZ W.kx pc R3 O.frames (aa mp) sV.pa.i rfl sG sD (W.kx 218 _ rfl) rfl (aa mo) (Fn.mono (rA W H' x dx hd b n one bG tx rk sV.pa J.EP kp) (fun d H7 z=>by rw[J.dj.aE] at z;exact z) fun _ _ z=>z.elim)) (aj (aj (aa mk) (aa mo) (aT sV.d (aB ko))) ae (eF J.E ko).1) ent.neB (by simp)) fun _=>dm)) (fun g=>by simp at g) (fun _=>?_)
  refine aL (fN (bg (P:=False) (Tp.of_ext (eS (dZ W.kx pc R3 O.frames (aa mp) sV.pa.i rfl g6 gZ (W.kx 225 _ rfl) rfl (aa mo) (Fn.mono (gN W H' x dx hd b n one bG tx rk sV.pa J.EP kp) (fun d H9 z=>?_) fun _ _ z=>z.elim)))) fun _=>bg (P:=False) (aH (d₁:=.int (iC bG (bG.map (·.1)))) (hF W.kx pc R2 O.frames (aa mp) sV.pa.i rfl ue tZ (W.kx 251 _ rfl) rfl (s8 W H' x dx hd b n bG tx rk sV.pa J.EP)) ae oO (by have:=j8 bG (bG.map (·.1));simp;exact Bn this)) fun _=>dm)) (fun g=>by simp at g) (fun _=>aO ⟨⟨rfl,mp,mk,mt,mo⟩,fun _ h=>(nomatch h)⟩)
  refine Gd (d0:=d) z fun a9 ys e9 ha9 l9 ch9 _=>?_;clear z
  refine cy W.ok (W.glob rfl) (W.kx 397 _ rfl) rfl R1 O.frames (aa mk) (aa mo) (Fn.mono (cf W H9 ak kv tx rk one (e9.dict sV.d) J.E ko) (fun d xJ z=>?_) fun _ _ z=>z.elim)
  refine nR (d0:=d) (d1:=xJ) z fun B7 o10 zs oW GW _=>?_;clear z
  obtain rfl:=fr (kk:=kv) ch9 GW
  exact(ig (l9.fresh oW) (ai.same _ _ _ _) (by show A.units+_<_;exact pj hu)).op ⟨_,rfl,aC.set e9 oW,by simp⟩
 rintro m' H' Ij _;refine MD Ij fun EX mp mk mt mo=>?_;clear Ij;obtain rfl:=EX
 exact aK (Pe.ev (kI W R3 O.frames (aa mp) (fun H' _=>aa mk) sV.pa J.EP sV.d J.E J.dj) (eH _ _ ⟨rfl,.ref aq,G',Um,g1,g5,g3,PR,e13⟩))
theorem nP(W:Lw c (KK P) sc ns)(H:AH)(ah:Addr)(ps:List V)(la:ai H ah ps)(hp:∀d∈ps,qj c H d):
  Fn c 1 (.ref 471) [.ref ah] H (fun d H'=>d=.bool true∧H'=H) (fun _ _=>False):=by
 refine aV W.ok.lim (W.kx 471 _ rfl) rfl rfl (codeRec_of W.kx rfl) rfl (names:=["_law_held"]) (eK rfl fun _=>rfl) rfl (by decide) (fun n=>hU (.inl rfl)) rfl rfl rfl fun A L bK hE R O=>?_
 have hu:A.units+100<cLine:=by have:=R.units;exact AA this
 refine ct O (bD R.handled (Pe.ev (aa rfl) ⟨ah,ps,rfl,la,fun i m' H'=>H'=H,rfl,?_,?_⟩)) (.inl rfl)
 ·rintro i d m' H' kp dz rfl _
  refine q99 (hp d (List.mem_of_getElem? dz)) fun q a1 a2 l1 l2 EW hq h1 h2 hl hh=>?_;obtain rfl:=EW
  exact aL (aH (P:=False) (aj (aa rfl) ae (bN (d:=.ref a1) (j:=0) hq rfl rfl (by decide))) (aj (aa rfl) ae (bN (d:=.ref a2) (j:=1) hq rfl rfl (by decide))) (rq h1 h2 hl hh (by show A.units+_<_;exact Ax hu)) (by simp)) (fun g=>g.elim) fun _=>aO ⟨rfl,fun _ _=>rfl⟩
 ·rintro m' H' rfl _
  exact aK (Pe.ev y9 ⟨rfl,rfl⟩)
theorem xP(W:Lw c (KK P) sc ns)(H:AH)(x dx hd ak ta:Addr)(b n first:Int)(bG kv ts:List (Int×V))(tx:Int→List Nat)(rk:Int→Nat)(u:Nat)(J:Jn H x dx hd ak ta b n bG kv ts tx rk u):
  Fn c 5 (.ref 464) [.ref x,.ref ak,.int first] H (fun d H'=>d=.bool true∧H'=H) (fun _ _=>False):=by
 have hs:1000000≤sizeLine:=by decide
 have bf:=J.bf
 have GR:=J.EP.bf
 refine q4 (J.E.jt) fun cl fS=>?_
 refine Fn.of_ext (Fn.mono (Q:=fun d H'=>aC H H'∧d=.bool true) (X:=fun _ _=>False) ?_ (fun d H' z=>⟨z.1,z.2,rfl⟩) fun _ _ z=>z.elim)
 refine aV W.ok.lim (W.kx 464 _ rfl) rfl rfl (codeRec_of W.kx rfl) rfl (names:=["_law_pack","_law_kept","_law_first"]) (jf rfl fun _ _ _=>rfl) rfl (by decide) (fun n=>lM (.inr ⟨rfl,rfl⟩) (.inr ⟨rfl,rfl⟩) (.inl rfl)) rfl rfl rfl fun A L bK hE R O=>?_
 have R1:bw 1 A:=R.le (pA)
 have R3:bw 3 A:=R.le (rK)
 have hu:A.units+100<cLine:=by have:=R.units;exact Az this
 refine ag (cj W.ok (cg W) (Pe.ev (aa rfl) (cK W.ok R.handled J.d (rJ bf) fun a1 o1 s h1 pm pw=>?_))) (.inl rfl)
 have S:fR kv s:=⟨pm,pw⟩
 have sl:=S.len
 have SP:fR bG s:=(dS.symm J.dj).aX J.E.nd J.EP.nd S
 have e1:aC H (H.set a1 ⟨o1,.list (s.map V.int)⟩):=aC.set (aC.refl _) h1
 have l1:=ai.same H a1 o1 (s.map V.int)
 generalize H.set a1 ⟨o1,.list (s.map V.int)⟩=H1 at e1 l1 ⊢
 have J1:=J.ext e1
 have VS:∀ {k:Int},k∈s→aJ kv k∧aJ bG k:=fun h=>⟨S.mem.mp h,SP.mem.mp h⟩
 have chain_eq:∀k xs,aJ kv k→av (bases bG) k xs→xs=cl k:=fun k xs hk h=>(J.dj.bases.chain h).uniq (fS k hk).1
 have chain_eq2:∀k xs,aJ kv k→av (bases kv) k xs→xs=cl k:=fun k xs hk h=>h.uniq (fS k hk).1
 have kb:(bases (Mine.heldOf bG s)).map (fun p=>V.int p.1)=s.map V.int:=by rw[tN,cJ,dr]
 refine aL (fj (bI (aH (aw (aa rfl) ae (bV (by decide))) ae fg beq_iff_eq) fun _=>bI (fN (bg (P:=False) (Tp.of_ext (eS (hF W.kx pc R1 O.frames (aa rfl) J1.pa.i rfl md l7 (W.kx 232 _ rfl) rfl (Fn.mono (lA W H1 x dx hd b n bG J1.pa GR) (fun d H2 z=>?_) fun _ _ z=>z.elim)))) fun _=>bg (P:=False) (Tp.of_ext (eS (Hs W.ok (jD W) (hF W.kx pc R1 O.frames (aa rfl) J1.pa.i rfl fH fG (W.kx 239 _ rfl) rfl (Fn.mono (fz W H1 x dx hd b n bG tx rk J1.pa J.EP) (fun d H2 z=>?_) fun _ _ z=>z.elim))))) fun _=>dm)) fun _=>d7)) (fun g=>by simp at g) (fun _=>?_)
 ·refine oQ (d0:=d) z fun a2 s2 e2 h2 S2 l2=>?_;clear z
  obtain rfl:=S2.uniq SP
  exact(aa rfl).ev ((ig l2 (e2.list l1) (by show A.units+_<_;exact pj hu)).op ⟨_,rfl,e2,by simp⟩)
 ·refine oQ (d0:=d) z fun a2 s2 e2 h2 S2 l2=>?_;clear z
  obtain rfl:=S2.uniq SP
  refine Hc W.ok R.handled l2 (by unfold bases Mine.heldOf;rw[List.length_map,List.length_map];exact pq hs bf sl) fun a3 o3 h3=>(aa rfl).ev ?_
  have l3:=ai.same H2 a3 o3 ((bases (Mine.heldOf bG s2)).map fun p=>V.int p.1)
  have l1':=(e2.list l1).fresh (x:=⟨o3,.list ((bases (Mine.heldOf bG s2)).map fun p=>V.int p.1)⟩) h3
  have x3:=aC.set (x:=⟨o3,.list ((bases (Mine.heldOf bG s2)).map fun p=>V.int p.1)⟩) e2 h3
  rw[kb] at l3 l1' x3 ⊢
  exact(ig l3 l1' (by show A.units+_<_;exact pj hu)).op ⟨_,rfl,x3,by simp⟩
 refine cU W.ok (bD R.handled (Pe.ev (aa rfl) ⟨a1,_,rfl,l1,?_⟩)) rfl rfl (by decide) rfl (by decide) rfl (mI ⟨rfl,rfl,rfl⟩ qA) (.inl rfl)
 refine cL (s.map fun k=>aP (aE kv k)) (by simp) (by rw[List.length_map];exact pq hs bf sl) ?_ ?_
 ·intro i d C hE dz
  refine q2 (aI dz) fun k hk EV=>?_;obtain rfl:=EV
  have kk:=(VS (List.mem_of_getElem? hk)).1
  exact⟨_,aQ hk,aj (aj (aa rfl) (aa rfl) (aT J1.d (aB kk))) ae (eF J.E kk).1⟩
 intro a2 o2 h2
 have e2:aC H1 (H1.set a2 ⟨o2,.list (s.map fun k=>aP (aE kv k))⟩):=aC.set (aC.refl _) h2
 have l2:=ai.same H1 a2 o2 (s.map fun k=>aP (aE kv k))
 generalize H1.set a2 ⟨o2,.list (s.map fun k=>aP (aE kv k))⟩=H2 at e2 l2 ⊢
 have J2:=J1.ext e2
 have l12:=e2.list l1
 have alb:∀ {HH:AH} (j:Nat) d₁ d₂,(s.map fun k=>aP (aE kv k))[j]?=some d₁→(s.map fun k=>aP (aE kv k))[j]?=some d₂→bH c HH 2 d₁ d₂:=fun j d₁ d₂ g₁ g₂=>by
  rw[g₁] at g₂;cases g₂
  refine q2 (aI g₁) fun k hk EU=>?_;obtain rfl:=EU
  exact(J.E.ent k _ (aB (VS (List.mem_of_getElem? hk)).1)).alike.1
 refine aL (fj (bI (aH (aw (aa rfl) ae (bV (by decide))) ae fg beq_iff_eq) fun _=>bI (P:=False) (Tp.of_ext (eS (eV W.ok (bD R.handled (Pe.ev (aa rfl) ⟨a1,_,rfl,l12,?_⟩)) rfl (by decide) rfl (by decide) rfl (mI ⟨rfl,rfl,rfl⟩ qA)))) fun _=>d7)) (fun g=>by simp at g) (fun _=>?_)
 ·refine cL (s.map fun k=>aP (aE kv k)) (by simp) (by rw[List.length_map];exact pq hs bf sl) ?_ ?_
  ·intro i d C hE dz
   refine q2 (aI dz) fun k hk ET=>?_;obtain rfl:=ET
   refine q3 (VS (List.mem_of_getElem? hk)) fun k1 k2=>?_
   exact⟨_,aQ hk,dZ W.kx pc R3 O.frames (aa rfl) J2.pa.i rfl sG sD (W.kx 218 _ rfl) rfl (aa rfl) (Fn.mono (rA W H2 x dx hd b n k bG tx rk J2.pa J.EP k2) (fun d H7 z=>by rw[J.dj.aE] at z;exact z) fun _ _ z=>z.elim)⟩
  ·intro a3 o3 h3
   exact(aa rfl).ev ((rq (n:=2) (ai.same _ _ _ _) (l2.fresh h3) rfl alb (by show A.units+_<_;exact PK hu)).op ⟨_,rfl,aC.set (aC.refl _) h3,by simp⟩)
 refine ag (mD W.ok (aa rfl) (dE ae) l12 (by rw[List.length_map];exact pq hs bf sl) fun a3 o3 h3=>?_) (.inl rfl)
 rw[List.length_map,← List.map_drop]
 obtain⟨t,ht⟩:∃t,t=s.drop (s.length-1):=⟨_,rfl⟩
 have tm:∀ {i:Nat} {k:Int},t[i]?=some k→aJ kv k∧aJ bG k:=fun h=>VS (List.mem_of_mem_drop (by rw[← ht];exact List.mem_of_getElem? h))
 have tl:t.length≤40:=by rw[ht,List.length_drop];exact PJ
 rw[← ht]
 have e3:aC H2 (H2.set a3 ⟨o3,.list (t.map V.int)⟩):=aC.set (aC.refl _) h3
 have l3:=ai.same H2 a3 o3 (t.map V.int)
 generalize H2.set a3 ⟨o3,.list (t.map V.int)⟩=H3 at e3 l3 ⊢
 have J3:=J2.ext e3
 have h3n:H3 a3≠none:=by refine q4 l3 fun o e=>?_;clear l3;rw[e];exact fun z=>nomatch z
 refine cU W.ok (bD R.handled (Pe.ev (aa rfl) ⟨a3,_,rfl,l3,?_⟩)) rfl rfl (by decide) rfl (by decide) rfl (mI ⟨rfl,rfl,rfl⟩ qA) (.inl rfl)
 refine kN (by rw[List.length_map];exact fB hs tl) (fun i=>(cl (t.getD i 0)).map V.int) (fun y hy=>by rw[List.mem_singleton] at hy;subst hy;exact h3n) ?_ ?_
 ·intro i d C hE H' dz ex
  refine q2 (aI dz) fun k hk ES=>?_;obtain rfl:=ES
  refine q3 (tm hk) fun k1 k2=>?_
  refine cy W.ok (W.glob rfl) (W.kx 397 _ rfl) rfl R1 O.frames (aa rfl) (aa rfl) (Fn.mono (cf W H' ak kv tx rk k (ex.dict J3.d) J.E k1) (fun d xJ z=>?_) fun _ _ z=>z.elim)
  refine nR (d0:=d) (d1:=xJ) z fun B7 o10 xs oW GW _=>?_;clear z
  obtain rfl:=chain_eq2 k xs k1 GW
  exact⟨B7,rfl,aC.set (aC.refl _) oW,by rw[hW hk];exact ai.same _ _ _ _⟩
 intro as H4 ac oc U6 qY asl asG
 have x4:aC H3 (H4.set ac ⟨oc,.list (as.map V.ref)⟩):=aC.set U6 qY
 have lc:=ai.same H4 ac oc (as.map V.ref)
 have Vl:∀(j:Nat) b,as[j]?=some b→ai (H4.set ac ⟨oc,.list (as.map V.ref)⟩) b ((cl (t.getD j 0)).map V.int):=fun j b h=>(asG j b h).fresh qY
 generalize H4.set ac ⟨oc,.list (as.map V.ref)⟩=H5 at x4 lc Vl ⊢
 have J5:=J3.ext x4
 have ZQ:=x4.list l3
 have h35:H5 a3≠none:=by refine q4 ZQ fun o e=>?_;clear ZQ;rw[e];exact fun z=>nomatch z
 refine aL (fj (bI (aH (aw (aa rfl) ae (bV (by decide))) ae fg beq_iff_eq) fun _=>bI (P:=False) (Tp.of_ext (eS (eV W.ok (bD R.handled (Pe.ev (aa rfl) ⟨a3,_,rfl,ZQ,?_⟩)) rfl (by decide) rfl (by decide) rfl (mI ⟨rfl,rfl,rfl⟩ qA)))) fun _=>d7)) (fun g=>by simp at g) (fun _=>?_)
 ·refine kN (by rw[List.length_map];exact fB hs tl) (fun i=>(cl (t.getD i 0)).map V.int) (fun y hy=>by rw[List.mem_singleton] at hy;subst hy;exact h35) ?_ ?_
  ·intro i d C hE H' dz ex
   refine q2 (aI dz) fun k hk ER=>?_;obtain rfl:=ER
   refine q3 (tm hk) fun k1 k2=>?_
   have J':=J5.ext ex
   refine dZ W.kx pc R3 O.frames (aa rfl) J'.pa.i rfl g6 gZ (W.kx 225 _ rfl) rfl (aa rfl) (Fn.mono (gN W H' x dx hd b n k bG tx rk J'.pa J.EP k2) (fun d H4 z=>?_) fun _ _ z=>z.elim)
   refine Gd (d0:=d) z fun a xs e4 ha la ch _=>?_;clear z
   obtain rfl:=chain_eq k xs k1 ch
   exact⟨a,rfl,e4,by rw[hW hk];exact la⟩
  ·intro bs H' a o ex8 ha bsl bsG
   refine(aa rfl).ev ((rq (n:=4) (ai.same _ _ _ _) ((ex8.list lc).fresh ha) (by rw[List.length_map,List.length_map,asl,bsl]) (fun j d₁ d₂ h₁ h₂=>?_) (by show A.units+_<_;exact Ax hu)).op ⟨_,rfl,aC.set ex8 ha,by simp⟩)
   refine q2 (aI h₁) fun b1 q1 EO=>?_;obtain rfl:=EO
   refine q2 (aI h₂) fun b2 q2 EN=>?_;obtain rfl:=EN
   exact bH.list ((bsG j b1 q1).fresh ha) ((ex8.list (Vl j b2 q2)).fresh ha) rfl ju
 exact aK (Pe.ev (kI W R3 O.frames (aa rfl) (fun H' _=>aa rfl) J5.pa J.EP J5.d J.E J.dj) ⟨e1.trans (e2.trans (e3.trans x4)),rfl⟩)
noncomputable def xc(H H':AH)(dx hd ak ta:Addr):Prop:=∀a,H a≠none→a≠dx→a≠hd→a≠ak→a≠ta→H' a=H a
theorem Jn.keep{H H':AH}{x dx hd ak ta:Addr}{b n:Int}{bG kv ts:List (Int×V)}{tx:Int→List Nat}{rk:Int→Nat}{u:Nat}(J:Jn H x dx hd ak ta b n bG kv ts tx rk u){ah:Addr}{ps:List V}(la:ai H ah ps)(k:∀a,H a≠none→a≠ah→H' a=H a):Jn H' x dx hd ak ta b n bG kv ts tx rk u:=by
 have n1:=J.pa.i.ne_list la
 have dd:∀ {a:Addr} {ds:List (Int×V)},ax H a ds→ax H' a ds:=fun {a ds} h=>by
  have q:=(la.ne_dict h).symm
  refine q4 h fun o e=>?_;clear h
  exact⟨o,(k a (by rw[e];exact fun z=>nomatch z) q).trans e⟩
 refine { J with pa:=⟨?_,dd J.pa.d⟩,d:=dd J.d,t:=dd J.t }
 refine qK (id J.pa.i) fun od EZ e2=>?_;obtain⟨o,e⟩:=EZ
 exact⟨⟨o,(k x (by rw[e];exact fun z=>nomatch z) n1.1).trans e⟩,od,(k dx (by rw[e2];exact fun z=>nomatch z) n1.2).trans e2⟩
theorem Jn.less{H:AH}{x dx hd ak ta:Addr}{b n:Int}{bG kv ts:List (Int×V)}{tx:Int→List Nat}{rk:Int→Nat}{u u':Nat}(J:Jn H x dx hd ak ta b n bG kv ts tx rk u)(h:u'≤u):Jn H x dx hd ak ta b n bG kv ts tx rk u':=
 { J with tf:=by have:=J.tf;exact PS h this,sh:=fun k hk=>by have:=J.sh k hk;exact PQ h this,bf:=by have:=J.bf;exact PO h this }
theorem Jn.alive{H:AH}{x dx hd ak ta:Addr}{b n:Int}{bG kv ts:List (Int×V)}{tx:Int→List Nat}{rk:Int→Nat}{u:Nat}(J:Jn H x dx hd ak ta b n bG kv ts tx rk u):H dx≠none∧H hd≠none∧H ak≠none∧H ta≠none:=by
 have q:=J.pa.some_x
 have sm:∀ {a:Addr} {ds:List (Int×V)},ax H a ds→H a≠none:=fun h=>by refine q4 h fun o e=>?_;clear h;rw[e];exact fun z=>nomatch z
 exact⟨q.2.1,q.2.2,sm J.d,sm J.t⟩
theorem ug{G H H':AH}{dx hd:Addr}(g:aC G H)(k:dO H H' dx hd)(g1:G dx=none)(g2:G hd=none):aC G H':=fun a h=>by
 have e:=g a h
 exact(k a (by rw[e];exact h) (fun z=>h (by rw[z];exact g1)) (fun z=>h (by rw[z];exact g2))).trans e
theorem sF:findIn (KK P) (.ref 287) (Str.ofString "turn")=some (some (.ref 258)):=by kernel_rfl
theorem sC:typeIn (KK P) (.ref 258)=some (.type "function"):=by kernel_rfl
theorem yQ:findIn (KK P) (.ref 287) (Str.ofString "root")=some (some (.ref 265)):=by kernel_rfl
theorem yM:typeIn (KK P) (.ref 265)=some (.type "function"):=by kernel_rfl
theorem rz(W:Lw c (KK P) sc ns)(H:AH)(x dx hd:Addr)(b n k:Int)(kvs:List (Int×V))(tx:Int→List Nat)(rk:Int→Nat)(xs:List Int)(PA:bc H x dx hd b n kvs)(E:bh kvs tx rk)(hk:aJ kvs k)(hx:av (bases kvs) k xs):
  Fn c 4 (.ref 258) [.ref x,.int k] H (fun d H'=>d=.none∧(∃kvs',bc H' x dx hd b n kvs'∧c7 kvs kvs' xs (tx k))∧dO H H' dx hd) (fun _ _=>False):=by
 have hs:1000000≤sizeLine:=by decide
 have bf:=E.bf
 refine Fn.gen fun QQ eH=>?_
 refine aV W.ok.lim (W.kx 258 _ rfl) rfl rfl (codeRec_of W.kx rfl) rfl (names:=["self","number"]) (cR rfl fun _ _=>rfl) rfl (by decide) (fun n=>eI (.inl rfl) (.inl rfl)) rfl rfl rfl fun A L bK hE R O=>?_
 have R1:bw 1 A:=R.le (m6)
 refine ag (cP (az (Pe.ev bS (az (dZ W.kx pc R O.frames (aa rfl) PA.i rfl gf gc (W.kx 211 _ rfl) rfl (aa rfl) (Fn.mono (fU W H x dx hd b n k kvs tx rk PA E hk) (fun d H1 z=>?_) fun _ _ z=>z.elim)))))) (.inl rfl)
 refine xX (d0:=d) (d1:=H1) z ?_;clear z
 refine bk ⟨by show 2≤sizeLine;exact cH hs,?_⟩
 refine ct O (bD R.handled (dZ W.kx pc R O.frames (aa rfl) PA.i rfl g6 gZ (W.kx 225 _ rfl) rfl (aa rfl) (Fn.mono (gN W H x dx hd b n k kvs tx rk PA E hk) (fun d H2 z=>?_) fun _ _ z=>z.elim))) (.inl rfl)
 refine Gd (d0:=d) z fun a ys e2 ha la ch yl=>?_;clear z
 have e:=ch.uniq hx
 subst e
 have eZ:=PA.ext e2
 have ahd:a≠hd:=la.ne_dict eZ.d
 refine⟨a,_,rfl,la,fun i m' H'=>m' (Str.ofString "self")=some (.ref x)∧(i<ys.length→m' (Str.ofString "entry")=some (jQ kvs ys (tx k) i))∧(∀z,z≠hd→H' z=H2 z)∧∃bP,bc H' x dx hd b n bP∧gF kvs bP ys (tx k) (· < i),⟨rfl,fun _=>rfl,fun _ _=>rfl,kvs,eZ,.start fun j=>by exact jb⟩,?_,?_⟩
 ·rintro i d m' H' kp dz Ii tr;refine MC Ii fun bP ms me ZS mR T=>?_;clear Ii
  refine q2 (aI dz) fun v hv EM=>?_;obtain rfl:=EM
  have cA:=(List.getElem?_eq_some_iff.mp hv).1
  have me:=me cA
  have kv:aJ kvs v:=aW.mp (hx.keys v (List.mem_of_getElem? hv))
  have off:aF bP v=aF kvs v:=T.off v fun j hj q=>by
   refine q4 (List.getElem?_eq_some_iff.mp q) fun h1 q1=>?_
   refine q4 (List.getElem?_eq_some_iff.mp hv) fun h2 q2=>?_
   have:=(List.getElem_inj (h₀:=h1) (h₁:=h2) hx.nodup).mp (q1.trans q2.symm)
   exact PI hj this
  have ln:bP.length=kvs.length:=by have:=congrArg List.length T.keys;simpa using this
  have T':=T.step (D':=fun j=>j<i+1) hx.nodup hv kv fun j _=>by exact PH
  have ent:=E.ent v _ (aB kv)
  have gv:aF bP v=some (aE kvs v):=off.trans (aB kv)
  have nx:aF (bases kvs) v=some (vw ys[i+1]?):=hx.next i v hv
  rw[aN,aB kv] at nx
  have gt:ys.getD i 0=v:=hW hv
  have ht:jQ kvs ys (tx k) (i+1)=wL v (aE kvs v):=by simp only[jQ,gt]
  refine ag (Pe.ev (aj (bA W.kx pc (aa ms) mR.i (bX _ _ _) bz bY) (aa rfl) (aT mR.d gv)) ?_) (.inl rfl)
  refine bl (Pe.ev (aa me) (Pe.ev (bA W.kx pc (aa ms) mR.i (bX _ _ _) bz bY) (Pe.ev (aa rfl) ⟨hd,bP,v,rfl,rfl,mR.d,by exact m7 hs bf ln,fun o4=>?_⟩)))
  refine q3 (mR.i.ne_dict mR.d) fun n1 n2=>?_
  have rm:bc (H'.set hd ⟨o4,.dict (bR bP v (jQ kvs ys (tx k) i))⟩) x dx hd b n (bR bP v (jQ kvs ys (tx k) i)):=⟨mR.i.ne n1 n2,ax.same _ _ _ _⟩
  have k4:∀z,z≠hd→(H'.set hd ⟨o4,.dict (bR bP v (jQ kvs ys (tx k) i))⟩) z=H2 z:=fun z hz=>(bj _ _ hz).trans (ZS z hz)
  generalize H'.set hd ⟨o4,.dict (bR bP v (jQ kvs ys (tx k) i))⟩=H4 at rm k4 ⊢
  generalize aE kvs v=d0 at ent gv nx ht
  cases ent with
  | root=>
   refine aL (bq (aj (aa rfl) ae (bB (d:=.none) (j:=0) rfl rfl (by decide)))) (fun g=>(g rfl).elim) (fun _=>?_)
   refine aO ⟨⟨ms,fun h=>?_,k4,_,rm,T'⟩,fun y hy=>by rw[List.mem_singleton] at hy;subst hy;exact k4 _ ahd⟩
   rw[List.getElem?_eq_getElem h] at nx;cases nx
  | lean bb at_ gone aS jq aaj VR=>
   refine aL (bq (aj (aa rfl) ae (bB (d:=.int bb) (j:=0) rfl rfl (by decide)))) (fun _=>?_) (fun g=>(g (fun z=>nomatch z)).elim)
   refine ag (cP (az (Pe.ev (aa rfl) (az (kL W.ok (W.glob rfl) (W.kx 113 _ rfl) rfl R1 O.frames (aj (aa rfl) ae (bB (d:=gE at_ gone aS) (j:=1) rfl rfl (by decide))) (Fn.mono (s9 W H4 _ _ _) (fun d H5 z=>?_) fun _ _ z=>z.elim)))))) (.inl rfl)
   refine xX (d0:=d) (d1:=H5) z ?_;clear z
   refine bk ⟨by show 2≤sizeLine;exact cH hs,?_⟩
   exact aO ⟨⟨ms,fun h=>by rw[ht];rfl,k4,_,rm,T'⟩,fun y hy=>by rw[List.mem_singleton] at hy;subst hy;exact k4 _ ahd⟩
 ·rintro m' H' Ih _;refine MC Ih fun bP ms me ZS mR T=>?_;clear Ih
  refine aO (eH _ _ ⟨rfl,⟨bP,mR,T.all fun j hj=>by rw[List.length_map];exact hj⟩,fun z hz _ z2=>(ZS z z2).trans (e2 z hz)⟩)
structure w6(kvs:List (Int×V))(pt:Int→List Int)(u:Int)(M:Int):Prop where
 at_:∃v,aJ kvs v∧bJ pt u v∧M=ds pt u v
 le:∀v,aJ kvs v→bJ pt u v→(ds pt u v:Int)≤M
theorem w6.uniq{kvs kvs':List (Int×V)}{pt:Int→List Int}{u M M':Int}(h:w6 kvs pt u M)(h':w6 kvs' pt u M')(s:dS kvs kvs'):M=M':=by
 refine q1 (h.at_) fun v k1 s1 e1=>?_
 refine q1 (h'.at_) fun v' k2 s2 e2=>?_
 have:=h.le v' (s.key.mpr k2) s2
 have:=h'.le v (s.key.mp k1) s1
 exact PG e1 e2 (by assumption) this
theorem bO.dj{kvs kvs':List (Int×V)}{pt:Int→List Int}(PT:bO kvs pt)(s:dS kvs kvs'):bO kvs' pt where
 root:=fun v h=>PT.root v ((s v).trans h)
 step:=fun v b h=>PT.step v b ((s v).trans h)
 key:=fun v d h=>by
  rcases PT.key v d ((s v).trans h) with e | ⟨b,d',e,h'⟩
  ·exact .inl e
  ·exact .inr ⟨b,d',e,(s b).symm.trans h'⟩
 len:=fun v d h=>PT.len v d ((s v).trans h)
theorem xQ(W:Lw c (KK P) sc ns)(U:Vy c (KK P))(H:AH)(x dx hd:Addr)(b n k:Int)(kvs:List (Int×V))(tx:Int→List Nat)(rk:Int→Nat)(xs:List Int)(pt:Int→List Int)(M:Int)(PA:bc H x dx hd b n kvs)(E:bh kvs tx rk)(hk:aJ kvs k)(hx:av (bases kvs) k xs)(PT:bO (bases kvs) pt)(HR:w6 (bases kvs) pt k M):
  Fn c 5 (.ref 265) [.ref x,.int k] H (fun d H'=>d=.none∧M≤b∧(∃kvs',bc H' x dx hd b n kvs'∧c7 kvs kvs' xs (tx k))∧dO H H' dx hd) (fun C H'=>aC H H'∧b<M∧C=.ref 97):=by
 have hs:1000000≤sizeLine:=by decide
 have bf:=E.bf
 refine aV W.ok.lim (W.kx 265 _ rfl) rfl rfl (codeRec_of W.kx rfl) rfl (names:=["self","number"]) (cR rfl fun _ _=>rfl) rfl (by decide) (fun n=>eI (.inl rfl) (.inl rfl)) rfl rfl rfl fun A L bK hE R O=>?_
 have R1:bw 1 A:=R.le (pA)
 have R2:bw 2 A:=R.le (rL)
 refine cv (fw W R2 O.frames (aa rfl) (aa rfl) PA hk ⟨dp rfl,?_⟩)
 refine aL (aH (Pe.of_ext (d:=.int M) (gK W.ok (W.glob rfl) (W.kx 155 _ rfl) rfl R2 O.frames (hF W.kx pc R1 O.frames (aa rfl) PA.i rfl fH fG (W.kx 239 _ rfl) rfl (Fn.mono (fz W H x dx hd b n kvs tx rk PA E) (fun d H2 z=>?_) fun _ _ z=>z.elim)))) (bA W.kx pc (aa rfl) PA.i (gP _ _ _) dK gS) jw decide_eq_true_iff) (fun g=>?_) (fun g=>?_)
 ·refine oQ (d0:=d) z fun a aX e1 ha S D=>?_;clear z
  have sm:dS (bases kvs) (bases (Mine.heldOf kvs aX)):=(dS.symm (cB S)).bases
  refine(aa rfl).ev (Fn.mono (oZ W H2 a _ pt k D (PT.dj sm) (by rw[cJ,dr];exact S.nd E.nd) (by unfold bases Mine.heldOf;rw[List.length_map,List.length_map,S.len];exact Pz bf) (sm.key.mp (aW.mpr hk))) (fun d H3 z=>?_) fun _ _ z=>z.elim)
  refine MB (d0:=d) z fun M' e3 h1 h2=>?_;clear z
  exact⟨congrArg V.int ((HR.uniq ⟨h1,h2⟩ sm).symm),e1.trans e3⟩
 ·exact mB W.ok (U.cls _ 97 _ _ rfl (by kernel_rfl)) excBase_ValueError R.handled j5 ⟨aC.refl _,by exact Py g,rfl⟩
 ·refine cv (dZ W.kx pc R O.frames (aa rfl) PA.i rfl sF sC (W.kx 258 _ rfl) rfl (aa rfl) (Fn.mono (rz W H x dx hd b n k kvs tx rk xs PA E hk hx) (fun d H2 z=>?_) fun _ _ z=>z.elim))
  refine pf (d0:=d) z fun h1 h2=>?_;clear z
  exact⟨dp rfl,aO ⟨rfl,by exact Gi g,h1,h2⟩⟩
inductive FrI(H1:AH)(ak a1:Addr)(kvs:List (Int×V))(pt:Int→List Int)(k:Int)(i:Nat)(m':bL)(H':AH):Prop  | mk (e0:aC H1 H') (e1:m' (Str.ofString "_law_kept")=some (.ref ak)) (e2:m' (Str.ofString "_law_mine")=some (.ref a1)) (M:Int):m' (Str.ofString "_law_far_here")=some (.int M)→0≤M→(∃v,aJ (bases kvs) v∧bJ pt k v∧M=ds pt k v)→(∀(j:Nat) (v:Int),j<i→(kvs.map (·.1))[j]?=some v→bJ pt k v→(ds pt k v:Int)≤M)→FrI H1 ak a1 kvs pt k i m' H'
inductive FrJ(H2:AH)(xs ys:List Int)(ak a1 a:Addr)(M:Int)(q:Nat)(m2:bL)(H3:AH):Prop  | mk:H3=H2→(∀(j:Nat) (y:Int),j<q→xs[j]?=some y→y∉ys)→m2 (Str.ofString "_law_kept")=some (.ref ak)→m2 (Str.ofString "_law_mine")=some (.ref a1)→m2 (Str.ofString "_law_far_here")=some (.int M)→m2 (Str.ofString "_law_chain_here")=some (.ref a)→FrJ H2 xs ys ak a1 a M q m2 H3
theorem u6(W:Lw c (KK P) sc ns)(H:AH)(ak:Addr)(k:Int)(kvs:List (Int×V))(tx:Int→List Nat)(rk:Int→Nat)(pt:Int→List Int)(D:ax H ak kvs)(E:bh kvs tx rk)(hk:aJ kvs k)(PT:bO (bases kvs) pt)(jN:∀v xs,av (bases kvs) v xs→pt v=xs.reverse):
  Fn c 2 (.ref 428) [.ref ak,.int k] H (fun d H'=>H'=H∧∃M,d=.int M∧w6 (bases kvs) pt k M) (fun _ _=>False):=by
 have hs:1000000≤sizeLine:=by decide
 have bf:=E.bf
 refine q4 (E.jt) fun cl fS=>?_
 have sr:H ak≠none:=by refine q4 D fun o e=>?_;clear D;rw[e];exact fun z=>nomatch z
 refine Fn.of_ext (Fn.mono (Q:=fun d H'=>aC H H'∧∃M,d=.int M∧w6 (bases kvs) pt k M) (X:=fun _ _=>False) ?_ (fun d H' z=>⟨z.1,rfl,z.2⟩) fun _ _ z=>z.elim)
 refine Fn.gen fun QQ eH=>?_;refine aV W.ok.lim (W.kx 428 _ rfl) rfl rfl (codeRec_of W.kx rfl) rfl (names:=["_law_kept","_law_number"]) (cR rfl fun _ _=>rfl) rfl (by decide) (fun n=>eI (.inl rfl) (.inl rfl)) rfl rfl rfl fun A L bK hE R O=>?_
 have R1:bw 1 A:=R.le (Au)
 refine ag (cy W.ok (W.glob rfl) (W.kx 397 _ rfl) rfl R1 O.frames (aa rfl) (aa rfl) (Fn.mono (cf W H ak kvs tx rk k D E hk) (fun d H1 z=>?_) fun _ _ z=>z.elim)) (.inl rfl)
 refine nR (d0:=d) (d1:=H1) z fun a1 o1 ys h1 chy yl=>?_;clear z
 have e1:aC H (H.set a1 ⟨o1,.list (ys.map V.int)⟩):=aC.set (aC.refl _) h1
 have l1:=ai.same H a1 o1 (ys.map V.int)
 generalize H.set a1 ⟨o1,.list (ys.map V.int)⟩=H1 at e1 l1 ⊢
 have kb:∀ {v:Int},aJ kvs v→aJ (bases kvs) v:=fun h=>aW.mpr h
 refine ag (Pe.ev ae ?_) (.inl rfl)
 refine ct O (dc R.handled (Pe.ev (aa rfl) ⟨ak,kvs,rfl,e1.dict D,FrI H1 ak a1 kvs pt k,⟨aC.refl _,rfl,rfl,0,rfl,Int.le_refl _,⟨k,kb hk,PT.self (kb hk),by rw[jF];rfl⟩,fun j v hj=>absurd hj (jb)⟩,?_,?_⟩)) (.inl rfl)
 ·rintro i d m' H' kp dz Xt _;obtain⟨ex,mk,mm,M,mf,M0,V9,Zz⟩:=Xt
  refine Ex.gen fun aa8 WB=>?_
  refine q2 (aI dz) fun EJ hv EI=>?_;obtain⟨v,dv⟩:=EJ;obtain rfl:=EI
  have kv:aJ kvs v:=⟨dv,bU E.nd (List.mem_of_getElem? hv)⟩
  have yy:(kvs.map (·.1))[i]?=some v:=aQ hv
  refine ag (cy W.ok (W.glob rfl) (W.kx 397 _ rfl) rfl R1 O.frames (aa mk) (aa rfl) (Fn.mono (cf W H' ak kvs tx rk v (ex.dict (e1.dict D)) E kv) (fun d H2 z=>?_) fun _ _ z=>z.elim)) (.inl rfl)
  refine nR (d0:=d) (d1:=H2) z fun a oa xs ha ch xl=>?_;clear z
  have la:=ai.same H' a oa (xs.map V.int)
  have x2:aC H1 (H'.set a ⟨oa,.list (xs.map V.int)⟩):=aC.set ex ha
  generalize H'.set a ⟨oa,.list (xs.map V.int)⟩=H2 at la x2 ⊢
  have l2:=x2.list l1
  have yD:H1 ak≠none:=by rw[e1 _ sr];exact sr
  have nL:∀N:Int,M≤N→(bJ pt k v→(ds pt k v:Int)≤N)→∀(j:Nat) (v':Int),j<i+1→(kvs.map (·.1))[j]?=some v'→bJ pt k v'→(ds pt k v':Int)≤N:=fun N q1 q2 j v' hj og hm=>by
   by_cases z:j=i
   ·subst z;rw[yy] at og;injection og with og;subst og;exact q2 hm
   ·have:=Zz j v' (fm hj z) og hm;exact AB q1 this
  have ex':=jN v xs ch
  have ey:=jN k ys chy
  refine ct (O.kept kp) (cW R.handled ((bF W.ok (eD W)).ev ⟨rfl,Pe.ev (ck W.ok (bu W) (aa rfl) (cT la (by rw[List.length_map];exact iF hs xl))) ⟨_,rfl,by rw[List.length_map];omega,by rw[List.length_map];omega,FrJ H2 xs ys ak a1 a M,⟨rfl,fun j y hj=>absurd hj (jb),mk,mm,mf,rfl⟩,?_,?_⟩⟩)) (.inl rfl)
  ·rintro q d m2 H3 tM hd Xs _;obtain⟨rfl,before,mk,mm,mf,mc⟩:=Xs
   refine q2 (aI hd) fun i' uH EG=>?_;obtain rfl:=EG
   refine q3 (jg uH) fun hi EF=>?_;obtain rfl:=EF
   rw[List.length_map] at hi
   have fQ:i'<xs.length:=by exact vG hi
   have gx:∀ {f:Fx},G2 c f H3 (.ref a) (.int (i':Int)) (.int xs[i']):=fun {f}=>bN (j:=i') la ((bo (dW) (by rw[List.length_map];exact AF fQ)).trans (congrArg some (vH))) (aQ (List.getElem?_eq_getElem fQ)) (Px xl fQ)
   refine aL (aH (aj (aa mc) (aa rfl) gx) (aa mm) (qw l2) decide_eq_true_iff) (fun g=>?_) (fun g=>?_)
   ·have sv:bJ pt v k:=by
     have u1:(pt v)[xs.length-1-i']?=some xs[i']:=by rw[ex',List.getElem?_reverse (ni fQ),show xs.length-1-(xs.length-1-i')=i' by exact pH fQ];exact List.getElem?_eq_getElem fQ
     refine q4 (List.getElem?_of_mem g) fun j hj=>?_
     have Wu:=(List.getElem?_eq_some_iff.mp hj).1
     have u2:(pt k)[ys.length-1-j]?=some xs[i']:=by rw[ey,List.getElem?_reverse (ni Wu),show ys.length-1-(ys.length-1-j)=j by exact pH Wu];exact hj
     have:=(PT.meet (kb kv) (kb hk) u1 u2).2
     unfold bJ;exact Bv this
    refine vl (PT.between (kb kv) (kb hk) sv ex' ey) fun k0 j z hk0 kx jx sum bef first=>?_
    have hik:i'=k0:=by
     apply Classical.byContradiction;intro ne
     by_cases lt:i'<k0
     ·exact bef i' _ lt (List.getElem?_eq_getElem fQ) g
     ·exact before k0 z (Pu ne lt) kx (List.mem_of_getElem? jx)
    subst hik
    have hz:xs[i']=z:=by rw[List.getElem?_eq_getElem fQ] at kx;injection kx
    have dd:(ds pt k v:Int)=(i':Int)+j:=by rw[gj];exact Pt sum
    refine ag (Pe.ev (d:=.int (max M ((i':Int)+j))) (iQ W.ok (gB W) (aa mf) (aw (aa rfl) (Pe.of_ext (d:=.int (j:Nat)) (hZ plainAttrs_list slot_list_index (Pe.ev (aa mm) ⟨eO l2,nG.nz (au (aj (aa mc) (aa rfl) gx) aU) ?_⟩) type_list_index)) bx) (nH R.handled)) ?_) (.inl rfl)
    ·rw[hz];exact(oG l2 jx first (iF hs yl)).op ⟨rfl,aC.refl _⟩
    refine xn (aO (WB _ _ _ ⟨⟨x2,mk,mm,_,rfl,by exact Ps,?_,nL _ (Pr) (fun _=>by exact Pq dd)⟩,fun y hy=>by rw[List.mem_singleton] at hy;subst hy;exact x2 _ yD⟩))
    by_cases q:M≤(i':Int)+j
    ·exact⟨v,kb kv,sv.symm,by exact Pp dd q⟩
    ·rw[show max M ((i':Int)+j)=M by exact Po q];exact V9
   ·refine aO ⟨⟨rfl,fun j y hj hy=>?_,mk,mm,mf,mc⟩,fun _ h=>(nomatch h)⟩
    by_cases e:j=i'
    ·subst e;rw[List.getElem?_eq_getElem fQ] at hy;injection hy with hy;subst hy;exact g
    ·exact before j y (fm hj e) hy
  ·rintro m2 H3 Xr _;obtain⟨rfl,before,mk,mm,mf,mc⟩:=Xr
   refine aO (WB _ _ _ ⟨⟨x2,mk,mm,M,mf,M0,V9,nL M (Int.le_refl _) (fun sk=>?_)⟩,fun y hy=>by rw[List.mem_singleton] at hy;subst hy;exact x2 _ yD⟩)
   exfalso
   refine vl (PT.between (kb kv) (kb hk) sk.symm ex' ey) fun k0 j z hk0 kx jx sum bef first=>?_
   refine before k0 z ?_ kx (List.mem_of_getElem? jx)
   have:=(List.getElem?_eq_some_iff.mp kx).1
   rw[List.length_map,List.length_range,List.length_map];exact Pn hk0
 ·rintro m' H' Xq _;obtain⟨ex,mk,mm,M,mf,M0,V9,Zz⟩:=Xq
  refine aK (Pe.ev (aa mf) (eH _ _ ⟨e1.trans ex,M,rfl,V9,fun v kv sv=>?_⟩))
  refine q4 (List.getElem?_of_mem (ay.mp (aW.mp kv))) fun j hj=>?_
  exact Zz j v (by rw[List.length_map];have:=(List.getElem?_eq_some_iff.mp hj).1;rw[List.length_map] at this;exact this) hj sv
inductive LtI(H1:AH)(ak a1 af:Addr)(k:Int)(tx:Int→List Nat)(kvs:List (Int×V))(ys:List Int)(i:Nat)(m':bL)(H':AH):Prop  | mk (e0:aC H1 H') (e1:m' (Str.ofString "_law_kept")=some (.ref ak)) (e2:m' (Str.ofString "_law_chain_here")=some (.ref a1)) (e3:m' (Str.ofString "_law_found")=some (.ref af)) (e4:m' (Str.ofString "_law_number")=some (.int k)) (e5:m' (Str.ofString "_law_signs")=some (.s (tx k))) (bP:List (Int×V)):ax H' af bP→gF kvs bP ys (tx k) (fun j=>1≤j∧j<i+1)→LtI H1 ak a1 af k tx kvs ys i m' H'
theorem lB(W:Lw c (KK P) sc ns)(H:AH)(ak:Addr)(k:Int)(kvs:List (Int×V))(tx:Int→List Nat)(rk:Int→Nat)(xs:List Int)(D:ax H ak kvs)(E:bh kvs tx rk)(hk:aJ kvs k)(hx:av (bases kvs) k xs):
  Fn c 2 (.ref 435) [.ref ak,.int k,.s (tx k)] H (fun d H'=>∃a kvs',d=.ref a∧aC H H'∧H a=none∧ax H' a kvs'∧c7 kvs kvs' xs (tx k)) (fun _ _=>False):=by
 have hs:1000000≤sizeLine:=by decide
 have bf:=E.bf
 refine Fn.gen fun QQ eH=>?_;refine aV W.ok.lim (W.kx 435 _ rfl) rfl rfl (codeRec_of W.kx rfl) rfl (names:=["_law_kept","_law_number","_law_signs"]) (jf rfl fun _ _ _=>rfl) rfl (by decide) (fun n=>lM (.inl rfl) (.inl rfl) (.inl rfl)) rfl rfl rfl fun A L bK hE R O=>?_
 have R1:bw 1 A:=R.le (Au)
 refine ag (cy W.ok (W.glob rfl) (W.kx 397 _ rfl) rfl R1 O.frames (aa rfl) (aa rfl) (Fn.mono (cf W H ak kvs tx rk k D E hk) (fun d H1 z=>?_) fun _ _ z=>z.elim)) (.inl rfl)
 refine nR (d0:=d) (d1:=H1) z fun a1 o1 ys h1 ch yl=>?_;clear z
 have e:=ch.uniq hx
 subst e
 have e1:aC H (H.set a1 ⟨o1,.list (ys.map V.int)⟩):=aC.set (aC.refl _) h1
 have l1:=ai.same H a1 o1 (ys.map V.int)
 generalize H.set a1 ⟨o1,.list (ys.map V.int)⟩=H1 at e1 l1 ⊢
 have D1:=e1.dict D
 refine ag (mE W.ok (kW W) (aa rfl) (oH W.ok D1 (fB hs bf) fun af of_ hf=>?_)) (.inl rfl)
 have e2:aC H1 (H1.set af ⟨of_,.dict kvs⟩):=aC.set (aC.refl _) hf
 have f2:=ax.same H1 af of_ kvs
 have yF:=e1.none hf
 generalize H1.set af ⟨of_,.dict kvs⟩=H2 at e2 f2 ⊢
 have y0:ys[0]?=some k:=by refine q4 (hx.head) fun r hr=>?_;rw[hr];rfl
 have yp:0<ys.length:=(List.getElem?_eq_some_iff.mp y0).1
 have lt1:∀ {HH:AH},aC H1 HH→ai HH a1 (ys.map V.int):=fun e=>e.list l1
 refine ct O (qt R.handled ((bF W.ok (eD W)).ev ⟨rfl,Pe.ev ae (Pe.ev (ck W.ok (bu W) (aa rfl) (cT (e2.list l1) (by rw[List.length_map];exact iF hs yl))) ⟨_,_,rfl,rfl,by decide,by decide,by rw[List.length_map];omega,by rw[List.length_map];omega,LtI H1 ak a1 af k tx kvs ys,⟨e2,rfl,rfl,rfl,rfl,rfl,kvs,f2,.start fun j=>by exact Pm⟩,?_,?_⟩)⟩)) (.inl rfl)
 ·rintro i d m' H' kp dz wG _
  refine Ex.gen fun QhQ hQ=>?_
  obtain⟨ex,mk,mc,mf,mn,msg,bP,f',T⟩:=wG
  refine q2 (aI dz) fun i' uH EE=>?_;obtain rfl:=EE
  refine q3 (jg uH) fun hi ED=>?_;obtain rfl:=ED
  rw[List.length_map] at hi
  have fQ:i'+1<ys.length:=by exact Pl hi
  have l':=ex.list l1
  have D':=ex.dict D1
  have g0:∀ {f:Fx},G2 c f H' (.ref a1) (.int ((1:Int)+(i':Int)-1)) (.int ys[i']):=fun {f}=>bN (j:=i') l' ((bo (Pk) (by rw[List.length_map];exact Pj fQ)).trans (congrArg some (Ph))) (aQ (List.getElem?_eq_getElem (pF fQ))) (Pg yl fQ)
  have g1:∀ {f:Fx},G2 c f H' (.ref a1) (.int ((1:Int)+(i':Int))) (.int ys[i'+1]):=fun {f}=>bN (j:=i'+1) l' ((bo (Pf) (by rw[List.length_map];exact Pd fQ)).trans (congrArg some (Pc))) (aQ (List.getElem?_eq_getElem fQ)) (Pa yl fQ)
  have y1:=List.getElem?_eq_getElem (l:=ys) (i:=i') (pF fQ)
  have y2:ys[i'+1]?=some ys[i'+1]:=List.getElem?_eq_getElem fQ
  have kv:aJ kvs ys[i']:=aW.mp (hx.keys _ (List.mem_of_getElem? y1))
  have BM:aJ kvs ys[i'+1]:=aW.mp (hx.keys _ (List.mem_of_getElem? y2))
  have ln:bP.length=kvs.length:=by have:=congrArg List.length T.keys;simpa using this
  have T':=T.step (D':=fun j=>1≤j∧j<i'+1+1) hx.nodup y2 BM fun j _=>by exact O9
  have ent:=E.ent _ _ (aB kv)
  have gv:=aB kv
  have nx:aF (bases kvs) ys[i']=some (.int ys[i'+1]):=by have:=hx.next i' _ y1;rw[y2] at this;exact this
  rw[aN,gv] at nx
  have ht:jQ kvs ys (tx k) (i'+1)=wL ys[i'] (aE kvs ys[i']):=by simp only[jQ,hW y1]
  generalize aE kvs ys[i']=d0 at ent gv nx ht
  cases ent with
  | root=>cases nx
  | lean bb at_ gone aS jq aaj VR=>
   refine ag (Pe.ev (aj (aj (aa mk) (aj (aa mc) (aw (aa rfl) ae dF) g0) (aT D' gv)) ae (bB (d:=gE at_ gone aS) (j:=1) rfl rfl (by decide))) ?_) (.inl rfl)
   refine bl (Pe.ev (bM (au (aj (aa mc) (aw (aa rfl) ae dF) g0) (au (bM (au (aj (aa rfl) ae (bB (d:=.int at_) (j:=0) rfl rfl (by decide))) (au (aj (aa rfl) ae (bB (d:=.s aS) (j:=2) rfl rfl (by decide))) (au (aj (aa rfl) ae (bB (d:=.s gone) (j:=1) rfl rfl (by decide))) aU))) (cF _ _ _)) aU)) (by show 2≤sizeLine;exact cH hs)) (Pe.ev (aa mf) (Pe.ev (aj (aa mc) (aa rfl) g1) ⟨af,bP,_,rfl,rfl,f',by exact m7 hs bf ln,fun o4=>?_⟩)))
   rw[ht] at T'
   exact aO (hQ _ _ _ ⟨⟨aC.upd ex hf,mk,mc,mf,mn,msg,_,ax.same _ _ _ _,T'⟩,fun _ h=>(nomatch h)⟩)
 ·rintro m' H' Xp _;obtain⟨ex,mk,mc,mf,mn,msg,bP,f',T⟩:=Xp
  rw[List.length_map,List.length_range,List.length_map] at T
  have ln:bP.length=kvs.length:=by have:=congrArg List.length T.keys;simpa using this
  refine bl (Pe.ev (bM (au bS (au (aa msg) aU)) (by show 2≤sizeLine;exact cH hs)) (Pe.ev (aa mf) (Pe.ev (aa mn) ⟨af,bP,k,rfl,rfl,f',by exact m7 hs bf ln,fun o4=>?_⟩)))
  have T':=T.step (D':=fun j=>j<ys.length) hx.nodup y0 hk fun j hj=>by exact O8 hj
  exact aK (Pe.ev (aa mf) (eH _ _ ⟨af,_,rfl,aC.upd (e1.trans ex) yF,yF,ax.same _ _ _ _,T'.all fun j hj=>hj⟩))
theorem nN(W:Lw c (KK P) sc ns)(H:AH)(x dx hd:Addr)(b n o:Int)(kvs:List (Int×V))(tx:Int→List Nat)(rk:Int→Nat)(l:List Nat)(xs:List Int)(PA:bc H x dx hd b n kvs)(E:bh kvs tx rk)(bf:kvs.length<40)(hl:l.length≤20000)(hn:¬aJ kvs n)(ho:aJ kvs o)(hx:av (bases kvs) o xs)(hb:b<(xs.length:Int)):
  Fn c 5 (.ref 204) [.ref x,.s l,.int o] H (fun d H'=>d=.int n∧(∃kvs',bc H' x dx hd b (n+1) kvs'∧eE kvs kvs' tx b n l (.int o))∧dO H H' dx hd) (fun _ _=>False):=by
 have hs:1000000≤sizeLine:=by decide
 have so:=E.short o ho
 refine Fn.gen fun QQ eH=>?_
 refine aV W.ok.lim (W.kx 204 _ rfl) rfl rfl (codeRec_of W.kx rfl) rfl (names:=["self","text","beside"]) (jf rfl fun _ _ _=>rfl) rfl (by decide) (fun n=>lM (.inl rfl) (.inl rfl) (.inl rfl)) rfl rfl rfl fun A L bK hE R O=>?_
 have R1:bw 1 A:=R.le (pA)
 have R3:bw 3 A:=R.le (rK)
 have R2:bw 2 A:=R.le (rL)
 refine ag (Pe.ev (bM (au bS (au (aa rfl) aU)) (by show 2≤sizeLine;exact cH hs)) ?_) (.inl rfl)
 refine aL (bq (aa rfl)) (fun _=>?_) (fun g=>(g (fun z=>nomatch z)).elim)
 refine cv (fw W R2 O.frames (aa rfl) (aa rfl) PA ho ⟨dp rfl,?_⟩)
 refine ag (cP (az (Pe.ev (aa rfl) (az (gK W.ok (W.glob rfl) (W.kx 120 _ rfl) rfl R1 O.frames (dZ W.kx pc R3 O.frames (aa rfl) PA.i rfl gf gc (W.kx 211 _ rfl) rfl (aa rfl) (Fn.mono (fU W H x dx hd b n o kvs tx rk PA E ho) (fun d H1 z=>?_) fun _ _ z=>z.elim))))))) (.inl rfl)
 refine xX (d0:=d) (d1:=H1) z ?_;clear z
 refine(aa rfl).ev (Fn.mono (fq W _ (tx o) l (eX so) (eX hl)) (fun d H z=>?_) fun _ _ z=>z.elim)
 refine q95 (d0:=d) z fun a e EC C=>?_;clear z;obtain rfl:=EC
 refine bk ⟨by show 2≤sizeLine;exact cH hs,?_⟩
 have st:=C.step (Nat.le_refl a)
 rw[List.drop_eq_nil_of_le (by rw[List.length_take];exact pE),List.nil_append,List.nil_append] at st
 obtain⟨en,tT⟩:∃en:V,en=.tup [.int o,.tup [.int a,.s (((tx o).take ((tx o).length-e)).drop a),.s ((l.take (l.length-e)).drop a)]]:=⟨_,rfl⟩
 have tW:aP en=.int o:=by rw[tT];rfl
 refine ag (Pe.ev (bA W.kx pc (aa rfl) PA.i (jS _ _ _) dK jU) ?_) (.inl rfl)
 refine ag (hF W.kx pc R1 O.frames (aa rfl) PA.i rfl fH fG (W.kx 239 _ rfl) rfl (Fn.mono (fz W H x dx hd b n kvs tx rk PA E) (fun d H2 z=>?_) fun _ _ z=>z.elim)) (.inl rfl)
 refine oQ (d0:=d) z fun ba aX e1 ha S D=>?_;clear z
 have GD:¬aJ (Mine.heldOf kvs aX) n:=fun q=>hn ((cB S).key.mp q)
 have qV:n∉(bases (Mine.heldOf kvs aX)).map (·.1):=by rw[cJ];exact fun q=>GD (ay.mpr q)
 have sl:=S.len
 refine bl (Pe.ev (aa rfl) (Pe.ev (aa rfl) (Pe.ev (aa rfl) ⟨ba,_,n,rfl,rfl,D,by unfold bases Mine.heldOf;rw[List.length_map,List.length_map];exact vN bf hs sl,fun o1=>?_⟩)))
 rw[cc qV]
 have e2:aC H (H2.set ba ⟨o1,.dict (bases (Mine.heldOf kvs aX)++[(n,.int o)])⟩):=aC.upd e1 ha
 have D2:ax (H2.set ba ⟨o1,.dict (bases (Mine.heldOf kvs aX)++[(n,.int o)])⟩) ba (bases (Mine.heldOf kvs aX)++[(n,.int o)]):=ax.same _ _ _ _
 generalize H2.set ba ⟨o1,.dict (bases (Mine.heldOf kvs aX)++[(n,.int o)])⟩=H3 at e2 D2 ⊢
 have eZ:=PA.ext e2
 refine ag (Pe.ev bS ?_) (.inl rfl)
 have EH:=E.heldOf S
 have hoh:aJ (Mine.heldOf kvs aX) o:=(cB S).key.mpr ho
 obtain⟨tu,E2⟩:=EH.put_lean GD hoh (by unfold Mine.heldOf;rw[List.length_map];exact vM bf sl) hl st
 have wd:oA (bases (Mine.heldOf kvs aX)++[(n,.int o)]) tu:=by
  have:=E2.qD (by simp)
  rw[cO] at this;exact this
 have g0:aF (bases (Mine.heldOf kvs aX)++[(n,V.int o)]) n=some (.int o):=by rw[bC qV,if_pos rfl]
 have Ch:dS kvs (Mine.heldOf kvs aX):=fun k=>(cB S k).symm
 have ZY:av (bases (Mine.heldOf kvs aX)++[(n,.int o)]) n (n::xs):=.step g0 ((Ch.bases.chain hx).keep fun y hy=>fK (fun q=>GD (aW.mp q)) y hy)
 refine aL (aH (aw (Pe.of_ext (d:=.int ((xs.length:Int)+1)) (cj W.ok (bu W) (cy W.ok (W.glob rfl) (W.kx 127 _ rfl) rfl R1 O.frames (aa rfl) (aa rfl) (Fn.mono (fV W H3 ba _ tu n (.int o) D2 wd g0) (fun d H4 z=>?_) fun _ _ z=>z.elim)))) ae dF) (bA W.kx pc (aa rfl) eZ.i (gP _ _ _) dK gS) jw decide_eq_true_iff) (fun _=>?_) (fun g=>absurd g (O7 hb))
 ·refine nR (d0:=d) (d1:=H4) z fun a3 o3 ys h3 ch xl=>?_;clear z
  have hy:=ch.uniq ZY
  subst hy
  exact(cT (ai.same _ _ _ _) (by rw[List.length_map];exact iF hs xl)).op ⟨congrArg V.int (by rw[List.length_map,List.length_cons];exact vO),aC.set (aC.refl _) h3⟩
 refine q2 (wd.vt) fun pt PT jN=>?_
 have kbn:((bases (Mine.heldOf kvs aX)++[(n,V.int o)]).map (·.1)).Nodup:=by
  have:=E2.nd
  rw[← cJ,cO] at this;exact this
 have kbl:(bases (Mine.heldOf kvs aX)++[(n,V.int o)]).length≤40:=by
  rw[List.length_append];unfold bases Mine.heldOf;rw[List.length_map,List.length_map];simp;exact O6 bf sl
 have sk:dS (bases (Mine.heldOf kvs aX)++[(n,V.int o)]) (bases kvs++[(n,.int o)]):=(cB S).bases.put fun q=>hn (aW.mp q)
 have za:=PT.dj sk
 have jC:∀v ys,av (bases kvs++[(n,.int o)]) v ys→pt v=ys.reverse:=fun v ys h=>jN v ys ((dS.symm sk).chain h)
 refine ag (cy W.ok (W.glob rfl) (W.kx 162 _ rfl) rfl R2 O.frames (aa rfl) (aa rfl) (Fn.mono (td W H3 ba _ pt n D2 PT kbn kbl ⟨_,g0⟩) (fun d H4 z=>?_) fun _ _ z=>z.elim)) (.inl rfl)
 refine Gd (d0:=d) z fun mid Ec e4 km tp yT best=>?_;clear z
 have M:qB (bases (Mine.heldOf kvs aX)++[(n,V.int o)]) pt n mid Ec:=⟨km,tp,yT,best⟩
 refine xm (eS (cy W.ok (W.glob rfl) (W.kx 155 _ rfl) rfl R2 O.frames (aa rfl) (aa rfl) (Fn.mono (oZ W H4 ba _ pt mid (e4.dict D2) PT kbn kbl km) (fun d H5 z=>?_) fun _ _ z=>z.elim)))
 refine MB (d0:=d) z fun Mr e5 EB le1=>?_;clear z;obtain⟨v1,HF,sv1,yy⟩:=EB
 have hMr:Mr=Ec mid:=by
  refine q3 (yT mid km tp) fun EA q=>?_;obtain⟨w,kw,sw,ew⟩:=EA
  have h1:=q v1 HF (tp.trans sv1)
  have h2:=le1 w kw (tp.symm.trans sw)
  exact O5 yy ew h1 h2
 subst hMr
 have e25:aC H H5:=(e2.trans e4).trans e5
 have sS:=PA.ext e25
 clear e4 e5 eZ D2 e2
 have tQ:n∉kvs.map (·.1):=fun q=>hn (ay.mpr q)
 refine q3 (sS.i.ne_dict sS.d) fun n1 n2=>?_
 refine(bA W.kx pc (aa rfl) sS.i (gP _ _ _) dK gS).ev (jw.op ⟨_,rfl,fun UM=>?_,fun hle=>?_⟩)
 ·have UM:b<(Ec mid:Int):=by simpa using UM
  refine ag (Pe.ev bS ?_) (.inl rfl)
  refine ag (Pe.ev (bM (au bS (au (aa rfl) aU)) (by show 2≤sizeLine;exact cH hs)) ?_) (.inl rfl)
  refine bl (Pe.ev (aa rfl) (Pe.ev (bA W.kx pc (aa rfl) sS.i (bX _ _ _) bz bY) (Pe.ev (aa rfl) ⟨hd,kvs,n,rfl,rfl,sS.d,by exact rP bf hs,fun o4=>?_⟩)))
  rw[cc tQ]
  have I3:=sS.i.ne (y:=⟨o4,.dict (kvs++[(n,.tup [.none,.s l])])⟩) n1 n2
  have D3:ax (H5.set hd ⟨o4,.dict (kvs++[(n,.tup [.none,.s l])])⟩) hd (kvs++[(n,.tup [.none,.s l])]):=ax.same _ _ _ _
  have k3:∀a,a≠hd→(H5.set hd ⟨o4,.dict (kvs++[(n,.tup [.none,.s l])])⟩) a=H5 a:=fun a h=>bj _ _ h
  generalize H5.set hd ⟨o4,.dict (kvs++[(n,.tup [.none,.s l])])⟩=H6 at I3 D3 k3 ⊢
  refine c8 W.kx pc (Pe.ev (aw (aa rfl) ae bx) (Pe.ev (aa rfl) ⟨x,dx,_,pk (.int b) (.ref hd) (.int (n+1)),rfl,I3,(by show 3≤1000;decide),dV _ _ _ _,fun od=>?_⟩)) fx
  refine aL (bq (aa rfl)) (fun g=>(g rfl).elim) (fun _=>?_)
  have PF:bc (H6.set dx ⟨od,.attrs (pk (.int b) (.ref hd) (.int (n+1)))⟩) x dx hd b (n+1) (kvs++[(n,.tup [.none,.s l])]):=by
   refine q3 (id I3) fun Ez _=>?_;obtain⟨o',q⟩:=Ez
   exact⟨⟨⟨o',(bj _ _ I3.apart).trans q⟩,od,b9 _ _ _⟩,D3.ne n2.symm⟩
  refine aK (Pe.ev (aa rfl) (eH _ _ ⟨rfl,⟨_,PF,.dQ o xs pt mid Ec hx hb za jC (M.dj sk) UM rfl⟩,fun y hy kV qU=>?_⟩))
  rw[bj _ _ kV,k3 y qU,e25 y hy]
 ·have hle:(Ec mid:Int)≤b:=by simpa using hle
  refine q4 (E.put_lean hn ho bf hl st) fun xW E1=>?_
  have aao:en=V.tup [.int o,gE a (((tx o).take ((tx o).length-e)).drop a) ((l.take (l.length-e)).drop a)]:=tT
  rw[← aao] at E1
  have nZ:aJ (kvs++[(n,en)]) mid:=by
   have:=(M.dj sk).key
   rw[show bases kvs++[(n,V.int o)]=bases (kvs++[(n,en)]) by rw[cO,tW]] at this
   exact aW.mp this
  refine q2 (E1.chain nZ) fun zs hz _=>?_
  refine bl (Pe.ev (aa rfl) (Pe.ev (bA W.kx pc (aa rfl) sS.i (bX _ _ _) bz bY) (Pe.ev (aa rfl) ⟨hd,kvs,n,rfl,rfl,sS.d,by exact rP bf hs,fun o4=>?_⟩)))
  rw[cc tQ,← tT]
  have I3:=sS.i.ne (y:=⟨o4,.dict (kvs++[(n,en)])⟩) n1 n2
  have D3:ax (H5.set hd ⟨o4,.dict (kvs++[(n,en)])⟩) hd (kvs++[(n,en)]):=ax.same _ _ _ _
  have k3:∀a,a≠hd→(H5.set hd ⟨o4,.dict (kvs++[(n,en)])⟩) a=H5 a:=fun a h=>bj _ _ h
  generalize H5.set hd ⟨o4,.dict (kvs++[(n,en)])⟩=H6 at I3 D3 k3 ⊢
  refine c8 W.kx pc (Pe.ev (aw (aa rfl) ae bx) (Pe.ev (aa rfl) ⟨x,dx,_,pk (.int b) (.ref hd) (.int (n+1)),rfl,I3,(by show 3≤1000;decide),dV _ _ _ _,fun od=>?_⟩)) fx
  have PF:bc (H6.set dx ⟨od,.attrs (pk (.int b) (.ref hd) (.int (n+1)))⟩) x dx hd b (n+1) (kvs++[(n,en)]):=by
   refine q3 (id I3) fun Ey _=>?_;obtain⟨o',q⟩:=Ey
   exact⟨⟨⟨o',(bj _ _ I3.apart).trans q⟩,od,b9 _ _ _⟩,D3.ne n2.symm⟩
  have k7:∀y,H y≠none→y≠dx→y≠hd→(H6.set dx ⟨od,.attrs (pk (.int b) (.ref hd) (.int (n+1)))⟩) y=H y:=fun y hy kV qU=>by rw[bj _ _ kV,k3 y qU,e25 y hy]
  generalize H6.set dx ⟨od,.attrs (pk (.int b) (.ref hd) (.int (n+1)))⟩=H7 at PF k7 ⊢
  refine aL (bq (aa rfl)) (fun _=>?_) (fun g=>(g fun z=>nomatch z).elim)
  refine cv (dZ W.kx pc R O.frames (aa rfl) PF.i rfl sF sC (W.kx 258 _ rfl) rfl (aa rfl) (Fn.mono (rz W H7 x dx hd b (n+1) mid _ _ xW zs PF E1 nZ hz) (fun d H8 z=>?_) fun _ _ z=>z.elim))
  refine pf (d0:=d) z fun Ew kp8=>?_;clear z;obtain⟨kvs',Vx,T⟩:=Ew
  refine⟨dp rfl,aK (Pe.ev (aa rfl) (eH _ _ ⟨rfl,⟨kvs',Vx,?_⟩,fun y hy kV qU=>?_⟩))⟩
  ·rw[tT] at hz T
   exact .turned o a e xs pt mid Ec zs C hx hb za jC (M.dj sk) hle hz T
  ·have:=k7 y hy kV qU
   rw[kp8 y (by rw[this];exact hy) kV qU,this]
theorem uW(W:Lw c (KK P) sc ns)(H:AH)(x dx hd:Addr)(b n:Int)(j4:V)(kvs:List (Int×V))(tx:Int→List Nat)(rk:Int→Nat)(l:List Nat)(PA:bc H x dx hd b n kvs)(E:bh kvs tx rk)(bf:kvs.length<40)(hl:l.length≤20000)(hn:¬aJ kvs n)(h0:0≤b)(tV:j4=.none∨∃o,j4=.int o∧aJ kvs o):
  Fn c 5 (.ref 204) [.ref x,.s l,j4] H (fun d H'=>d=.int n∧(∃kvs',bc H' x dx hd b (n+1) kvs'∧eE kvs kvs' tx b n l j4)∧dO H H' dx hd) (fun _ _=>False):=by
 rcases tV with rfl | ⟨o,rfl,ho⟩
 ·exact Fn.le (Fn.mono (eT W H x dx hd b n kvs tx rk l PA E bf hl hn h0) (fun d H' z=>⟨z.1,⟨_,z.2.1,.none rfl⟩,z.2.2⟩) fun _ _ z=>z) (Aw)
 ·refine q2 (E.chain ho) fun xs hx _=>?_
  by_cases hb:(xs.length:Int)≤b
  ·refine Fn.le (Fn.mono (i7 W H x dx hd b n o kvs tx rk l xs PA E bf hl hn ho hx hb) (fun d H' z=>?_) fun _ _ z=>z) (Av)
   refine iz z fun z1 EL z3=>?_;clear z;obtain⟨a,e,C,PF⟩:=EL
   exact⟨z1,⟨_,PF,.lean o a e xs C hx hb rfl⟩,z3⟩
  ·exact nN W H x dx hd b n o kvs tx rk l xs PA E bf hl hn ho hx (PE hb)
theorem uf:findIn (KK P) (.ref 287) (Str.ofString "forget")=some (some (.ref 284)):=by kernel_rfl
theorem t9:typeIn (KK P) (.ref 284)=some (.type "function"):=by kernel_rfl
theorem GQ(W:Lw c (KK P) sc ns):GN c (Str.ofString "zip") (.type "zip"):=W.blt rfl (by decide) GY
theorem cG{m:bL}{x:Str}{d:V}(h:∀y d,m y=some d→cS d)(hd:cS d):∀y d',(m.set x d) y=some d'→cS d':=fun y d' e=>by
 unfold bL.set at e
 split at e
 ·cases e;exact hd
 ·exact h y d' e
theorem mW{x y:Str}{a b:V}(ha:cS a)(hb:cS b):∀z d,(r0 [x,y] [a,b]) z=some d→cS d:=fun z d e=>by
 have:=fD e
 simp only[List.zip_cons_cons,List.zip_nil_right,List.mem_cons,List.not_mem_nil,or_false,Prod.mk.injEq] at this
 rcases this with ⟨_,rfl⟩ | ⟨_,rfl⟩
 ·exact ha
 ·exact hb
theorem um{kvs:List (Int×V)}{k:Int}{d:V}(h:∀p∈kvs,cS p.2)(hd:cS d):∀p∈bR kvs k d,cS p.2:=fun p hp=>by
 unfold bR at hp
 split at hp
 ·refine q2 (List.mem_map.mp hp) fun q hq EK=>?_;obtain rfl:=EK
  split
  ·exact hd
  ·exact h q hq
 ·rcases List.mem_append.mp hp with hp | hp
  ·exact h p hp
  ·rw[List.mem_singleton] at hp;subst hp;exact hd
theorem bh.safe{kvs:List (Int×V)}{tx:Int→List Nat}{rk:Int→Nat}(E:bh kvs tx rk):∀p∈kvs,cS p.2:=fun p hp=>by
 have:=E.ent p.1 p.2 (bU E.nd hp)
 generalize p.2=d at this
 cases this with
 | root=>exact mV
 | lean b a gone aS _ _ _=>exact mX
theorem jr{b0:V}{ls:List Int}{i:Nat}{nn:Int}(h:er b0 ls i=.none)(hi:ls[i]?=some nn):er b0 ls (i+1)=.int nn:=by
 unfold er at h ⊢
 split at h
 ·cases h
 ·split at h
  ·rename_i _ _ q;subst q
   rw[if_neg (PD),hW hi]
  ·cases h
theorem jY{b0:V}{ls:List Int}{i:Nat}{bb:Int}(h:er b0 ls i=.int bb):er b0 ls (i+1)=.int bb:=by
 unfold er at h ⊢
 split at h
 ·exact h
 ·split at h
  ·cases h
  ·rw[if_neg (PB)];exact h
theorem p5(b0:V)(ls:List Int)(i:Nat):er b0 ls i=.none∨∃bb,er b0 ls i=.int bb:=by
 unfold er
 split
 ·exact .inr ⟨_,rfl⟩
 ·split
  ·exact .inl rfl
  ·exact .inr ⟨_,rfl⟩
structure zd(kvs bP:List (Int×V))(k:Int)(b0:V)(ls:List Int)(tx:Int→List Nat)(i:Nat):Prop where
 keys:bP.map (·.1)=(jI kvs k).map (·.1)
 off:∀x,x∉ls.take i→aF bP x=aF (jI kvs k) x
 on:∀(j:Nat) y,j<i→ls[j]?=some y→∃d,aF bP y=some d∧qo b0 ls tx j y d
 safe:∀p∈bP,cS p.2
theorem zd.put{kvs bP:List (Int×V)}{k:Int}{b0:V}{ls:List Int}{tx:Int→List Nat}{i:Nat}(F:zd kvs bP k b0 ls tx i)(L:gy kvs k ls)(de:∀y∈ls,y≠k){y:Int}{d:V}(hi:ls[i]?=some y)(hd:qo b0 ls tx i y d)(sd:cS d):zd kvs (bR bP y d) k b0 ls tx (i+1):=by
 have ky:aJ bP y:=by
  rw[ay,F.keys,← ay]
  have hm:=List.mem_of_getElem? hi
  refine q4 (((L.mem y).mp hm).1) fun dd e=>?_
  exact⟨dd,by rw[j1,if_neg (de y hm)];exact e⟩
 have nt:=iV L.nd hi
 refine⟨(ef ky).trans F.keys,fun x hx=>?_,fun j z hj hz=>?_,um F.safe sd⟩
 ·rw[List.take_add_one,hi] at hx
  rw[bZ,if_neg (fun q=>hx (by rw[q];simp))]
  exact F.off x fun q=>hx (List.mem_append_left _ q)
 ·rw[bZ]
  by_cases q:j=i
  ·subst q
   rw[hi] at hz;cases hz
   rw[if_pos rfl];exact⟨d,rfl,hd⟩
  ·have:z≠y:=fun e=>by
    subst e
    apply nt
    exact List.mem_of_getElem? (i:=j) (by rw[List.getElem?_take,if_pos (fm hj q)];exact hz)
   rw[if_neg this];exact F.on j z (fm hj q) hz
inductive FgZ(kvs:List (Int×V))(tx:Int→List Nat)(k:Int)(b0:V)(ls:List Int)(H':AH)(hd x:Addr)(i:Nat)(m:bL)(H2:AH):Prop
 | mk (o':Obj) (bP:List (Int×V)):H2=H'.set hd ⟨o',.dict bP⟩→zd kvs bP k b0 ls tx i→m (Str.ofString "self")=some (.ref x)→m (Str.ofString "base")=some (er b0 ls i)→(∀bb,er b0 ls i=.int bb→m (Str.ofString "ahead")=some (.s (tx bb)))→(∀y d,m y=some d→cS d)→FgZ kvs tx k b0 ls H' hd x i m H2
inductive FgI(tx:Int→List Nat)(k:Int)(b0:V)(H3:AH)(x al at_:Addr)(m:bL)(H':AH):Prop
 | mk:H'=H3→m (Str.ofString "self")=some (.ref x)→m (Str.ofString "number")=some (.int k)→m (Str.ofString "base")=some b0→m (Str.ofString "leaning")=some (.ref al)→m (Str.ofString "texts")=some (.ref at_)→(∀bb,b0=.int bb→m (Str.ofString "ahead")=some (.s (tx bb)))→(∀y d,m y=some d→cS d)→FgI tx k b0 H3 x al at_ m H'
theorem te(W:Lw c (KK P) sc ns)(H:AH)(x dx hd:Addr)(b n k:Int)(kvs:List (Int×V))(tx:Int→List Nat)(rk:Int→Nat)(ls:List Int)(PA:bc H x dx hd b n kvs)(E:bh kvs tx rk)(hk:aJ kvs k)(LS:gy kvs k ls):
  Fn c 4 (.ref 284) [.ref x,.int k] H (fun d H'=>d=.none∧(∃kvs',bc H' x dx hd b n kvs'∧iR kvs kvs' k (aP (aE kvs k)) ls tx)∧dO H H' dx hd) (fun _ _=>False):=by
 have hs:1000000≤sizeLine:=by decide
 have bf:=E.bf
 have up:∀y b,aJ kvs y→aP (aE kvs y)=.int b→aJ kvs b∧rk b<rk y:=fun y b hy hb=>by
  have:=E.ent y _ (aB hy)
  generalize aE kvs y=d at this hb
  cases this with
  | root=>cases hb
  | lean b' a gone aS h1 h2 h3=>cases hb;exact⟨h1,h2⟩
 have de:∀y∈ls,y≠k:=fun y hy q=>by
  have hm:=(LS.mem y).mp hy
  have:=(up y k hm.1 hm.2).2
  rw[q] at this;exact rV this
 have tW:aP (aE kvs k)=.none∨∃bb,aP (aE kvs k)=.int bb:=by
  have:=E.ent k _ (aB hk)
  generalize aE kvs k=d at this
  cases this with
  | root=>exact .inl rfl
  | lean b' a gone aS h1 h2 h3=>exact .inr ⟨_,rfl⟩
 refine Fn.gen fun QQ eH=>?_
 refine sX W.ok.lim (W.kx 284 _ rfl) rfl rfl (codeRec_of W.kx rfl) rfl (names:=["self","number"]) (cR rfl fun _ _=>rfl) rfl (by decide) (fun n=>eI (.inr ⟨rfl,rfl⟩) (.inr ⟨rfl,rfl⟩)) rfl rfl rfl fun A L bK hE R0 R O=>?_
 have R1:bw 1 A:=R.le (m6)
 refine cv (fw W (R.le (vL)) O.frames (aa rfl) (aa rfl) PA hk ⟨dp rfl,?_⟩)
 have Hv:=up k
 have gk:∀ {f:Fx},G2 c f H (aE kvs k) (.int 0) (aP (aE kvs k)):=fun {f}=>(eF E hk).1
 refine ag (Pe.ev (aj (aj (bA W.kx pc (aa rfl) PA.i (bX _ _ _) bz bY) (aa rfl) (aT PA.d (aB hk))) ae gk) ?_) (.inl rfl)
 clear gk
 generalize aP (aE kvs k)=b0 at tW Hv eH ⊢
 refine cU W.ok (bD R.handled (cj W.ok (cg W) (Pe.ev (bA W.kx pc (aa rfl) PA.i (bX _ _ _) bz bY) (cK W.ok R.handled PA.d (m8 bf) fun mJ oR aX mH pm pw=>⟨mJ,_,rfl,ai.same _ _ _ _,?_⟩)))) rfl rfl (by decide) rfl (by decide) rfl (mI ⟨rfl,rfl,rfl⟩ (mI ⟨rfl,rfl,rfl⟩ qA)) (.inl rfl)
 have S:fR kvs aX:=⟨pm,pw⟩
 have sl:=S.len
 have e1:aC H (H.set mJ ⟨oR,.list (aX.map V.int)⟩):=aC.set (aC.refl _) mH
 have sT:=PA.ext e1
 refine gM (fun i=>V.int (aX.getD i 0)) (fun i=>leansOn k (aP (aE kvs (aX.getD i 0)))) (by rw[List.length_map];exact m7 hs bf sl) ?_ ?_ ?_
 ·intro i d C hE dz
  refine q2 (aI dz) fun y hy Eu=>?_;obtain rfl:=Eu
  have ky:=S.mem.mp (List.mem_of_getElem? hy)
  rw[hW hy]
  exact aH (aj (aj (bA W.kx pc (aa rfl) sT.i (bX _ _ _) bz bY) (aa rfl) (aT sT.d (aB ky))) ae (eF E ky).1) (aa rfl) (E.ent y _ (aB ky)).eqI Iff.rfl
 ·intro i d C hE dz _
  refine q2 (aI dz) fun y hy Et=>?_;obtain rfl:=Et
  rw[hW hy]
  exact aa rfl
 intro al ol hal
 rw[List.length_map,hX aX (fun y=>leansOn k (aP (aE kvs y))) V.int,(lR S E.nd k).uniq LS]
 have lsl:ls.length≤40:=by
  have:=gQ LS.nd (l':=kvs.map (·.1)) fun y hy=>ay.mp ((LS.mem y).mp hy).1
  rw[List.length_map] at this;exact O4 bf this
 have e2:aC H ((H.set mJ ⟨oR,.list (aX.map V.int)⟩).set al ⟨ol,.list (ls.map V.int)⟩):=aC.set e1 hal
 have L2:=ai.same (H.set mJ ⟨oR,.list (aX.map V.int)⟩) al ol (ls.map V.int)
 have Xd:∀a x,((H.set mJ ⟨oR,.list (aX.map V.int)⟩).set al ⟨ol,.list (ls.map V.int)⟩) a=some x→H a=some x∨qh x.k:=fun a x e=>by
  by_cases q:a=al
  ·subst q;rw[b9] at e;cases e
   exact .inr fun d hd=>by refine q2 (List.mem_map.mp hd) fun y _ Es=>?_;obtain rfl:=Es;exact dU
  rw[bj _ _ q] at e
  by_cases q:a=mJ
  ·subst q;rw[b9] at e;cases e
   exact .inr fun d hd=>by refine q2 (List.mem_map.mp hd) fun y _ Er=>?_;obtain rfl:=Er;exact dU
  rw[bj _ _ q] at e
  exact .inl e
 generalize ((H.set mJ ⟨oR,.list (aX.map V.int)⟩).set al ⟨ol,.list (ls.map V.int)⟩)=H2 at e2 L2 Xd ⊢
 clear hal mH sT e1
 have eZ:=PA.ext e2
 refine cU W.ok (bD R.handled (Pe.ev (aa rfl) ⟨al,_,rfl,L2,?_⟩)) rfl rfl (by decide) rfl (by decide) rfl (mI ⟨rfl,rfl,rfl⟩ qA) (.inl rfl)
 refine cL ((ls.map tx).map V.s) (by simp) (by rw[List.length_map];exact fB hs lsl) ?_ ?_
 ·intro i d C hE dz
  refine q2 (aI dz) fun y hy Ep=>?_;obtain rfl:=Ep
  refine⟨_,aQ (aQ hy),?_⟩
  exact dZ W.kx pc R O.frames (aa rfl) eZ.i rfl gf gc (W.kx 211 _ rfl) rfl (aa rfl) (fU W H2 x dx hd b n y kvs tx rk eZ E ((LS.mem y).mp (List.mem_of_getElem? hy)).1)
 intro at_ ot BZ
 have e3:aC H (H2.set at_ ⟨ot,.list ((ls.map tx).map V.s)⟩):=aC.set e2 BZ
 have L3:=L2.fresh (x:=⟨ot,.list ((ls.map tx).map V.s)⟩) BZ
 have T3:=ai.same H2 at_ ot ((ls.map tx).map V.s)
 have sf3:∀a x,(H2.set at_ ⟨ot,.list ((ls.map tx).map V.s)⟩) a=some x→H a=some x∨qh x.k:=fun a x e=>by
  by_cases q:a=at_
  ·subst q;rw[b9] at e;cases e
   exact .inr fun d hd=>by refine q2 (List.mem_map.mp hd) fun y _ Eo=>?_;obtain rfl:=Eo;exact dT
  rw[bj _ _ q] at e
  exact Xd a x e
 generalize H2.set at_ ⟨ot,.list ((ls.map tx).map V.s)⟩=H3 at e3 L3 T3 sf3 ⊢
 clear BZ eZ e2 L2 Xd
 have mK:=PA.ext e3
 refine ag (Pe.ev j5 ?_) (.inl rfl)
 refine xj (FgI tx k b0 H3 x al at_) (bq (aa rfl)) (fun g=>?_) (fun g=>?_) ?_
 ·rcases tW with h | ⟨bb,rfl⟩
  ·exact(g h).elim
  refine ag (dZ W.kx pc R O.frames (aa rfl) mK.i rfl gf gc (W.kx 211 _ rfl) rfl (aa rfl) (Fn.mono (fU W H3 x dx hd b n bb kvs tx rk mK E (Hv bb hk rfl).1) (fun d H4 z=>?_) fun _ _ z=>z.elim)) (.inl rfl)
  refine xX (d0:=d) (d1:=H4) z ?_;clear z
  exact aO ⟨rfl,rfl,rfl,rfl,rfl,rfl,rfl,fun bb' q=>by cases q;rfl,cG (cG (cG (cG (cG (mW eW dU) dU) eW) eW) dT) dT⟩
 ·rcases tW with rfl | ⟨bb,rfl⟩
  ·exact aO ⟨rfl,rfl,rfl,rfl,rfl,rfl,rfl,fun bb' q=>(nomatch q),cG (cG (cG (cG (mW eW dU) eW) eW) eW) dT⟩
  ·exact(g fun q=>nomatch q).elim
 rintro m' H' Xo;obtain⟨rfl,ms,mn,mb,ml,mt,ma,msf⟩:=Xo
 refine zf (bA W.kx pc (aa ms) mK.i (bX _ _ _) bz bY) (aa mn) mK.d (aB hk) (fB hs bf) fun o4=>?_
 have HL:al≠hd:=L3.ne_dict mK.d
 have HK:at_≠hd:=T3.ne_dict mK.d
 refine q3 (mK.i.ne_dict mK.d) fun nx ndx=>?_
 have WJ:er b0 ls 0=b0:=by
  rcases tW with rfl | ⟨bb,rfl⟩ <;> rfl
 refine rp O W.ok R.handled R0 (bF W.ok (GQ W)) (aa ml) (aa mt) (L3.ne HL) (T3.ne HK) (by rw[List.length_map]) (FgZ kvs tx k b0 ls H' hd x)
  ⟨o4,_,rfl,⟨rfl,fun _ _=>rfl,fun j y hj=>by exact(vW hj).elim,fun p hp=>E.safe p (List.mem_filter.mp hp).1⟩,ms,by rw[WJ];exact mb,fun bb q=>ma bb (by rw[← WJ];exact q),msf⟩ ?_ ?_ ?_ (.inl rfl) (.inl rfl)
 ·rintro i m2 H2 Xn;obtain⟨o',bP,rfl,F,_,_,_,sf⟩:=Xn
  refine⟨fun a x e=>?_,sf,?_,?_⟩
  ·by_cases q:a=hd
   ·subst q;rw[b9] at e;cases e;exact .inr F.safe
   ·rw[bj _ _ q] at e;exact sf3 a x e
  ·rw[bj _ _ HL,bj _ _ HL]
  ·rw[bj _ _ HK,bj _ _ HK]
 ·rintro i nn t m2 H2 lX kp hi ht Xm;obtain⟨o',bP,rfl,F,ms,mb,ma,sf⟩:=Xm
  refine q2 (aI ht) fun y hy En=>?_;obtain rfl:=En
  rw[hi] at hy;cases hy
  have hkn:=((LS.mem nn).mp (List.mem_of_getElem? hi)).1
  have sS:bc (H'.set hd ⟨o',.dict bP⟩) x dx hd b n bP:=⟨mK.i.ne nx ndx,ax.same _ _ _ _⟩
  have kl:bP.length≤40:=by
   have:=congrArg List.length F.keys
   simp only[List.length_map] at this
   have:=qb (kvs:=kvs) (k:=k);exact O3 bf (by assumption) this
  refine aL (dM (aa mb)) (fun g=>?_) (fun g=>?_)
  ·refine bl (cP (az (Pe.ev bS (az (Pe.ev (aa rfl) (bk ⟨by show 2≤sizeLine;exact cH hs,?_⟩))))))
   refine Pe.ev (bA W.kx pc (aa ms) sS.i (bX _ _ _) bz bY) (Pe.ev (aa rfl) ⟨hd,bP,nn,rfl,rfl,sS.d,by exact fB hs kl,fun o5=>?_⟩)
   refine ag (Pe.ev (aa rfl) ?_) (.inl rfl)
   refine ag (Pe.ev (aa rfl) ?_) (.inl rfl)
   rw[AH.set_set]
   exact aO ⟨rfl,o5,_,rfl,F.put LS de hi (.inl ⟨g,rfl⟩) mV,ms,by rw[jr g hi];rfl,fun bb q=>by rw[jr g hi] at q;cases q;rfl,cG (cG (cG (cG sf dU) dT) dU) dT⟩
  ·refine q4 ((p5 b0 ls i).resolve_left g) fun bb jq=>?_
   have kb:aJ kvs bb:=by
    unfold er at jq
    split at jq
    ·cases jq;exact(Hv _ hk rfl).1
    ·split at jq
     ·cases jq
     ·cases jq
      have h0:0<ls.length:=by have:=(List.getElem?_eq_some_iff.mp hi).1;exact vX this
      exact((LS.mem _).mp (by rw[List.getD_eq_getElem?_getD,List.getElem?_eq_getElem h0];exact List.getElem_mem h0)).1
   have s1:=E.short bb kb
   have s2:=E.short nn hkn
   rw[jq] at mb
   refine bl (cP (az (Pe.ev (aa mb) (az (cy W.ok (W.glob rfl) (W.kx 120 _ rfl) rfl R1 O.frames (aa (ma bb jq)) (aa rfl) (Fn.mono (fq W (H'.set hd ⟨o',.dict bP⟩) (tx bb) (tx nn) (eX s1) (eX s2)) (fun d H5 z=>?_) fun _ _ z=>z.elim))))))
   refine Ge (d0:=H5) (d1:=d) z fun a e C=>?_;clear z
   refine bk ⟨by show 2≤sizeLine;exact cH hs,?_⟩
   refine Pe.ev (bA W.kx pc (aa ms) sS.i (bX _ _ _) bz bY) (Pe.ev (aa rfl) ⟨hd,bP,nn,rfl,rfl,sS.d,by exact fB hs kl,fun o5=>?_⟩)
   rw[AH.set_set]
   exact aO ⟨rfl,o5,_,rfl,F.put LS de hi (.inr ⟨bb,a,e,jq,C,rfl⟩) mX,ms,by rw[jY jq];exact mb,fun b2 q=>by rw[jY jq] at q;cases q;exact ma bb jq,cG (cG sf dU) dT⟩
 ·rintro m2 H2 Xl;obtain⟨o',bP,rfl,F,_⟩:=Xl
  refine aO (eH _ _ ⟨rfl,⟨bP,⟨mK.i.ne nx ndx,ax.same _ _ _ _⟩,?_⟩,fun a ha _ z=>(bj _ _ z).trans (e3 a ha)⟩)
  have kl:bP.length=(jI kvs k).length:=by have:=congrArg List.length F.keys;simpa using this
  refine⟨by rw[F.keys];exact yV E.nd,by rw[kl];exact qb,fun y=>?_,fun y hy hl=>?_,fun i y d hi hd=>?_⟩
  ·rw[ay,F.keys,← ay]
   unfold aJ
   rw[j1]
   by_cases q:y=k
   ·rw[if_pos q];exact⟨fun Ck=>q4 Ck fun _ z=>(nomatch z),fun z=>(z.2 q).elim⟩
   ·rw[if_neg q];exact⟨fun z=>⟨z,q⟩,fun z=>z.1⟩
  ·rw[F.off y (fun z=>hl (List.mem_of_mem_take z)),j1,if_neg hy]
  ·refine q2 (F.on i y (List.getElem?_eq_some_iff.mp hi).1 hi) fun d' e' fe=>?_
   rw[hd] at e';cases e';exact fe
structure Hm(kvs found:List (Int×V))(aX:List Int)(k:Int)(b0:V)(ls:List Int)(tx:Int→List Nat)(i:Nat):Prop where
 keys:found.map (·.1)=(aX.take i).filter fun y=>decide (y≠k)
 off:∀y,y∈aX.take i→y≠k→y∉ls→aF found y=aF kvs y
 on:∀(j:Nat) y d,ls[j]?=some y→aF found y=some d→qo b0 ls tx j y d
theorem Hm.skip{kvs found:List (Int×V)}{aX:List Int}{k:Int}{b0:V}{ls:List Int}{tx:Int→List Nat}{i:Nat}(F:Hm kvs found aX k b0 ls tx i)(hi:aX[i]?=some k):Hm kvs found aX k b0 ls tx (i+1):=by
 have e:aX.take (i+1)=aX.take i++[k]:=by rw[List.take_add_one,hi];rfl
 refine⟨by rw[e,List.filter_append,F.keys];simp,fun y hy h1 h2=>F.off y ?_ h1 h2,F.on⟩
 rw[e] at hy
 rcases List.mem_append.mp hy with h | h
 ·exact h
 ·rw[List.mem_singleton] at h;exact(h1 h).elim
theorem Hm.put{kvs found:List (Int×V)}{aX:List Int}{k:Int}{b0:V}{ls:List Int}{tx:Int→List Nat}{i:Nat}(F:Hm kvs found aX k b0 ls tx i)(nd:aX.Nodup)(nl:ls.Nodup){y:Int}{d:V}(hi:aX[i]?=some y)(hy:y≠k)(hd:(y∉ls∧aF kvs y=some d)∨∃j:Nat,ls[j]?=some y∧qo b0 ls tx j y d):Hm kvs (bR found y d) aX k b0 ls tx (i+1):=by
 have e:aX.take (i+1)=aX.take i++[y]:=by rw[List.take_add_one,hi];rfl
 have nk:y∉found.map (·.1):=by rw[F.keys];exact fun q=>iV nd hi (List.mem_filter.mp q).1
 refine⟨?_,fun z hz h1 h2=>?_,fun j z d' hj hz=>?_⟩
 ·rw[cc nk,List.map_append,F.keys,e,List.filter_append];simp[hy]
 ·rw[bZ]
  rw[e] at hz
  split
  ·rename_i q;subst q
   rcases hd with ⟨_,h⟩ | ⟨j,h,_⟩
   ·exact h.symm
   ·exact(h2 (List.mem_of_getElem? h)).elim
  ·rename_i q
   rcases List.mem_append.mp hz with h | h
   ·exact F.off z h h1 h2
   ·rw[List.mem_singleton] at h;exact(q h).elim
 ·rw[bZ] at hz
  split at hz
  ·rename_i q;subst q;cases hz
   rcases hd with ⟨h,_⟩ | ⟨j',h,fe⟩
   ·exact(h (List.mem_of_getElem? hj)).elim
   ·have:j=j':=by
     refine q4 (List.getElem?_eq_some_iff.mp hj) fun h1 q1=>?_
     refine q4 (List.getElem?_eq_some_iff.mp h) fun h2 q2=>?_
     exact(List.getElem_inj (h₀:=h1) (h₁:=h2) nl).mp (q1.trans q2.symm)
    subst this;exact fe
  ·exact F.on j z d' hj hz
inductive FtI(H:AH)(af ak ta:Addr)(kvs:List (Int×V))(aX:List Int)(k:Int)(b0:V)(ls:List Int)(tx:Int→List Nat)(i:Nat)(m':bL)(H':AH):Prop  | mk (e:aC H H') (found:List (Int×V)):ax H' af found→Hm kvs found aX k b0 ls tx i→m' (Str.ofString "_law_kept")=some (.ref ak)→m' (Str.ofString "_law_texts")=some (.ref ta)→m' (Str.ofString "_law_number")=some (.int k)→m' (Str.ofString "_law_found")=some (.ref af)→m' (Str.ofString "_law_other")=some (er b0 ls ((aX.take i).filter fun y=>leansOn k (aP (aE kvs y))).length)→FtI H af ak ta kvs aX k b0 ls tx i m' H'
theorem nQ(W:Lw c (KK P) sc ns)(H:AH)(ak ta:Addr)(k:Int)(kvs ts:List (Int×V))(tx:Int→List Nat)(rk:Int→Nat)(ls:List Int)(D:ax H ak kvs)(T:ax H ta ts)(tt:∀y,aJ kvs y→aF ts y=some (.s (tx y)))(E:bh kvs tx rk)(hk:aJ kvs k)(LS:gy kvs k ls):
  Fn c 2 (.ref 447) [.ref ak,.ref ta,.int k] H (fun d H'=>∃a kvs',d=.ref a∧aC H H'∧H a=none∧ax H' a kvs'∧iR kvs kvs' k (aP (aE kvs k)) ls tx) (fun _ _=>False):=by
 have hs:1000000≤sizeLine:=by decide
 have bf:=E.bf
 have up:∀y b,aJ kvs y→aP (aE kvs y)=.int b→aJ kvs b∧rk b<rk y:=fun y b hy hb=>by
  have:=E.ent y _ (aB hy)
  generalize aE kvs y=d at this hb
  cases this with
  | root=>cases hb
  | lean b' a gone aS h1 h2 h3=>cases hb;exact⟨h1,h2⟩
 have tW:aP (aE kvs k)=.none∨∃bb,aP (aE kvs k)=.int bb:=by
  have:=E.ent k _ (aB hk)
  generalize aE kvs k=d at this
  cases this with
  | root=>exact .inl rfl
  | lean b' a gone aS h1 h2 h3=>exact .inr ⟨_,rfl⟩
 have pk0:leansOn k (aP (aE kvs k))=false:=by
  cases q:leansOn k (aP (aE kvs k)) with
  | false=>rfl
  | true=>have:=(up k k hk (fY.mp q)).2;exact(As this).elim
 refine Fn.gen fun QQ eH=>?_;refine aV W.ok.lim (W.kx 447 _ rfl) rfl rfl (codeRec_of W.kx rfl) rfl (names:=["_law_kept","_law_texts","_law_number"]) (jf rfl fun _ _ _=>rfl) rfl (by decide) (fun n=>lM (.inl rfl) (.inl rfl) (.inl rfl)) rfl rfl rfl fun A L bK hE R O=>?_
 have Hv:=up k
 have gk:∀ {f:Fx},G2 c f H (aE kvs k) (.int 0) (aP (aE kvs k)):=fun {f}=>(eF E hk).1
 refine ag (Pe.ev (aj (aj (aa rfl) (aa rfl) (aT D (aB hk))) ae gk) ?_) (.inl rfl)
 clear gk
 generalize aP (aE kvs k)=b0 at tW Hv pk0 eH ⊢
 refine ag (fO W.ok fun af oa ha=>?_) (.inl rfl)
 have e1:aC H (H.set af ⟨oa,.dict []⟩):=aC.set (aC.refl _) ha
 have D1:=e1.dict D
 have WJ:er b0 ls 0=b0:=by
  rcases tW with rfl | ⟨bb,rfl⟩ <;> rfl
 have pk1:∀y∈ls,y≠k:=fun y hy q=>by
  have hm:=(LS.mem y).mp hy
  have:=(up y k hm.1 hm.2).2
  rw[q] at this;exact rV this
 refine ct O (bD R.handled (cj W.ok (cg W) (Pe.ev (aa rfl) (cK W.ok R.handled D1 (m8 bf) fun mJ oR aX mH pm pw=>⟨mJ,_,rfl,ai.same _ _ _ _,FtI H af ak ta kvs aX k b0 ls tx,⟨aC.set e1 mH,[],(ax.same _ _ _ _).fresh mH,⟨rfl,fun y hy=>(nomatch hy),fun j y d _ h=>(nomatch h)⟩,rfl,rfl,rfl,rfl,by rw[List.take_zero,List.filter_nil,List.length_nil,WJ];rfl⟩,?_,?_⟩)))) (.inl rfl)
 ·rintro i d m' H' kp dz Xk tr;obtain⟨ex,found,df,F,mk,mt,mn,mf,mo⟩:=Xk
  refine q2 (aI dz) fun y hy Em=>?_;obtain rfl:=Em
  have S:fR kvs aX:=⟨pm,pw⟩
  have eqL:ls=aX.filter fun y=>leansOn k (aP (aE kvs y)):=LS.uniq (lR S E.nd k)
  have ky:=S.mem.mp (List.mem_of_getElem? hy)
  have D2:=ex.dict D
  have T2:=ex.dict T
  have afs:mJ≠af:=((ax.same H af oa []).ne_new mH).symm
  have snd:=S.nd E.nd
  have fl:found.length≤40:=by
   have:=congrArg List.length F.keys
   rw[List.length_map] at this
   have h1:=List.length_filter_le (fun y=>decide (y≠k)) (aX.take i)
   have h2:=List.length_take_le i aX
   have:=S.len
   have h3:(aX.take i).length≤aX.length:=by rw[List.length_take];exact RJ
   exact OV bf (by assumption) h1 this h3
  have tk1:aX.take (i+1)=aX.take i++[y]:=by rw[List.take_add_one,hy];rfl
  have wU:((aX.take (i+1)).filter fun y=>leansOn k (aP (aE kvs y))).length=((aX.take i).filter fun y=>leansOn k (aP (aE kvs y))).length+if leansOn k (aP (aE kvs y)) then 1 else 0:=by
   rw[tk1,List.filter_append,List.length_append]
   congr 1
   by_cases q:leansOn k (aP (aE kvs y))=true
   ·rw[List.filter_cons_of_pos (p:=fun y=>leansOn k (aP (aE kvs y))) q,if_pos q];rfl
   ·rw[List.filter_cons_of_neg (p:=fun y=>leansOn k (aP (aE kvs y))) q,if_neg q];rfl
  have Vk:leansOn k (aP (aE kvs y))=true→ls[((aX.take i).filter fun y=>leansOn k (aP (aE kvs y))).length]?=some y:=fun q=>by rw[eqL];exact ud hy q
  have W3:∀ {o':Obj} {dd:V},∀z∈[mJ],(H'.set af ⟨o',.dict (bR found y dd)⟩) z=((H.set af ⟨oa,.dict []⟩).set mJ ⟨oR,.list (aX.map V.int)⟩) z:=fun {o' dd} z hz=>by
   rw[List.mem_singleton] at hz;subst hz
   rw[bj _ _ afs];exact tr _ (.head _)
  generalize hcn:((aX.take i).filter fun y=>leansOn k (aP (aE kvs y))).length=cn at mo wU Vk
  refine aL (fj (bI (aH (P:=y≠k) (aa rfl) (aa mn) qv (by simp)) fun _=>bI (aH (P:=leansOn k (aP (aE kvs y))=false) (aj (aj (aa mk) (aa rfl) (aT D2 (aB ky))) ae (eF E ky).1) (aa mn) (E.ent y _ (aB ky)).neI (by simp)) fun _=>d7)) (fun g=>?_) (fun g=>?_)
  ·refine iz g fun g1 g2 _=>?_;clear g
   refine bl (Pe.ev (aj (aa mk) (aa rfl) (aT D2 (aB ky))) (Pe.ev (aa mf) (Pe.ev (aa rfl) ⟨af,found,y,rfl,rfl,df,by exact fB hs fl,fun o'=>?_⟩)))
   have hnl:y∉ls:=fun q=>by
    have:=fY.mpr ((LS.mem y).mp q).2
    rw[g2] at this;cases this
   refine aO ⟨⟨aC.upd ex ha,_,ax.same _ _ _ _,F.put snd LS.nd hy g1 (.inl ⟨hnl,aB ky⟩),mk,mt,mn,mf,?_⟩,W3⟩
   rw[wU,g2];exact mo
  ·have BX:y=k∨(y≠k∧leansOn k (aP (aE kvs y))=true):=by
    by_cases q:y=k
    ·exact .inl q
    ·refine .inr ⟨q,?_⟩
     cases q2:leansOn k (aP (aE kvs y)) with
     | true=>rfl
     | false=>exact(g ⟨q,q2,trivial⟩).elim
   refine aL (fj (bI (aH (P:=y≠k) (aa rfl) (aa mn) qv (by simp)) fun _=>bI (dM (aa mo)) fun _=>d7)) (fun g2=>?_) (fun g2=>?_)
   ·refine iz g2 fun h1 h2 _=>?_;clear g2
    have hl:=(BX.resolve_left h1).2
    refine bl (cP (az (Pe.ev bS (az (Pe.ev (aj (aa mt) (aa rfl) (aT T2 (tt y ky))) (bk ⟨by show 2≤sizeLine;exact cH hs,?_⟩))))))
    refine Pe.ev (aa mf) (Pe.ev (aa rfl) ⟨af,found,y,rfl,rfl,df,by exact fB hs fl,fun o'=>?_⟩)
    refine ag (Pe.ev (aa rfl) ?_) (.inl rfl)
    refine aO ⟨⟨aC.upd ex ha,_,ax.same _ _ _ _,F.put snd LS.nd hy h1 (.inr ⟨cn,Vk hl,.inl ⟨h2,rfl⟩⟩),mk,mt,mn,mf,?_⟩,W3⟩
    rw[wU,if_pos hl,jr h2 (Vk hl)];rfl
   ·refine aL (aH (P:=y≠k) (aa rfl) (aa mn) qv (by simp)) (fun h1=>?_) (fun h1=>?_)
    ·have hl:=(BX.resolve_left h1).2
     refine q4 ((p5 b0 ls cn).resolve_left fun q=>g2 ⟨h1,q,trivial⟩) fun bb jq=>?_
     have kb:aJ kvs bb:=by
      unfold er at jq
      split at jq
      ·cases jq;exact(Hv _ hk rfl).1
      ·split at jq
       ·cases jq
       ·cases jq
        have h0:0<ls.length:=by have:=(List.getElem?_eq_some_iff.mp (Vk hl)).1;exact vX this
        exact((LS.mem _).mp (by rw[List.getD_eq_getElem?_getD,List.getElem?_eq_getElem h0];exact List.getElem_mem h0)).1
     have s1:=E.short bb kb
     have s2:=E.short y ky
     rw[jq] at mo
     refine bl (cP (az (Pe.ev (aa mo) (az (cy W.ok (W.glob rfl) (W.kx 359 _ rfl) rfl R O.frames (aj (aa mt) (aa mo) (aT T2 (tt bb kb))) (aj (aa mt) (aa rfl) (aT T2 (tt y ky))) (Fn.mono (cQ W H' (tx bb) (tx y) (eX s1) (eX s2)) (fun d H5 z=>?_) fun _ _ z=>z.elim))))))
     refine Ge (d0:=H5) (d1:=d) z fun a e C=>?_;clear z
     refine bk ⟨by show 2≤sizeLine;exact cH hs,?_⟩
     refine Pe.ev (aa mf) (Pe.ev (aa rfl) ⟨af,found,y,rfl,rfl,df,by exact fB hs fl,fun o'=>?_⟩)
     refine aO ⟨⟨aC.upd ex ha,_,ax.same _ _ _ _,F.put snd LS.nd hy h1 (.inr ⟨cn,Vk hl,.inr ⟨bb,a,e,jq,C,rfl⟩⟩),mk,mt,mn,mf,?_⟩,W3⟩
     rw[wU,if_pos hl,jY jq];exact mo
    ·have h1:y=k:=Classical.not_not.mp h1
     subst h1
     refine aO ⟨⟨ex,found,df,F.skip hy,mk,mt,mn,mf,?_⟩,tr⟩
     have z:leansOn y (aP (aE kvs y))=false:=by
      cases q:leansOn y (aP (aE kvs y)) with
      | false=>rfl
      | true=>have:=(up y y ky (fY.mp q)).2;exact(As this).elim
     rw[wU,z];exact mo
 ·rintro m' H' Xj _;obtain⟨ex,found,df,F,mk,mt,mn,mf,mo⟩:=Xj
  have S:fR kvs aX:=⟨pm,pw⟩
  refine aK (Pe.ev (aa mf) (eH _ _ ⟨af,found,rfl,ex,ha,df,?_⟩))
  have tl:aX.take (aX.map V.int).length=aX:=by rw[List.length_map,List.take_length]
  have ks:=F.keys
  have off:=F.off
  rw[tl] at ks off
  refine⟨by rw[ks];exact(S.nd E.nd).sublist List.filter_sublist,?_,fun y=>?_,fun y h1 h2=>?_,F.on⟩
  ·have:=congrArg List.length ks
   rw[List.length_map] at this
   have h1:=List.length_filter_le (fun y=>decide (y≠k)) aX
   have:=S.len
   exact OU (by assumption) h1 this
  ·rw[ay,ks,List.mem_filter,S.mem];simp
  ·by_cases q:aJ kvs y
   ·exact off y (S.mem.mpr q) h1 h2
   ·have n1:aF kvs y=none:=eQ.mpr fun z=>q (ay.mpr z)
    rw[n1]
    exact eQ.mpr (by rw[ks];exact fun z=>q (S.mem.mp (List.mem_filter.mp z).1))
theorem Jn.put{H H':AH}{x dx hd ak ta:Addr}{b n:Int}{bG kv ts:List (Int×V)}{tx:Int→List Nat}{rk fk:Int→Nat}{u:Nat}{d:V}{l:List Nat}(J:Jn H x dx hd ak ta b n bG kv ts tx rk (u+1))(hl:l.length+9*u≤9000)(h0:0≤n)(E':bh (kv++[(n,d)]) (fun y=>if y=n then l else tx y) fk)
  (yb:bc H' x dx hd b (n+1) (bG++[(n,d)])) (d':ax H' ak (kv++[(n,d)])) (t':ax H' ta (bR ts n (.s l))):Jn H' x dx hd ak ta b (n+1) (bG++[(n,d)]) (kv++[(n,d)]) (bR ts n (.s l)) (fun y=>if y=n then l else tx y) fk u:=by
 have hn:¬aJ kv n:=fun h=>by have:=J.pos n h;exact Ar this
 have HJ:¬aJ bG n:=fun h=>hn (J.dj.key.mp h)
 have jA:=J.dj.put (d:=d) hn
 have bf:=J.bf
 have tf:=J.tf
 have pl:bG.length=kv.length:=by
  refine q4 (fJ bG) fun s S=>?_
  rw[← S.len,(J.dj.aX J.EP.nd J.E.nd S).len]
 have old:∀k,aJ (kv++[(n,d)]) k→k=n∨aJ kv k:=fun k hk=>by
  rw[ay,List.map_append] at hk
  rcases List.mem_append.mp hk with q | q
  ·exact .inr (ay.mpr q)
  ·simp at q;exact .inl q
 refine { pa:=yb,dj:=jA,d:=d',t:=t',E:=E',EP:=E'.dj (dS.symm jA) ?_ (by rw[List.length_append,List.length_singleton];exact O2 bf pl),tt:=fun k hk=>?_,tf:=by have:=qa (kvs:=ts) (k:=n) (d:=.s l);exact Aq tf this,sh:=fun k hk=>?_,bf:=by rw[List.length_append,List.length_singleton];exact O0 bf,pos:=fun k hk=>?_,b0:=J.b0,kh:=J.kh,th:=J.th,kt:=J.kt }
 ·rw[List.map_append,List.nodup_append]
  refine⟨J.EP.nd,by simp,fun a ha b hb=>?_⟩
  simp at hb;subst hb
  exact fun e=>HJ (ay.mpr (e▸ha))
 ·rw[bZ]
  by_cases e:k=n
  ·rw[if_pos e,if_pos e]
  ·rw[if_neg e,if_neg e];exact J.tt k ((old k hk).resolve_left e)
 ·by_cases e:k=n
  ·rw[if_pos e];exact hl
  ·rw[if_neg e];have:=J.sh k ((old k hk).resolve_left e);exact Ap this
 ·rcases old k hk with e | e
  ·exact Ao h0 e
  ·have:=J.pos k e;exact An this
theorem Jn.lean{H H':AH}{x dx hd ak ta:Addr}{b n k o:Int}{bG kv ts:List (Int×V)}{tx:Int→List Nat}{rk:Int→Nat}{u:Nat}(J:Jn H x dx hd ak ta b n bG kv ts tx rk u){a:Int}{gone aS:List Nat}(hk:aJ kv k)(ho:aJ kv o){xs:List Int}(hx:av (bases kv) o xs)(oU:k∉xs)(st:fT (tx o) (tx k) a gone aS)
  (yb:bc H' x dx hd b n (bR bG k (.tup [.int o,gE a gone aS]))) (d':ax H' ak (bR kv k (.tup [.int o,gE a gone aS]))) (t':ax H' ta ts):∃fk,Jn H' x dx hd ak ta b n (bR bG k (.tup [.int o,gE a gone aS])) (bR kv k (.tup [.int o,gE a gone aS])) ts tx fk u:=by
 refine q4 (J.E.lean hk ho hx oU st) fun fk E'=>?_
 refine q4 (J.EP.lean (J.dj.key.mpr hk) (J.dj.key.mpr ho) ((dS.symm J.dj).bases.chain hx) oU st) fun tu VC=>?_
 have jA:=J.dj.bR k (.tup [.int o,gE a gone aS])
 have key:∀x,aJ (bR kv k (.tup [.int o,gE a gone aS])) x↔aJ kv x:=fun x=>by rw[ay,ef hk,ay]
 have len:(bR kv k (.tup [.int o,gE a gone aS])).length=kv.length:=by have:=congrArg List.length (ef (d:=.tup [.int o,gE a gone aS]) hk);simpa using this
 exact⟨fk,{ J with pa:=yb,dj:=jA,d:=d',t:=t',E:=E',EP:=E'.dj (dS.symm jA) VC.nd VC.bf,tt:=fun y hy=>J.tt y ((key y).mp hy),sh:=fun y hy=>J.sh y ((key y).mp hy),bf:=by rw[len];exact J.bf,pos:=fun y hy=>J.pos y ((key y).mp hy) }⟩
theorem Jn.Gb{H H':AH}{x dx hd ak ta:Addr}{b n:Int}{bG kv ts:List (Int×V)}{tx:Int→List Nat}{rk:Int→Nat}{u:Nat}(J:Jn H x dx hd ak ta b n bG kv ts tx rk u){kG:Addr}(e:aC H H')(h:H kG=none)(d':ax H' kG kv):Jn H' x dx hd kG ta b n bG kv ts tx rk u:=
 { J.ext e with d:=d',kh:=fun q=>J.alive.2.1 (by rw[← q];exact h),kt:=fun q=>J.alive.2.2.2 (by rw[← q];exact h) }
theorem Jn.turn{H H':AH}{x dx hd ak kG ta:Addr}{b n k:Int}{bG kv dP bP ts:List (Int×V)}{tx:Int→List Nat}{rk:Int→Nat}{u:Nat}(J:Jn H x dx hd ak ta b n bG kv ts tx rk u){xs:List Int}(hx:av (bases kv) k xs)(T:c7 kv bP xs (tx k))(T':c7 bG dP xs (tx k))
  (yb:bc H' x dx hd b n dP) (d':ax H' kG bP) (t':ax H' ta ts) (kh:kG≠hd) (kt:kG≠ta):∃fk,Jn H' x dx hd kG ta b n dP bP ts tx fk u:=by
 refine q4 (J.E.turn hx T) fun fk E'=>?_
 have jA:dS dP bP:=T'.dj T J.dj
 have key:∀x,aJ bP x↔aJ kv x:=fun x=>by rw[ay,T.keys,ay]
 have len:bP.length=kv.length:=by have:=congrArg List.length T.keys;simpa using this
 have ZF:dP.length=bG.length:=by have:=congrArg List.length T'.keys;simpa using this
 exact⟨fk,{ J with pa:=yb,dj:=jA,d:=d',t:=t',E:=E',EP:=E'.dj (dS.symm jA) (by rw[T'.keys];exact J.EP.nd) (by rw[ZF];exact J.EP.bf),tt:=fun y hy=>J.tt y ((key y).mp hy),sh:=fun y hy=>J.sh y ((key y).mp hy),bf:=by rw[len];exact J.bf,pos:=fun y hy=>J.pos y ((key y).mp hy),kh:=kh,kt:=kt }⟩
theorem Jn.forget{H H':AH}{x dx hd ak kG ta:Addr}{b n k:Int}{bG kv dP bP ts:List (Int×V)}{tx:Int→List Nat}{rk:Int→Nat}{u:Nat}(J:Jn H x dx hd ak ta b n bG kv ts tx rk u){ls:List Int}(hk:aJ kv k)(L:gy kv k ls)(F:iR kv bP k (aP (aE kv k)) ls tx)(F':iR bG dP k (aP (aE bG k)) ls tx)
  (yb:bc H' x dx hd b n dP) (d':ax H' kG bP) (t':ax H' ta ts) (kh:kG≠hd) (kt:kG≠ta):∃fk,Jn H' x dx hd kG ta b n dP bP ts tx fk u:=by
 refine q4 (J.E.forget hk L F) fun fk E'=>?_
 rw[J.dj.aE] at F'
 have jA:dS dP bP:=F'.dj F J.dj
 have bf:=J.bf
 have l1:=F.len
 have l2:=F'.len
 have key:∀y,aJ bP y→aJ kv y:=fun y hy=>((F.key y).mp hy).1
 exact⟨fk,{ J with pa:=yb,dj:=jA,d:=d',t:=t',E:=E',EP:=E'.dj (dS.symm jA) F'.nd (Nat.le_trans l2 J.EP.bf),tt:=fun y hy=>J.tt y (key y hy),sh:=fun y hy=>J.sh y (key y hy),bf:=by exact O1 bf l1,pos:=fun y hy=>J.pos y (key y hy),kh:=kh,kt:=kt }⟩
theorem tg(W:Lw c (KK P) sc ns)(H:AH)(cell:Int)(a:Addr)(l:List Int)(la:ai H a (l.map V.int))(bf:l.length≤100):
  Fn c 1 (.ref 352) [.int cell,.ref a] H (fun d H'=>H'=H∧(d=.none∨∃o,d=.int o∧o∈l)) (fun _ _=>False):=by
 have hs:1000000≤sizeLine:=by decide
 refine aV W.ok.lim (W.kx 352 _ rfl) rfl rfl (codeRec_of W.kx rfl) rfl (names:=["_law_cell","_law_numbers"]) (cR rfl fun _ _=>rfl) rfl (by decide) (fun n=>eI (.inl rfl) (.inl rfl)) rfl rfl rfl fun A L bK hE R O=>?_
 have hu:A.units+100<cLine:=by have:=R.units;exact AA this
 have ln:(l.map V.int).length=l.length:=List.length_map _
 refine aL (fN (bg (P:=l=[]) (Tp.of_ext (eS (Pe.ev (aa rfl) (cw W.ok (bk ⟨Nat.zero_le _,fun a0 o0 h0=>(ru (l':=[]) (la.fresh h0) (ai.same _ _ _ _) (by show A.units+_<_;exact pj hu)).op ⟨_,rfl,aC.set (aC.refl _) h0,decide_eq_true_iff⟩⟩))))) fun _=>bg (aH (aw (aa rfl) ae (bV (by decide))) ae fg beq_iff_eq) fun _=>dm)) (fun _=>?_) (fun g=>?_)
 ·exact aK (Pe.ev bS ⟨rfl,.inl rfl⟩)
 have de:l≠[]:=fun q=>g (.inl q)
 have h0:0<l.length:=List.length_pos_iff.mpr de
 have at_:∀ {j:Nat} {i:Int},seqIndex? i l.length=some j→j<l.length→-9223372036854775808≤i∧i<9223372036854775808→∃o,o∈l∧∀ {f:Fx},G2 c f H (.ref a) (.int i) (.int o):=fun {j i} h1 h2 h3=>⟨l[j],List.getElem_mem h2,fun {f}=>bN la (by rw[ln];exact h1) (aQ (List.getElem?_eq_getElem h2)) h3⟩
 refine aL (aH (aw (aa rfl) ae (bV (by decide))) ae fg beq_iff_eq) (fun _=>?_) (fun _=>?_)
 ·obtain⟨o,ho,go⟩:=at_ (i:=0) (bo (by decide) (lK h0)) (by simpa using h0) (by decide)
  exact aK (Pe.ev (aj (aa rfl) ae go) ⟨rfl,.inr ⟨o,rfl,ho⟩⟩)
 refine aL (aH (aw (aa rfl) ae (bV (by decide))) ae oO decide_eq_true_iff) (fun _=>?_) (fun _=>?_)
 ·obtain⟨o,ho,go⟩:=at_ (i:=-1) (cC (by decide) (OS h0)) (OR h0) (by decide)
  exact aK (Pe.ev (aj (aa rfl) (dE ae) go) ⟨rfl,.inr ⟨o,rfl,ho⟩⟩)
 have i0:0≤cell / 7 % (l.length:Int):=Int.emod_nonneg _ (OQ h0)
 have i1:cell / 7 % (l.length:Int)<l.length:=Int.emod_lt_of_pos _ (lK h0)
 obtain⟨o,ho,go⟩:=at_ (i:=cell / 7 % (l.length:Int)) (bo i0 i1) (OP h0 i1) (OO bf i0 i1)
 refine aK (Pe.ev (aj (aa rfl) (aw (aw (aa rfl) ae (dG (by decide) (by decide))) (ck W.ok (bu W) (aa rfl) (cT la (ON bf hs ln))) (bV (vF ln h0))) ?_) ⟨rfl,.inr ⟨o,rfl,ho⟩⟩)
 rw[ln];exact go
theorem js{kvs:List (Int×V)}{pt:Int→List Int}(PT:bO kvs pt){k:Int}(hk:aJ kvs k):∃M,w6 kvs pt k M:=by
 classical
 obtain⟨M,h1,h2⟩:=eP (((kvs.map (·.1)).filter fun v=>decide (bJ pt k v)).map fun v=>(ds pt k v:Int)) (by
  intro e
  have:k∈((kvs.map (·.1)).filter fun v=>decide (bJ pt k v)):=List.mem_filter.mpr ⟨ay.mp hk,by simpa using PT.self hk⟩
  rw[List.map_eq_nil_iff] at e;rw[e] at this;cases this)
 refine q2 (List.mem_map.mp h1) fun v hv hM=>?_
 refine q3 (List.mem_filter.mp hv) fun yy ZZ=>?_
 exact⟨M,⟨v,ay.mpr yy,by simpa using ZZ,hM.symm⟩,fun v kv sv=>h2 _ (List.mem_map.mpr ⟨v,List.mem_filter.mpr ⟨ay.mp kv,by simpa using sv⟩,rfl⟩)⟩
theorem jZ{kv:List (Int×V)}{n:Int}{d d':V}(h:¬aJ kv n):bR (kv++[(n,d)]) n d'=kv++[(n,d')]:=by
 unfold bR
 rw[if_pos (by simp),List.map_append]
 congr 1
 ·conv=>rhs;rw[← List.map_id kv]
  refine List.map_congr_left fun p hp=>?_
  exact if_neg (fun q=>h (ay.mpr (List.mem_map.mpr ⟨p,hp,q⟩)))
 ·simp
theorem kr:∀ {l:List (Int×Int)},l≠[]→∃M∈l,∀x∈l,bQ x M=false
 | [],h=>(h rfl).elim
 | [a],_=>⟨a,.head _,fun x hx=>by rw[List.mem_singleton] at hx;subst hx;exact bT.mpr (ng)⟩
 | a::b::r,_=>by
  refine q2 (kr (l:=b::r) (by simp)) fun M hM hm=>?_
  by_cases q:bQ a M=true
  ·refine⟨a,.head _,fun x hx=>?_⟩
   cases hx with
   | head=>exact bT.mpr (ng)
   | tail _ hx=>have:=bT.mp (hm x hx);have:=fA.mp q;exact bT.mpr (by exact OW (by assumption) this)
  ·refine⟨M,.tail _ hM,fun x hx=>?_⟩
   cases hx with
   | head=>simpa using q
   | tail _ hx=>exact hm x hx
theorem tq{pt:Int→List Int}{u v a b:Int}{ra rb:List Int}(e1:pt u=a::ra)(e2:pt v=b::rb):bJ pt u v↔a=b:=by
 unfold bJ
 rw[e1,e2]
 simp only[cp]
 by_cases h:a=b
 ·rw[if_pos h];exact⟨fun _=>h,fun _=>by exact OZ⟩
 ·rw[if_neg h];exact⟨fun q=>by exact OY q,fun q=>(h q).elim⟩
theorem rh{kb:List (Int×V)}{v:Int}{xs:List Int}(h:av kb v xs):∃Wf,xs=Wf++[xs.getD (xs.length-1) 0]:=by
 have:=h.pos
 refine⟨xs.take (xs.length-1),?_⟩
 have e:xs[xs.length-1]?=some (xs.getD (xs.length-1) 0):=by rw[List.getD_eq_getElem?_getD,List.getElem?_eq_getElem (pG this)];rfl
 have:=List.take_add_one (l:=xs) (i:=xs.length-1)
 rw[show xs.length-1+1=xs.length by exact OX (by assumption),List.take_of_length_le (Nat.le_refl _),e] at this
 exact this
inductive Vv(kv:List (Int×V))(tx:Int→List Nat)(b n:Int)(l:List Nat)(j4:V)(H:AH)(d:V)(H':AH):Prop
 | mk (a:Addr) (bP:List (Int×V)):d=.ref a→aC H H'→H a=none→ax H' a bP→eE kv bP tx b n l j4→Vv kv tx b n l j4 H d H'
theorem qF(W:Lw c (KK P) sc ns)(H:AH)(ak ta:Addr)(b n:Int)(j4:V)(kv ts:List (Int×V))(tx:Int→List Nat)(rk:Int→Nat)(l:List Nat)(D:ax H ak kv)(T:ax H ta ts)(tt:∀k,aJ kv k→aF ts k=some (.s (tx k)))(tn:aF ts n=some (.s l))(E:bh kv tx rk)(hn:¬aJ kv n)(bf:kv.length<39)(hl:l.length≤20000)(tV:j4=.none∨∃o,j4=.int o∧aJ kv o)(b0:0≤b):
  Fn c 3 (.ref 440) [.ref ak,.ref ta,.int b,.int n,j4] H (Vv kv tx b n l j4 H) (fun _ _=>False):=by
 have hs:1000000≤sizeLine:=by decide
 have uF:n∉kv.map (·.1):=fun q=>hn (ay.mpr q)
 refine Fn.gen fun QQ eH=>?_;refine aV W.ok.lim (W.kx 440 _ rfl) rfl rfl (codeRec_of W.kx rfl) rfl (names:=["_law_kept","_law_texts","_law_bound","_law_number","_law_beside_here"]) (qe rfl fun _ _ _ _ _=>rfl) rfl (by decide) (fun n=>v9 (.inl rfl) (.inl rfl) (.inl rfl) (.inl rfl) (.inl rfl)) rfl rfl rfl fun A L bK hE R O=>?_
 have R1:bw 1 A:=R.le (rQ)
 have R2:bw 2 A:=R.le (OM)
 have hu:A.units+100<cLine:=by have:=R.units;exact Ba this
 refine ag (mE W.ok (kW W) (aa rfl) (oH W.ok D (Am bf hs) fun a oa ha=>?_)) (.inr ⟨rfl,rfl⟩)
 have T1:=T.fresh (x:=⟨oa,.dict kv⟩) ha
 refine bl (Pe.ev (bM (au bS (au (aj (aa rfl) (aa rfl) (aT T1 tn)) aU)) (by show 2≤sizeLine;exact cH hs)) (Pe.ev (aa rfl) (Pe.ev (aa rfl) ⟨a,kv,n,rfl,rfl,ax.same _ _ _ _,by exact Am bf hs,fun o1=>?_⟩)))
 rw[cc uF,AH.set_set]
 have ta1:ta≠a:=T.ne_new ha
 refine aL (dM (aa rfl)) (fun g=>?_) (fun g=>?_)
 ·exact aK (Pe.ev (aa rfl) (eH _ _ ⟨a,_,rfl,aC.set (aC.refl _) ha,ha,ax.same _ _ _ _,by rw[g];exact .none rfl⟩))
 refine q2 (tV.resolve_left g) fun o El ho=>?_;obtain rfl:=El
 have so:=E.short o ho
 have T2:ax (H.set a ⟨o1,.dict (kv++[(n,.tup [.none,.s l])])⟩) ta ts:=T.ne ta1
 refine bl (cP (az (Pe.ev (aa rfl) (az (cy W.ok (W.glob rfl) (W.kx 359 _ rfl) rfl R1 O.frames (aj (aa rfl) (aa rfl) (aT T2 (tt o ho))) (aj (aa rfl) (aa rfl) (aT T2 tn)) (Fn.mono (cQ W _ (tx o) l (eX so) (eX hl)) (fun d H1 z=>?_) fun _ _ z=>z.elim))))))
 refine Ge (d0:=H1) (d1:=d) z fun ca ce C=>?_;clear z
 refine bk ⟨by show 2≤sizeLine;exact cH hs,Pe.ev (aa rfl) (Pe.ev (aa rfl) ⟨a,_,n,rfl,rfl,ax.same _ _ _ _,by rw[List.length_append];show kv.length+1≤_;exact vE bf hs,fun o2=>?_⟩)⟩
 rw[jZ hn,AH.set_set]
 have hle:V.tup [.int o,.tup [.int (ca:Int),.s (((tx o).take ((tx o).length-ce)).drop ca),.s ((l.take (l.length-ce)).drop ca)]]=cu o (tx o) l ca ce:=rfl
 rw[hle]
 refine i4 (iW (o:=o) C) fun g1 d1 hd1 st=>?_
 obtain⟨xW,E1⟩:∃fk,bh (kv++[(n,cu o (tx o) l ca ce)]) (fun y=>if y=n then l else tx y) fk:=by rw[hd1];exact E.put_lean hn ho (OL bf) hl st
 have Up:=eC (kvs:=kv) (n:=n) (d:=cu o (tx o) l ca ce)
 have bp:bases (kv++[(n,cu o (tx o) l ca ce)])=bases kv++[(n,.int o)]:=by rw[cO];rfl
 have kn:aJ (kv++[(n,cu o (tx o) l ca ce)]) n:=(Up n).mpr (.inr rfl)
 have tt1:∀k,aJ (kv++[(n,cu o (tx o) l ca ce)]) k→aF ts k=some (.s (if k=n then l else tx k)):=fun k hk=>by
  by_cases q:k=n
  ·rw[if_pos q,q];exact tn
  ·rw[if_neg q];exact tt k (((Up k).mp hk).resolve_right q)
 have D3:=ax.same H a o2 (kv++[(n,cu o (tx o) l ca ce)])
 have T3:ax (H.set a ⟨o2,.dict (kv++[(n,cu o (tx o) l ca ce)])⟩) ta ts:=T.ne ta1
 have e3:aC H (H.set a ⟨o2,.dict (kv++[(n,cu o (tx o) l ca ce)])⟩):=aC.set (aC.refl _) ha
 have tJ:(kv++[(n,cu o (tx o) l ca ce)]).length=kv.length+1:=by rw[List.length_append];rfl
 refine q2 (E.chain ho) fun oX BP _=>?_
 have Ut:∀ {xs:List Int},av (bases (kv++[(n,cu o (tx o) l ca ce)])) n xs→xs=n::oX:=fun h=>by
  rw[bp] at h
  have g0:aF (bases kv++[(n,V.int o)]) n=some (.int o):=by rw[bC (by rw[cJ];exact uF),if_pos rfl]
  exact h.uniq (.step g0 (BP.keep fun y hy=>fK (fun q=>hn (aW.mp q)) y hy))
 refine q4 (E1.jt) fun cl fS=>?_
 refine ag (cy W.ok (W.glob rfl) (W.kx 397 _ rfl) rfl R1 O.frames (aa rfl) (aa rfl) (Fn.mono (cf W _ a _ _ xW n D3 E1 kn) (fun d H4 z=>?_) fun _ _ z=>z.elim)) (.inr ⟨rfl,rfl⟩)
 refine nR (d0:=d) (d1:=H4) z fun a4 o4 xs h4 ch4 _=>?_;clear z
 obtain rfl:=Ut ch4
 have U6:=aC.set (x:=⟨o4,.list ((n::oX).map V.int)⟩) (aC.refl (H.set a ⟨o2,.dict (kv++[(n,cu o (tx o) l ca ce)])⟩)) h4
 have l4:=ai.same (H.set a ⟨o2,.dict (kv++[(n,cu o (tx o) l ca ce)])⟩) a4 o4 ((n::oX).map V.int)
 have D4:=U6.dict D3
 have T4:=U6.dict T3
 have e4:=e3.trans U6
 generalize AH.set (H.set a ⟨o2,.dict (kv++[(n,cu o (tx o) l ca ce)])⟩) a4 ⟨o4,.list ((n::oX).map V.int)⟩=H4 at l4 D4 T4 e4 ⊢
 have Ue:((n::oX).map V.int).length=oX.length+1:=by rw[List.length_map,List.length_cons]
 have x50:oX.length≤41:=by refine q2 (E.chain ho) fun ys hy hyl=>?_;rw[BP.uniq hy];exact hyl
 refine aL (aH (aw (ck W.ok (bu W) (aa rfl) (cT l4 (by rw[Ue];exact OJ hs (by assumption)))) ae dF) (aa rfl) xA decide_eq_true_iff) (fun g=>?_) (fun g=>?_)
 ·exact aK (Pe.ev (aa rfl) (eH _ _ ⟨a,_,rfl,e4,ha,D4,.lean o ca ce oX C BP (by rw[Ue] at g;exact OI g) rfl⟩))
 rw[Ue] at g
 have aaf:kv++[(n,cu o (tx o) l ca ce)]≠[]:=by simp
 refine q2 ((E1.qD aaf).vt) fun pt PT jN=>?_
 have kb:∀ {v:Int},aJ (kv++[(n,cu o (tx o) l ca ce)]) v→aJ (bases (kv++[(n,cu o (tx o) l ca ce)])) v:=fun h=>aW.mpr h
 obtain⟨Mx,hMx⟩:∃Mx:Int→Int,∀v,aJ (kv++[(n,cu o (tx o) l ca ce)]) v→w6 (bases (kv++[(n,cu o (tx o) l ca ce)])) pt v (Mx v):=by
  classical
  refine⟨fun v=>if h:aJ (kv++[(n,cu o (tx o) l ca ce)]) v then Classical.choose (js PT (kb h)) else 0,fun v h=>?_⟩
  dsimp only;rw[dif_pos h];exact Classical.choose_spec (js PT (kb h))
 obtain⟨rt,Wo⟩:∃rt:Int→Int,∀v,aJ (kv++[(n,cu o (tx o) l ca ce)]) v→∀ys,av (bases (kv++[(n,cu o (tx o) l ca ce)])) v ys→ys[ys.length-1]?=some (rt v)∧∃ra,pt v=rt v::ra:=by
  refine⟨fun v=>(cl v).getD ((cl v).length-1) 0,fun v h ys hy=>?_⟩
  obtain rfl:=hy.uniq (fS v h).1
  have:=hy.pos
  refine⟨by show(cl v)[(cl v).length-1]?=some ((cl v).getD ((cl v).length-1) 0);rw[List.getD_eq_getElem?_getD,List.getElem?_eq_getElem (pG this)];rfl,?_⟩
  refine q4 (rh hy) fun Wf e=>?_
  refine⟨Wf.reverse,?_⟩
  show pt v=(cl v).getD ((cl v).length-1) 0::Wf.reverse
  rw[jN v _ hy]
  conv=>lhs;rw[e]
  rw[List.reverse_append];rfl
 have zq:∀v,aJ (kv++[(n,cu o (tx o) l ca ce)]) v→(bJ pt n v↔rt v=rt n):=fun v hv=>by
  refine q4 ((Wo n kn _ (fS n kn).1).2) fun ra e1=>?_
  refine q4 ((Wo v hv _ (fS v hv).1).2) fun rb e2=>?_
  rw[tq e1 e2];exact⟨fun q=>q.symm,fun q=>q.symm⟩
 have rn:(n::oX)[oX.length]?=some (rt n):=by have:=(Wo n kn _ ch4).1;rwa [List.length_cons,Nat.add_sub_cancel] at this
 refine cU W.ok (dc R.handled (Pe.ev (aa rfl) ⟨a,_,rfl,D4,?_⟩)) rfl rfl (by decide) rfl (by decide) rfl (mI ⟨rfl,rfl,rfl⟩ (mI ⟨rfl,rfl,rfl⟩ qA)) (.inl rfl)
 have kl:((kv++[(n,cu o (tx o) l ca ce)]).map fun p=>V.int p.1).length=kv.length+1:=by rw[List.length_map,tJ]
 have at_:∀ {i:Nat} {dd:V},((kv++[(n,cu o (tx o) l ca ce)]).map fun p=>V.int p.1)[i]?=some dd→dd=.int (((kv++[(n,cu o (tx o) l ca ce)]).map (·.1)).getD i 0)∧aJ (kv++[(n,cu o (tx o) l ca ce)]) (((kv++[(n,cu o (tx o) l ca ce)]).map (·.1)).getD i 0):=fun {i dd} h=>by
  refine q2 (aI h) fun p hp Ek=>?_;obtain rfl:=Ek
  have e:((kv++[(n,cu o (tx o) l ca ce)]).map (·.1))[i]?=some p.1:=by rw[List.getElem?_map,hp];rfl
  rw[List.getD_eq_getElem?_getD,e]
  exact⟨rfl,ay.mpr (List.mem_of_getElem? e)⟩
 refine gM (fun i=>V.int (((kv++[(n,cu o (tx o) l ca ce)]).map (·.1)).getD i 0)) (fun i=>decide (rt (((kv++[(n,cu o (tx o) l ca ce)]).map (·.1)).getD i 0)=rt n)) (by rw[kl];exact vE bf hs) (fun i dd Cc hE dz=>?_) (fun i dd Cc hE dz q=>?_) (fun a5 o5 h5=>?_)
 ·refine q3 (at_ dz) fun Ej kv_=>?_;obtain rfl:=Ej
  generalize ((kv++[(n,cu o (tx o) l ca ce)]).map (·.1)).getD i 0=v at kv_ ⊢
  refine aH (Pe.of_ext (d:=.int (rt v)) (j7 (cy W.ok (W.glob rfl) (W.kx 397 _ rfl) rfl R1 O.frames (aa rfl) (aa rfl) (Fn.mono (cf W H4 a _ _ xW v D4 E1 kv_) (fun d H6 z=>?_) fun _ _ z=>z.elim)))) (aj (d:=.int (rt n)) (aa rfl) (dE ae) (bN (j:=oX.length) l4 ((cC (by decide) (by rw[Ue];exact vS)).trans (congrArg some (by rw[Ue];exact vR))) (aQ rn) (by decide))) fg (by simp)
  refine nR (d0:=d) (d1:=H6) z fun a6 o6 ys h6 sN yl=>?_;clear z
  have:=sN.pos
  exact(dE ae).ev ⟨_,bN (j:=ys.length-1) (ai.same _ _ _ _) ((cC (by decide) (by rw[List.length_map];exact OH this)).trans (congrArg some (by rw[List.length_map];exact vC))) (aQ (Wo v kv_ ys sN).1) (by decide),rfl,aC.set (aC.refl _) h6⟩
 ·refine q3 (at_ dz) fun Ei _=>?_;obtain rfl:=Ei
  exact aa rfl
 rw[kl,show kv.length+1=((kv++[(n,cu o (tx o) l ca ce)]).map (·.1)).length by rw[List.length_map,tJ],hX ((kv++[(n,cu o (tx o) l ca ce)]).map (·.1)) (fun v=>decide (rt v=rt n)) V.int]
 obtain⟨tl,Z1⟩:∃tl:List Int,tl=((kv++[(n,cu o (tx o) l ca ce)]).map (·.1)).filter fun v=>decide (rt v=rt n):=⟨_,rfl⟩
 rw[← Z1]
 have yj:∀v,v∈tl↔aJ (kv++[(n,cu o (tx o) l ca ce)]) v∧bJ pt n v:=fun v=>by
  rw[Z1,List.mem_filter,← ay,decide_eq_true_iff]
  exact⟨fun h=>⟨h.1,(zq v h.1).mpr h.2⟩,fun h=>⟨h.1,(zq v h.1).mp h.2⟩⟩
 have W6:tl.length≤60:=by rw[Z1];refine Nat.le_trans (List.length_filter_le _ _) ?_;rw[List.length_map,tJ];exact OG bf
 have e5:aC H4 (H4.set a5 ⟨o5,.list (tl.map V.int)⟩):=aC.set (aC.refl _) h5
 have l5:=ai.same H4 a5 o5 (tl.map V.int)
 have D5:=e5.dict D4
 have T5:=e5.dict T4
 have e5':=e4.trans e5
 generalize H4.set a5 ⟨o5,.list (tl.map V.int)⟩=H5 at e5' l5 D5 T5 ⊢
 have nT:n∈tl:=(yj n).mpr ⟨kn,PT.self (kb kn)⟩
 refine q2 (kr (l:=tl.map fun v=>(Mx v,-v)) (by intro q;rw[List.map_eq_nil_iff] at q;rw[q] at nT;cases nT)) fun Mn hMn UD=>?_
 refine q2 (List.mem_map.mp hMn) fun mid aai Eh=>?_;obtain rfl:=Eh
 refine q3 ((yj mid).mp aai) fun nZ tp=>?_
 refine ag (cj W.ok (lZ W) (eV W.ok (bD R.handled (Pe.ev (aa rfl) ⟨a5,_,rfl,l5,?_⟩)) rfl (by decide) rfl (by decide) rfl (mI ⟨rfl,rfl,rfl⟩ qA))) (.inl rfl)
 refine cL ((tl.map fun v=>(Mx v,-v)).map fW) (by simp) (by rw[List.length_map];exact OF hs W6) (fun i dd Cc hE dz=>?_) (fun a6 o6 h6=>?_)
 ·refine q2 (aI dz) fun v hv Eg=>?_;obtain rfl:=Eg
  have kv_:=((yj v).mp (List.mem_of_getElem? hv)).1
  refine⟨_,aQ (aQ hv),bM (au (kJ W.ok (W.glob rfl) (W.kx 428 _ rfl) rfl R2 O.frames (aa rfl) (aa rfl) (Fn.mono (u6 W H5 a v _ _ xW pt D5 E1 kv_ PT jN) (fun d H7 z=>?_) fun _ _ z=>z.elim)) (au (dE (aa rfl)) aU)) (by show 2≤sizeLine;exact cH hs)⟩
  refine Hw (d0:=H7) (d1:=d) z fun M HM=>?_;clear z
  exact⟨by rw[HM.uniq (hMx v kv_) (fun _=>rfl)],rfl⟩
 refine(Hf R.handled (ai.same _ _ _ _) hMn UD (by show A.units+4<cLine;exact pj hu)).op ?_
 have e6:aC H5 (H5.set a6 ⟨o6,.list ((tl.map fun v=>(Mx v,-v)).map fW)⟩):=aC.set (aC.refl _) h6
 have D6:=e6.dict D5
 have T6:=e6.dict T5
 have WN:=e5'.trans e6
 generalize H5.set a6 ⟨o6,.list ((tl.map fun v=>(Mx v,-v)).map fW)⟩=H6 at WN D6 T6 ⊢
 have hM0:∀v,aJ (kv++[(n,cu o (tx o) l ca ce)]) v→0≤Mx v:=fun v hv=>by obtain⟨⟨w,_,_,e⟩,_⟩:=hMx v hv;exact OE e
 have MID:qB (bases (kv++[(n,cu o (tx o) l ca ce)])) pt n mid (fun v=>(Mx v).toNat):=by
  refine⟨kb nZ,tp,fun v hv sv=>?_,fun v hv sv=>?_⟩
  ·obtain⟨⟨w,kw,sw,e⟩,q⟩:=hMx v (aW.mp hv)
   exact⟨⟨w,kw,sv.trans sw,by show(Mx v).toNat=_;exact OD e⟩,fun w kw sw=>by have:=q w kw (sv.symm.trans sw);show _≤(Mx v).toNat;exact OC this⟩
  ·have Z9:=bT.mp (UD _ (List.mem_map.mpr ⟨v,(yj v).mpr ⟨aW.mp hv,sv⟩,rfl⟩))
   have:=hM0 v (aW.mp hv)
   have:=hM0 mid nZ
   first | exact Int.toNat_le_toNat (Int.not_lt.mp fun q=>Z9 (.inl q)) | (simp only at *;omega)
 have za:bO (bases kv++[(n,.int o)]) pt:=bp▸PT
 have jC:∀v ys,av (bases kv++[(n,.int o)]) v ys→pt v=ys.reverse:=fun v ys h=>jN v ys (by rw[bp];exact h)
 have VA:qB (bases kv++[(n,.int o)]) pt n mid (fun v=>(Mx v).toNat):=bp▸MID
 have m0:=hM0 mid nZ
 refine aL (aH (aj (aa rfl) ae (bB (d:=.int (Mx mid)) (j:=0) rfl rfl (by decide))) (aa rfl) xA decide_eq_true_iff) (fun hle=>?_) (fun UM=>?_)
 ·refine q2 (E1.chain nZ) fun zs hz _=>?_
  refine aK (nK W.ok (W.glob rfl) (W.kx 435 _ rfl) rfl R2 O.frames (aa rfl) (iZ (Int.neg_neg mid) (dE (aj (aa rfl) ae (bB (d:=.int (-mid)) (j:=1) rfl rfl (by decide))))) (aj (d:=.s (if mid=n then l else tx mid)) (aa rfl) (iZ (Int.neg_neg mid) (dE (aj (aa rfl) ae (bB (d:=.int (-mid)) (j:=1) rfl rfl (by decide))))) (aT T6 (tt1 mid nZ))) (Fn.mono (lB W H6 a mid _ _ xW zs D6 E1 nZ hz) (fun d H7 z=>?_) fun _ _ z=>z.elim))
  refine oQ (d0:=d) z fun a7 bP e7 h7 D7 TT=>?_;clear z
  exact(eH _ _ ⟨a7,bP,rfl,WN.trans e7,WN.none h7,D7,.turned o ca ce oX pt mid _ zs C BP (Al g) za jC VA (by show(((Mx mid).toNat:Nat):Int)≤b;exact OB b0 hle) hz TT⟩)
 ·refine bl (Pe.ev (bM (au bS (au (aj (aa rfl) (aa rfl) (aT T6 tn)) aU)) (by show 2≤sizeLine;exact cH hs)) (Pe.ev (aa rfl) (Pe.ev (aa rfl) ⟨a,_,n,rfl,rfl,D6,by rw[tJ];exact vE bf hs,fun o7=>?_⟩)))
  rw[jZ hn]
  exact aK (Pe.ev (aa rfl) (eH _ _ ⟨a,_,rfl,aC.upd WN ha,ha,ax.same _ _ _ _,.dQ o oX pt mid _ BP (Al g) za jC VA (by show b<(((Mx mid).toNat:Nat):Int);exact OA UM) rfl⟩))
theorem qS{H H':AH}{x dx hd a:Addr}{b n:Int}{kvs:List (Int×V)}(kp:dO H H' dx hd)(PA:bc H' x dx hd b n kvs)(h:H' a=none):H a=none:=by
 cases q:H a with
 | none=>rfl
 | some y=>
  have q1:a≠dx:=fun e=>PA.some_x.2.1 (e▸h)
  have q2:a≠hd:=fun e=>PA.some_x.2.2 (e▸h)
  have:=kp a (by rw[q];exact fun z=>nomatch z) q1 q2
  rw[h,q] at this;cases this
theorem cz{H H':AH}{x dx hd a:Addr}{b n:Int}{kvs ds:List (Int×V)}(kp:dO H H' dx hd)(PA:bc H x dx hd b n kvs)(h:ax H a ds)(ne:a≠hd):ax H' a ds:=by
 have q1:=(PA.i.ne_dict h).2.symm
 refine q4 h fun o e=>?_;clear h
 exact⟨o,(kp a (by rw[e];exact fun z=>nomatch z) q1 ne).trans e⟩
inductive Jo9(x dx hd ta:Addr)(b n:Int)(ts:List (Int×V))(tx:Int→List Nat)(u:Nat)(H:AH)(d:V)(H':AH):Prop
 | mk (kG:Addr) (dP bP:List (Int×V)) (fk:Int→Nat):d=.ref kG→bP≠[]→Jn H' x dx hd kG ta b n dP bP ts tx fk u→dO H H' dx hd→Jo9 x dx hd ta b n ts tx u H d H'
theorem lC(W:Lw c (KK P) sc ns)(U:Vy c (KK P))(H:AH)(x dx hd ak ta:Addr)(b n cell:Int)(bG kv ts:List (Int×V))(tx:Int→List Nat)(rk:Int→Nat)(u:Nat)(J:Jn H x dx hd ak ta b n bG kv ts tx rk u)(de:kv≠[]):
  Fn c 6 (.ref 459) [.ref x,.ref ak,.ref ta,.int b,.int cell] H (Jo9 x dx hd ta b n ts tx u H) (fun _ _=>False):=by
 have hs:1000000≤sizeLine:=by decide
 have bf:=J.bf
 refine q4 (J.E.jt) fun cl fS=>?_
 refine Fn.gen fun QQ eH=>?_;refine aV W.ok.lim (W.kx 459 _ rfl) rfl rfl (codeRec_of W.kx rfl) rfl (names:=["_law_pack","_law_kept","_law_texts","_law_bound","_law_cell"]) (qe rfl fun _ _ _ _ _=>rfl) rfl (by decide) (fun n=>v9 (.inl rfl) (.inr ⟨rfl,rfl⟩) (.inl rfl) (.inl rfl) (.inl rfl)) rfl rfl rfl fun A L bK hE R O=>?_
 have R1:bw 1 A:=R.le (Ak)
 have R5:bw 5 A:=R.le (Oz)
 refine ag (cj W.ok (cg W) (Pe.ev (aa rfl) (cK W.ok R.handled J.d (rJ bf) fun a1 o1 s h1 pm pw=>?_))) (.inl rfl)
 have S:fR kv s:=⟨pm,pw⟩
 have sl:=S.len
 have e1:aC H (H.set a1 ⟨o1,.list (s.map V.int)⟩):=aC.set (aC.refl _) h1
 have l1:=ai.same H a1 o1 (s.map V.int)
 generalize H.set a1 ⟨o1,.list (s.map V.int)⟩=H1 at e1 l1 ⊢
 have J1:=J.ext e1
 have k0:0<kv.length:=List.length_pos_iff.mpr de
 have uE:(s.map V.int).length=kv.length:=by rw[List.length_map,sl]
 obtain⟨k,hk,_,pk⟩:=ya S de (rI bf) cell
 obtain⟨o,ho,_,pk2⟩:=ya S de (rI bf) (cell / ((s.map V.int).length:Int))
 have ple:∀ {f:Fx} {m:bL} {p₁ p₂ p:Pos},True:=trivial
 clear ple
 refine ag (Pe.ev (aj (aa rfl) (aw (aa rfl) (ck W.ok (bu W) (aa rfl) (cT l1 (by rw[uE];exact kd hs bf))) (bV (by rw[uE];exact lK k0))) (pk l1)) ?_) (.inr ⟨rfl,rfl⟩)
 refine ag (Pe.ev (aj (aa rfl) (aw (aw (aa rfl) (ck W.ok (bu W) (aa rfl) (cT l1 (by rw[uE];exact kd hs bf))) (dG (by rw[uE];exact lK k0) (by rw[uE];exact Oy bf))) (ck W.ok (bu W) (aa rfl) (cT l1 (by rw[uE];exact kd hs bf))) (bV (by rw[uE];exact lK k0))) (pk2 l1)) ?_) (.inl rfl)
 have at_:∀ {i:Nat} {dd:V},(kv.map fun p=>V.int p.1)[i]?=some dd→dd=.int ((kv.map (·.1)).getD i 0)∧aJ kv ((kv.map (·.1)).getD i 0):=fun {i dd} h=>by
  refine q2 (aI h) fun p hp Ef=>?_;obtain rfl:=Ef
  have e:(kv.map (·.1))[i]?=some p.1:=by rw[List.getElem?_map,hp];rfl
  rw[List.getD_eq_getElem?_getD,e]
  exact⟨rfl,ay.mpr (List.mem_of_getElem? e)⟩
 have ckk:k∈cl k:=by refine q4 ((fS k hk).1.head) fun r e=>?_;rw[e];exact .head _
 obtain⟨hi,tS,fQ⟩:=eP (((kv.map (·.1)).filter fun v=>decide (k∈cl v)).map fun v=>((cl v).idxOf k:Int)) (by
  intro q;rw[List.map_eq_nil_iff] at q
  have:k∈(kv.map (·.1)).filter fun v=>decide (k∈cl v):=List.mem_filter.mpr ⟨ay.mp hk,by simpa using ckk⟩
  rw[q] at this;cases this)
 have HI:Hi kv k hi:=by
  refine q2 (List.mem_map.mp tS) fun v hv ev=>?_
  refine q3 (List.mem_filter.mp hv) fun yy ZZ=>?_
  refine⟨by exact Ox ev,fun w xs hc hm=>?_,.inr ⟨v,cl v,(fS v (ay.mpr yy)).1,by simpa using ZZ,ev.symm⟩⟩
  have kw:aJ kv w:=aW.mp (hc.keys w (by refine q4 (hc.head) fun r hr=>?_;rw[hr];exact .head _))
  obtain rfl:=hc.uniq (fS w kw).1
  exact fQ _ (List.mem_map.mpr ⟨w,List.mem_filter.mpr ⟨ay.mp kw,by simpa using hm⟩,rfl⟩)
 have D1:=J1.d
 refine ag (cj W.ok (gB W) (eV W.ok (dc R.handled (Pe.ev (aa rfl) ⟨ak,kv,rfl,D1,?_⟩)) rfl (by decide) rfl (by decide) rfl (mI ⟨rfl,rfl,rfl⟩ (mI ⟨rfl,rfl,rfl⟩ qA)))) (.inl rfl)
 refine gM (fun i=>V.int ((cl ((kv.map (·.1)).getD i 0)).idxOf k:Nat)) (fun i=>decide (k∈cl ((kv.map (·.1)).getD i 0))) (by rw[List.length_map];exact kd hs bf) (fun i dd Cc hE dz=>?_) (fun i dd Cc hE dz q=>?_) (fun a5 o5 h5=>?_)
 ·refine q3 (at_ dz) fun Ee kv_=>?_;obtain rfl:=Ee
  generalize (kv.map (·.1)).getD i 0=v at kv_ ⊢
  refine Tp.of_ext (eS (Pe.ev (aa rfl) (cy W.ok (W.glob rfl) (W.kx 397 _ rfl) rfl R1 O.frames (aa rfl) (aa rfl) (Fn.mono (cf W H1 ak _ _ rk v D1 J.E kv_) (fun d H6 z=>?_) fun _ _ z=>z.elim))))
  refine nR (d0:=d) (d1:=H6) z fun a6 o6 ys h6 sN yl=>?_;clear z
  obtain rfl:=sN.uniq (fS v kv_).1
  exact(qw (ai.same _ _ _ _)).op ⟨_,rfl,aC.set (aC.refl _) h6,by simp⟩
 ·refine q3 (at_ dz) fun Ed kv_=>?_;obtain rfl:=Ed
  generalize (kv.map (·.1)).getD i 0=v at kv_ q ⊢
  have q:k∈cl v:=by simpa using q
  refine Pe.of_ext (hZ plainAttrs_list slot_list_index (xr (cy W.ok (W.glob rfl) (W.kx 397 _ rfl) rfl R1 O.frames (aa rfl) (aa rfl) (Fn.mono (cf W H1 ak _ _ rk v D1 J.E kv_) (fun d H6 z=>?_) fun _ _ z=>z.elim))) type_list_index)
  refine nR (d0:=d) (d1:=H6) z fun a6 o6 ys h6 sN yl=>?_;clear z
  obtain rfl:=sN.uniq (fS v kv_).1
  refine q3 (nw q) fun i1 i2=>?_
  have lt:=(List.getElem?_eq_some_iff.mp i1).1
  refine cw W.ok (nG.nz (au (aa rfl) aU) ⟨by show 1≤sizeLine;exact pD hs,fun a7 o7 h7=>He W.ok ((ai.same _ _ _ _).fresh h7) (ai.same _ _ _ _) (by rw[List.length_map];show _+1≤_;exact Aj hs yl) fun a8 o8 h8=>?_⟩)
  have l8:∀ {G:AH},ai (G.set a8 ⟨o8,.list ((cl v).map V.int++[V.int k])⟩) a8 ((cl v++[k]).map V.int):=fun {G}=>by rw[List.map_append];exact ai.same _ _ _ _
  exact⟨eO l8,nG.nz (au (aa rfl) aU) ((oG (j:=(cl v).idxOf k) l8 (by rw[List.getElem?_append_left lt];exact i1) (fun i' uH=>by rw[List.getElem?_append_left (Ow lt uH)];exact i2 i' uH) (by rw[List.length_append];show _+1≤_;exact Aj hs yl)).op ⟨rfl,aC.set (aC.set (aC.set (aC.refl _) h6) h7) h8⟩)⟩
 rw[show(kv.map fun p=>V.int p.1).length=(kv.map (·.1)).length by rw[List.length_map,List.length_map],hX (kv.map (·.1)) (fun v=>decide (k∈cl v)) (fun v=>V.int ((cl v).idxOf k:Nat)),show(((kv.map (·.1)).filter fun v=>decide (k∈cl v)).map fun v=>V.int ((cl v).idxOf k:Nat))=(((kv.map (·.1)).filter fun v=>decide (k∈cl v)).map fun v=>((cl v).idxOf k:Int)).map V.int by rw[List.map_map];rfl]
 refine(w9 R.handled (ai.same _ _ _ _) tS fQ).op ?_
 have e5:=aC.set (x:=⟨o5,.list ((((kv.map (·.1)).filter fun v=>decide (k∈cl v)).map fun v=>((cl v).idxOf k:Int)).map V.int)⟩) e1 h5
 have J5:=J1.ext (aC.set (x:=⟨o5,.list ((((kv.map (·.1)).filter fun v=>decide (k∈cl v)).map fun v=>((cl v).idxOf k:Int)).map V.int)⟩) (aC.refl _) h5)
 generalize H1.set a5 ⟨o5,.list ((((kv.map (·.1)).filter fun v=>decide (k∈cl v)).map fun v=>((cl v).idxOf k:Int)).map V.int)⟩=H5 at e5 J5 ⊢
 clear tS fQ D1 J1 l1
 refine q3 (fS o ho) fun Wl xol=>?_
 refine aL (P:=k∈cl o∨b<((cl o).length:Int)+hi∨False) (fN (bg (Tp.of_ext (eS (Pe.ev (aa rfl) (cy W.ok (W.glob rfl) (W.kx 397 _ rfl) rfl R1 O.frames (aa rfl) (aa rfl) (Fn.mono (cf W H5 ak _ _ rk o J5.d J.E ho) (fun d H6 z=>?_) fun _ _ z=>z.elim))))) fun _=>bg (aH (aw (Pe.of_ext (d:=.int ((cl o).length:Int)) (cj W.ok (bu W) (cy W.ok (W.glob rfl) (W.kx 397 _ rfl) rfl R1 O.frames (aa rfl) (aa rfl) (Fn.mono (cf W H5 ak _ _ rk o J5.d J.E ho) (fun d H6 z=>?_) fun _ _ z=>z.elim)))) (aa rfl) bx) (aa rfl) jw decide_eq_true_iff) fun _=>dm)) (fun _=>?_) (fun g=>?_)
 ·refine nR (d0:=d) (d1:=H6) z fun a6 o6 ys h6 sN yl=>?_;clear z
  obtain rfl:=sN.uniq Wl
  exact(qw (ai.same _ _ _ _)).op ⟨_,rfl,aC.set (aC.refl _) h6,by simp⟩
 ·refine nR (d0:=d) (d1:=H6) z fun a6 o6 ys h6 sN yl=>?_;clear z
  obtain rfl:=sN.uniq Wl
  exact(cT (ai.same _ _ _ _) (by rw[List.length_map];exact Ai hs xol)).op ⟨congrArg V.int (by rw[List.length_map]),aC.set (aC.refl _) h6⟩
 ·exact aK (Pe.ev (aa rfl) (eH _ _ ⟨ak,bG,kv,rk,rfl,de,J5,fun a ha _ _=>e5 a ha⟩))
 have oU:k∉cl o:=fun q=>g (.inl q)
 have aam:¬b<((cl o).length:Int)+hi:=fun q=>g (.inr (.inl q))
 have sv:=J.dj
 have sm:dS kv bG:=fun y=>(sv y).symm
 have kp:=sv.key.mpr hk
 have op:=sv.key.mpr ho
 have ZW:av (bases bG) o (cl o):=sm.bases.chain Wl
 refine cv (nJ W.kx pc R5 O.frames (aa rfl) J5.pa.i rfl yS yO (W.kx 279 _ rfl) rfl (aa rfl) (aa rfl) (Fn.mono (xT W U H5 x dx hd b n k o bG tx rk (cl o) hi J5.pa J.EP kp op ZW (HI.dj sm)) (fun d H6 z=>?_) fun C H6 z=>?_))
 rotate_left
 ·refine q3 z fun _ vg=>?_;clear z;have z:=vg;clear vg
  rcases z with ⟨q,_⟩ | ⟨_,q,_⟩
  ·exact(oU q).elim
  ·exact(aam (Ov q)).elim
 refine Yc (d0:=d) z fun _ _ Eb Uq=>?_;clear z;obtain⟨a,e,C,uI⟩:=Eb
 refine⟨dp rfl,?_⟩
 have d6:=cz Uq J5.pa J5.d J5.kh
 have t6:=cz Uq J5.pa J5.t J5.th
 refine ag (mE W.ok (kW W) (aa rfl) (oH W.ok d6 (kd hs bf) fun af of_ yF=>?_)) (.inl rfl)
 have taf:ta≠af:=t6.ne_new yF
 have hdf:af≠hd:=fun q=>uI.some_x.2.2 (q▸yF)
 have UT:=qS Uq uI yF
 have t7:=t6.fresh (x:=⟨of_,.dict kv⟩) yF
 have PA7:=uI.ext (aC.set (x:=⟨of_,.dict kv⟩) (aC.refl _) yF)
 have s1:=J.E.short o ho
 have s2:=J.E.short k hk
 refine bl (cP (az (Pe.ev (aa rfl) (az (cy W.ok (W.glob rfl) (W.kx 359 _ rfl) rfl R1 O.frames (aj (aa rfl) (aa rfl) (aT t7 (J.tt o ho))) (aj (aa rfl) (aa rfl) (aT t7 (J.tt k hk))) (Fn.mono (cQ W _ (tx o) (tx k) (eX s1) (eX s2)) (fun d H8 z=>?_) fun _ _ z=>z.elim))))))
 refine Ge (d0:=H8) (d1:=d) z fun ca ce C'=>?_;clear z
 refine q3 (C.uniq C') fun Ea DZ=>?_;obtain rfl:=Ea;obtain rfl:=DZ
 refine bk ⟨by show 2≤sizeLine;exact cH hs,?_⟩
 refine Pe.ev (aa rfl) (Pe.ev (aa rfl) ⟨af,kv,k,rfl,rfl,ax.same _ _ _ _,by exact kd hs bf,fun o8=>?_⟩)
 rw[AH.set_set]
 have st:=C.step (Nat.le_refl a)
 rw[List.drop_eq_nil_of_le (by rw[List.length_take];exact pE),List.nil_append,List.nil_append] at st
 have pd:=uI.i.ne_dict uI.d
 have JV:=J5.Gb (aC.set (x:=⟨of_,.dict kv⟩) (aC.refl _) UT) UT (ax.same _ _ _ _)
 have e8:aC H6 (H6.set af ⟨o8,.dict (bR kv k (.tup [.int o,.tup [.int a,.s (((tx o).take ((tx o).length-e)).drop a),.s (((tx k).take ((tx k).length-e)).drop a)]]))⟩):=aC.set (aC.refl _) yF
 refine q4 (JV.lean hk ho Wl oU st (uI.ext e8) (ax.same _ _ _ _) (e8.dict t6)) fun fk J9=>?_
 refine aK (Pe.ev (aa rfl) (eH _ _ ⟨af,_,_,fk,rfl,?_,J9,fun y hy n1 n2=>?_⟩))
 ·intro q
  have:=congrArg List.length (ef (d:=.tup [.int o,.tup [.int a,.s (((tx o).take ((tx o).length-e)).drop a),.s (((tx k).take ((tx k).length-e)).drop a)]]) hk)
  rw[q] at this;simp at this;exact rH k0 this
 ·have q1:H5 y≠none:=by rw[e5 y hy];exact hy
  rw[e8 y (by rw[Uq y q1 n1 n2];exact q1),Uq y q1 n1 n2,e5 y hy]
theorem w6.dj{kvs kvs':List (Int×V)}{pt:Int→List Int}{u M:Int}(h:w6 kvs pt u M)(s:dS kvs kvs'):w6 kvs' pt u M:=
 ⟨q1 (h.at_) fun v a b e=>⟨v,s.key.mp a,b,e⟩,fun v kv sv=>h.le v (s.key.mpr kv) sv⟩
theorem dO.trans{H H1 H2:AH}{dx hd:Addr}(k:dO H H1 dx hd)(k':dO H1 H2 dx hd):dO H H2 dx hd:=fun a ha n1 n2=>by
 have:=k a ha n1 n2
 rw[k' a (by rw[this];exact ha) n1 n2,this]
theorem aC.kp{H H':AH}{dx hd:Addr}(e:aC H H'):dO H H' dx hd:=fun a ha _ _=>e a ha
inductive Ah9(x dx hd ta ac:Addr)(b n:Int)(ts:List (Int×V))(tx:Int→List Nat)(u:Nat)(H:AH)(m:bL)(H':AH):Prop
 | mk (ak:Addr) (bG kv:List (Int×V)) (rk:Int→Nat):kv≠[]→Jn H' x dx hd ak ta b n bG kv ts tx rk u→dO H H' dx hd→H' ac=H ac→m (Str.ofString "_law_pack")=some (.ref x)→m (Str.ofString "_law_kept")=some (.ref ak)→m (Str.ofString "_law_texts")=some (.ref ta)→m (Str.ofString "_law_bound")=some (.int b)→Ah9 x dx hd ta ac b n ts tx u H m H'
theorem tj(W:Lw c (KK P) sc ns)(U:Vy c (KK P))(H:AH)(x dx hd ak ta ac:Addr)(b n:Int)(bG kv ts:List (Int×V))(tx:Int→List Nat)(rk:Int→Nat)(u:Nat)(cs:List Int)(J:Jn H x dx hd ak ta b n bG kv ts tx rk u)(de:kv≠[])(lc:ai H ac (cs.map V.int)):
  Fn c 7 (.ref 454) [.ref x,.ref ak,.ref ta,.int b,.ref ac] H (Jo9 x dx hd ta b n ts tx u H) (fun _ _=>False):=by
 have hs:1000000≤sizeLine:=by decide
 have Zx:ac≠dx:=(J.pa.i.ne_list lc).2.symm
 have Zw:ac≠hd:=lc.ne_dict J.pa.d
 have qY:H ac≠none:=by refine q4 lc fun o e=>?_;clear lc;rw[e];exact fun z=>nomatch z
 refine Fn.gen fun QQ eH=>?_;refine aV W.ok.lim (W.kx 454 _ rfl) rfl rfl (codeRec_of W.kx rfl) rfl (names:=["_law_pack","_law_kept","_law_texts","_law_bound","_law_cells_here"]) (qe rfl fun _ _ _ _ _=>rfl) rfl (by decide) (fun n=>v9 (.inl rfl) (.inl rfl) (.inl rfl) (.inl rfl) (.inl rfl)) rfl rfl rfl fun A L bK hE R O=>?_
 have R2:bw 2 A:=R.le (Ah)
 have R4:bw 4 A:=R.le (Ag)
 have R5:bw 5 A:=R.le (Ou)
 have R6:bw 6 A:=R.le (Af)
 refine ct O (bD R.handled (Pe.ev (aa rfl) ⟨ac,_,rfl,lc,fun i m' H'=>Ah9 x dx hd ta ac b n ts tx u H m' H',⟨ak,bG,kv,rk,de,J,fun _ _ _ _=>rfl,rfl,rfl,rfl,rfl,rfl⟩,?_,?_⟩)) (.inl rfl)
 ·rintro i d m' H' ZT dz Xi _;obtain⟨ak,bG,kv,rk,de,J,kp,WM,mp,mk,mt,mb⟩:=Xi
  refine Ex.gen fun Q hQ=>?_
  refine q2 (aI dz) fun cell _ DY=>?_;obtain rfl:=DY
  have bf:=J.bf
  have k0:0<kv.length:=List.length_pos_iff.mpr de
  have fin:∀ {m2:bL} {H2:AH} {nF:Addr} {wj BM:List (Int×V)} {tu:Int→Nat},BM≠[]→Jn H2 x dx hd nF ta b n wj BM ts tx tu u→dO H' H2 dx hd→m2 (Str.ofString "_law_pack")=some (.ref x)→m2 (Str.ofString "_law_kept")=some (.ref nF)→m2 (Str.ofString "_law_texts")=some (.ref ta)→m2 (Str.ofString "_law_bound")=some (.int b)→Q .next m2 H2:=fun {m2 H2 nF wj BM tu} h1 h2 h3 h4 h5 h6 h7=>by
   have e:H2 ac=H' ac:=h3 ac (by rw[WM];exact qY) Zx Zw
   exact hQ _ _ _ ⟨⟨nF,wj,BM,tu,h1,h2,kp.trans h3,e.trans WM,h4,h5,h6,h7⟩,fun y hy=>by rw[List.mem_singleton] at hy;subst hy;exact e.trans WM⟩
  refine ag (cj W.ok (cg W) (Pe.ev (aa mk) (cK W.ok R.handled J.d (rJ bf) fun a1 o1 s h1 pm pw=>?_))) (.inl rfl)
  have S:fR kv s:=⟨pm,pw⟩
  have sl:=S.len
  have uE:(s.map V.int).length=kv.length:=by rw[List.length_map,sl]
  have e1:aC H' (H'.set a1 ⟨o1,.list (s.map V.int)⟩):=aC.set (aC.refl _) h1
  have l1:=ai.same H' a1 o1 (s.map V.int)
  generalize H'.set a1 ⟨o1,.list (s.map V.int)⟩=H1 at e1 l1 ⊢
  have J1:=J.ext e1
  have k1:dO H' H1 dx hd:=e1.kp
  obtain⟨k,hk,_,pk⟩:=ya S de (rI bf) (cell / 3)
  refine ag (Pe.ev (aj (aa rfl) (aw (aw (aa rfl) ae (dG (by decide) (by decide))) (ck W.ok (bu W) (aa rfl) (cT l1 (by rw[uE];exact kd hs bf))) (bV (by rw[uE];exact lK k0))) (pk l1)) ?_) (.inl rfl)
  refine q2 (J.E.chain hk) fun xs hx _=>?_
  have sm:dS kv bG:=fun y=>(J.dj y).symm
  have kkp:=J.dj.key.mpr hk
  have ZW:=sm.bases.chain hx
  refine q2 ((J.E.qD de).vt) fun pt PT jN=>?_
  refine q4 (js PT (aW.mpr hk)) fun M HR=>?_
  refine aL (aH (aw (aa rfl) ae (bV (by decide))) ae fg beq_iff_eq) (fun _=>?_) (fun _=>?_)
  ·refine ag (qr W.ok (W.glob rfl) (W.kx 459 _ rfl) rfl R6 O.frames (au (aa mp) (au (aa mk) (au (aa mt) (au (aa mb) (au (aw (aa rfl) ae (dG (by decide) (by decide))) aU))))) (Fn.mono (lC W U H1 x dx hd ak ta b n (cell / 3) bG kv ts tx rk u J1 de) (fun d H2 z=>?_) fun _ _ z=>z.elim)) (.inl rfl)
   obtain⟨nF,wj,BM,tu,rfl,h2,J2,tM⟩:=z
   exact aO (fin h2 J2 (k1.trans tM) mp rfl mt mb)
  refine aL (P:=cell % 3=1∧M≤b∧True) (fj (bI (aH (aw (aa rfl) ae (bV (by decide))) ae fg beq_iff_eq) fun _=>bI (aH (d₁:=.int M) (kJ W.ok (W.glob rfl) (W.kx 428 _ rfl) rfl R2 O.frames (aa mk) (aa rfl) (Fn.mono (u6 W H1 ak k kv tx rk pt J1.d J.E hk PT jN) (fun d H2 z=>by refine Hw (d0:=H2) (d1:=d) z fun M' HM=>?_;clear z;exact⟨by rw[HM.uniq HR (fun _=>rfl)],rfl⟩) fun _ _ z=>z.elim)) (aa mb) xA decide_eq_true_iff) fun _=>d7)) (fun g=>?_) (fun _=>?_)
  ·refine cv (dZ W.kx pc R5 O.frames (aa mp) J1.pa.i rfl yQ yM (W.kx 265 _ rfl) rfl (aa rfl) (Fn.mono (xQ W U H1 x dx hd b n k bG tx rk xs pt M J1.pa J.EP kkp ZW (PT.dj sm.bases) (HR.dj sm.bases)) (fun d H2 z=>?_) fun C H2 z=>?_))
   rotate_left
   ·refine iz z fun _ q _=>?_;clear z
    exact absurd q (by have:=g.2.1;exact Ot g)
   refine Yb (d0:=d) z fun _ DX tM=>?_;clear z;obtain⟨dP,eZ,T2⟩:=DX
   refine⟨dp rfl,?_⟩
   have d2:=cz tM J1.pa J1.d J1.kh
   have t2:=cz tM J1.pa J1.t J1.th
   refine ag (nK W.ok (W.glob rfl) (W.kx 435 _ rfl) rfl R2 O.frames (aa mk) (aa rfl) (aj (d:=.s (tx k)) (aa mt) (aa rfl) (aT t2 (J.tt k hk))) (Fn.mono (lB W H2 ak k kv tx rk xs d2 J.E hk hx) (fun d H3 z=>?_) fun _ _ z=>z.elim)) (.inl rfl)
   refine oQ (d0:=d) z fun a3 bP e3 h3 D3 T3=>?_;clear z
   have nh:a3≠hd:=fun q=>eZ.some_x.2.2 (q▸h3)
   have nt:a3≠ta:=fun q=>by refine q4 t2 fun o e=>?_;clear t2;rw[q,e] at h3;cases h3
   refine q4 (J.turn hx T3 T2 (eZ.ext e3) D3 (e3.dict t2) nh nt) fun fk J3=>?_
   refine aO (fin ?_ J3 ((k1.trans tM).trans e3.kp) mp rfl mt mb)
   intro q
   have:=congrArg List.length T3.keys
   rw[q,List.length_map,List.length_map] at this;simp at this;exact rH k0 this
  refine aL (P:=cell % 3=2∧1<(kv.length:Int)∧True) (fj (bI (aH (aw (aa rfl) ae (bV (by decide))) ae fg beq_iff_eq) fun _=>bI (aH (ck W.ok (bu W) (aa rfl) (cT l1 (by rw[uE];exact kd hs bf))) ae jw (by rw[uE,decide_eq_true_iff])) fun _=>d7)) (fun g=>?_) (fun _=>?_)
  ·have LS:=lR S J.E.nd k
   generalize (s.filter fun y=>leansOn k (aP (aE kv y)))=ls at LS
   have LSp:=LS.dj sm
   refine cv (dZ W.kx pc R4 O.frames (aa mp) J1.pa.i rfl uf t9 (W.kx 284 _ rfl) rfl (aa rfl) (Fn.mono (te W H1 x dx hd b n k bG tx rk ls J1.pa J.EP kkp LSp) (fun d H2 z=>?_) fun _ _ z=>z.elim))
   refine pf (d0:=d) z fun DW tM=>?_;clear z;obtain⟨dP,eZ,FP⟩:=DW
   refine⟨dp rfl,?_⟩
   have d2:=cz tM J1.pa J1.d J1.kh
   have t2:=cz tM J1.pa J1.t J1.th
   refine ag (nK W.ok (W.glob rfl) (W.kx 447 _ rfl) rfl R2 O.frames (aa mk) (aa mt) (aa rfl) (Fn.mono (nQ W H2 ak ta k kv ts tx rk ls d2 t2 J.tt J.E hk LS) (fun d H3 z=>?_) fun _ _ z=>z.elim)) (.inl rfl)
   refine oQ (d0:=d) z fun a3 bP e3 h3 D3 F3=>?_;clear z
   have nh:a3≠hd:=fun q=>eZ.some_x.2.2 (q▸h3)
   have nt:a3≠ta:=fun q=>by refine q4 t2 fun o e=>?_;clear t2;rw[q,e] at h3;cases h3
   refine q4 (J.forget hk LS F3 FP (eZ.ext e3) D3 (e3.dict t2) nh nt) fun fk J3=>?_
   refine aO (fin ?_ J3 ((k1.trans tM).trans e3.kp) mp rfl mt mb)
   intro q
   obtain⟨y,hy,hyk⟩:∃y,aJ kv y∧y≠k:=by
    apply Classical.byContradiction;intro z
    have all:∀y∈kv.map (·.1),y∈[k]:=fun y hy=>by
     rw[List.mem_singleton]
     apply Classical.byContradiction;intro q2
     exact z ⟨y,ay.mpr hy,q2⟩
    have:=gQ J.E.nd all
    rw[List.length_map,List.length_singleton] at this
    have:=g.2.1
    exact Oq g (by assumption)
   refine q4 ((F3.key y).mpr ⟨hy,hyk⟩) fun dd UP=>?_
   rw[q] at UP;cases UP
  ·exact aO (fin de J1 k1 mp mk mt mb)
 ·rintro m' H' Xh _;obtain⟨ak,bG,kv,rk,de,J,kp,WM,mp,mk,mt,mb⟩:=Xh
  exact aK (Pe.ev (aa mk) (eH _ _ ⟨ak,bG,kv,rk,rfl,de,J,kp⟩))
inductive Lo9(x dx hd ak ta:Addr)(b:Int)(nn:Int)(H:AH)(d:V)(H':AH):Prop
 | mk (bG kv ts:List (Int×V)) (tx:Int→List Nat) (rk:Int→Nat):d=.int nn→kv≠[]→Jn H' x dx hd ak ta b (nn+1) bG kv ts tx rk 8→xc H H' dx hd ak ta→Lo9 x dx hd ak ta b nn H d H'
inductive Li9(x dx hd ak ta ac:Addr)(b:Int)(c0 c1:Int)(H:AH)(i u:Nat)(m:bL)(H':AH):Prop
 | mk (bG kv ts:List (Int×V)) (tx:Int→List Nat) (rk:Int→Nat):Jn H' x dx hd ak ta b ((i:Int)+1) bG kv ts tx rk u→(∀y,aJ kv y↔0≤y∧y≤(i:Int))→ai H' ac [.int c0,.int c1]→xc H H' dx hd ak ta→m (Str.ofString "_law_pack")=some (.ref x)→m (Str.ofString "_law_kept")=some (.ref ak)→m (Str.ofString "_law_texts")=some (.ref ta)→m (Str.ofString "_law_bound")=some (.int b)→m (Str.ofString "_law_cells_here")=some (.ref ac)→Li9 x dx hd ak ta ac b c0 c1 H i u m H'
theorem uY(W:Lw c (KK P) sc ns)(H:AH)(x dx hd ak ta ac:Addr)(b:Nat)(c0 c1:Int)(bG kv ts:List (Int×V))(tx:Int→List Nat)(rk:Int→Nat)(J:Jn H x dx hd ak ta b 1 bG kv ts tx rk 26)(kk:∀y,aJ kv y↔0≤y∧y≤0)(lc:ai H ac [.int c0,.int c1])(hb:b≤13):
  Fn c 6 (.ref 485) [.ref x,.ref ak,.ref ta,.int b,.ref ac] H (Lo9 x dx hd ak ta b ((b:Int)+5) H) (fun _ _=>False):=by
 have hs:1000000≤sizeLine:=by decide
 refine Fn.gen fun QQ eH=>?_;refine aV W.ok.lim (W.kx 485 _ rfl) rfl rfl (codeRec_of W.kx rfl) rfl (names:=["_law_pack","_law_kept","_law_texts","_law_bound","_law_cells_here"]) (qe rfl fun _ _ _ _ _=>rfl) rfl (by decide) (fun n=>v9 (.inl rfl) (.inl rfl) (.inl rfl) (.inl rfl) (.inl rfl)) rfl rfl rfl fun A L bK hE R O=>?_
 have R1:bw 1 A:=R.le (Ak)
 have R2:bw 2 A:=R.le (Aw)
 have R3:bw 3 A:=R.le (Oo)
 have R4:bw 4 A:=R.le (Av)
 refine ct O (cW R.handled ((bF W.ok (eD W)).ev ⟨rfl,Pe.ev (aw (aa rfl) ae bx) ⟨_,rfl,by omega,by omega,fun i m' H'=>i≤b+5∧Li9 x dx hd ak ta ac b c0 c1 H i (26-i) m' H',⟨by exact Om,bG,kv,ts,tx,rk,J,kk,lc,fun _ _ _ _ _ _=>rfl,rfl,rfl,rfl,rfl,rfl⟩,?_,?_⟩⟩)) (.inl rfl)
 ·rintro i d m' H' ZT dz ⟨hi3,hS⟩ _
  refine Ex.gen fun Q hQ=>?_
  refine q2 (aI dz) fun j hj DV=>?_;obtain rfl:=DV
  refine q4 (List.getElem?_eq_some_iff.mp hj) fun UJ UI=>?_
  rw[List.length_range] at UJ
  rw[List.getElem_range] at UI
  subst UI
  have fQ:i<b+5:=by exact Ol UJ
  obtain⟨u,hu1⟩:∃u,26-i=u+1:=⟨25-i,by exact Oj hb fQ⟩
  have hu2:26-(i+1)=u:=by exact Oi hu1
  rw[hu1] at hS
  clear J kk lc
  clear bG kv ts tx rk
  obtain⟨bG,kv,ts,tx,rk,J,kk,lc,kp,mp,mk,mt,mb,mc⟩:=hS
  have bf:=J.bf
  have tf:=J.tf
  have ki:aJ kv (i:Int):=(kk _).mpr (Oh)
  have kh:aJ kv ((i:Int) / 2):=(kk _).mpr (Og)
  have hn:¬aJ kv ((i:Int)+1):=fun q=>by have:=(kk _).mp q;exact Of this
  have HJ:¬aJ bG ((i:Int)+1):=fun q=>hn (J.dj.key.mp q)
  have gc0:∀ {f:Fx} {G:AH},ai G ac [.int c0,.int c1]→G2 c f G (.ref ac) (.int 0) (.int c0):=fun h=>bN (d:=.int c0) (j:=0) h rfl rfl (by decide)
  have gc1:∀ {f:Fx} {G:AH},ai G ac [.int c0,.int c1]→G2 c f G (.ref ac) (.int 1) (.int c1):=fun h=>bN (d:=.int c1) (j:=1) h rfl rfl (by decide)
  refine q2 (J.E.chain ki) fun xi Wm xil=>?_
  refine ag (Pe.ev (aa rfl) ?_) (.inl rfl)
  refine fy (fN (bg (aH (aw (aw (aj (aa mc) ae (gc0 lc)) (aw (aw ae (aa rfl) (iu (cN (by decide)))) (aj (aa mc) ae (gc1 lc)) (iu (cN (by omega)))) bx) ae (bV (by decide))) ae fg beq_iff_eq) fun _=>bg (aH (Pe.of_ext (d:=.int (xi.length:Int)) (cj W.ok (bu W) (cy W.ok (W.glob rfl) (W.kx 397 _ rfl) rfl R1 O.frames (aa mk) (aa rfl) (Fn.mono (cf W H' ak _ _ rk i J.d J.E ki) (fun d H6 z=>?_) fun _ _ z=>z.elim)))) (aa mb) jw decide_eq_true_iff) fun _=>dm)) (fun _=>aw (aa rfl) ae (dG (by decide) (by decide))) (fun d hd=>?_) (.inl rfl)
  ·refine nR (d0:=d) (d1:=H6) z fun a6 o6 ys h6 sN yl=>?_;clear z
   obtain rfl:=sN.uniq Wm
   exact(cT (ai.same _ _ _ _) (by rw[List.length_map];exact Ai hs xil)).op ⟨congrArg V.int (by rw[List.length_map]),aC.set (aC.refl _) h6⟩
  obtain⟨o,rfl,ho⟩:∃o,d=.int o∧aJ kv o:=by
   rcases hd with ⟨_,rfl⟩ | ⟨_,rfl⟩
   ·exact⟨_,rfl,kh⟩
   ·exact⟨_,rfl,ki⟩
  clear hd Wm xil ki kh
  clear xi
  have so:=J.sh o ho
  have Uy:(i:Int)+1∉ts.map (·.1)∨True:=.inr trivial
  clear Uy
  refine bl (cy W.ok (W.glob rfl) (W.kx 345 _ rfl) rfl R3 O.frames (aj (aa mt) (aa rfl) (aT J.t (J.tt o ho))) (aw (aw (aj (aa mc) ae (gc0 lc)) (aw (aa rfl) ae bx) (dG (vK) (Oe hb fQ))) (aa rfl) bx) (Fn.mono (hK W H' (tx o) _ (Ae so)) (fun d3 H2 z=>?_) fun _ _ z=>z.elim))
  refine Hw (d0:=H2) (d1:=d3) z fun l hl=>?_;clear z
  refine Pe.ev (aa mt) (Pe.ev (aw (aa rfl) ae bx) ⟨ta,ts,(i:Int)+1,rfl,rfl,J.t,by exact Ad hs tf,fun o2=>?_⟩)
  have t2:=ax.same H' ta o2 (bR ts ((i:Int)+1) (.s l))
  have nt:=J.pa.i.ne_dict J.t
  have eZ:bc (H'.set ta ⟨o2,.dict (bR ts ((i:Int)+1) (.s l))⟩) x dx hd b ((i:Int)+1) bG:=⟨J.pa.i.ne nt.1 nt.2,J.pa.d.ne J.th.symm⟩
  have d2:=J.d.ne (x:=⟨o2,.dict (bR ts ((i:Int)+1) (.s l))⟩) J.kt
  have Gr:=lc.ne (x:=⟨o2,.dict (bR ts ((i:Int)+1) (.s l))⟩) (lc.ne_dict J.t)
  have k2:∀a,a≠ta→(H'.set ta ⟨o2,.dict (bR ts ((i:Int)+1) (.s l))⟩) a=H' a:=fun a h=>bj _ _ h
  generalize H'.set ta ⟨o2,.dict (bR ts ((i:Int)+1) (.s l))⟩=H3 at t2 eZ d2 Gr k2 ⊢
  have to:aF (bR ts ((i:Int)+1) (.s l)) o=some (.s (tx o)):=by rw[bZ];exact(if_neg (fun q:o=(i:Int)+1=>hn (q▸ho))).trans (J.tt o ho)
  have tn:aF (bR ts ((i:Int)+1) (.s l)) ((i:Int)+1)=some (.s l):=by rw[bZ,if_pos rfl]
  have uF:(i:Int)+1∉kv.map (·.1):=fun q=>hn (ay.mpr q)
  refine bl (cP (az (Pe.ev (aa rfl) (az (cy W.ok (W.glob rfl) (W.kx 359 _ rfl) rfl R1 O.frames (aj (aa mt) (aa rfl) (aT t2 to)) (aj (aa mt) (aw (aa rfl) ae bx) (aT t2 tn)) (Fn.mono (cQ W H3 (tx o) l (Od so) (Oc so hl)) (fun d H1 z=>?_) fun _ _ z=>z.elim))))))
  refine Ge (d0:=H1) (d1:=d) z fun ca ce C=>?_;clear z
  refine bk ⟨by show 2≤sizeLine;exact cH hs,Pe.ev (aa mk) (Pe.ev (aw (aa rfl) ae bx) ⟨ak,kv,(i:Int)+1,rfl,rfl,d2,by exact Ob hs bf,fun o4=>?_⟩)⟩
  rw[cc uF]
  have hle:V.tup [.int o,.tup [.int (ca:Int),.s (((tx o).take ((tx o).length-ce)).drop ca),.s ((l.take (l.length-ce)).drop ca)]]=cu o (tx o) l ca ce:=rfl
  rw[hle]
  refine i4 (iW (o:=o) C) fun g1 dd1 hd1 st=>?_
  obtain⟨xW,E1⟩:∃fk,bh (kv++[((i:Int)+1,cu o (tx o) l ca ce)]) (fun y=>if y=(i:Int)+1 then l else tx y) fk:=by rw[hd1];exact J.E.put_lean hn ho (vB bf) (rG so hl) st
  have E0:bh (kv++[((i:Int)+1,.tup [.none,.s l])]) (fun y=>if y=(i:Int)+1 then l else tx y) rk:=J.E.put_root hn (vB bf) (rG so hl)
  have kn:aJ (kv++[((i:Int)+1,cu o (tx o) l ca ce)]) ((i:Int)+1):=(eC _).mpr (.inr rfl)
  have d4:=ax.same H3 ak o4 (kv++[((i:Int)+1,cu o (tx o) l ca ce)])
  have nk:=eZ.i.ne_dict d2
  have rm:∀y:fc,bc (H3.set ak y) x dx hd b ((i:Int)+1) bG:=fun y=>⟨eZ.i.ne nk.1 nk.2,eZ.d.ne J.kh.symm⟩
  have t4:∀y:fc,ax (H3.set ak y) ta (bR ts ((i:Int)+1) (.s l)):=fun y=>t2.ne J.kt.symm
  have Uj:∀y:fc,ai (H3.set ak y) ac [.int c0,.int c1]:=fun y=>Gr.ne (Gr.ne_dict d2)
  refine q2 (J.E.chain ho) fun oX BP x0l=>?_
  have bp:bases (kv++[((i:Int)+1,cu o (tx o) l ca ce)])=bases kv++[((i:Int)+1,.int o)]:=by rw[cO];rfl
  have Ut:∀ {xs:List Int},av (bases (kv++[((i:Int)+1,cu o (tx o) l ca ce)])) ((i:Int)+1) xs→xs.length=oX.length+1:=fun h=>by
   rw[bp] at h
   have g0:aF (bases kv++[((i:Int)+1,V.int o)]) ((i:Int)+1)=some (.int o):=by rw[bC (by rw[cJ];exact uF),if_pos rfl]
   rw[h.uniq (.step g0 (BP.keep fun y hy=>fK (fun q=>hn (aW.mp q)) y hy)),List.length_cons]
  have Ur:∀(dd:V) (y:Int),aJ (kv++[((i:Int)+1,dd)]) y↔0≤y∧y≤((i+1:Nat):Int):=fun dd y=>by rw[eC,kk];exact Oa
  have fin:∀ {m2:bL} {H5 H6:AH} {dd:V} {fk:Int→Nat} {oc:Obj},H5=H3.set ak ⟨oc,.dict (kv++[((i:Int)+1,dd)])⟩→dO H5 H6 dx hd→bc H6 x dx hd b ((i:Int)+1+1) (bG++[((i:Int)+1,dd)])→bh (kv++[((i:Int)+1,dd)]) (fun y=>if y=(i:Int)+1 then l else tx y) fk→m2 (Str.ofString "_law_pack")=some (.ref x)→m2 (Str.ofString "_law_kept")=some (.ref ak)→m2 (Str.ofString "_law_texts")=some (.ref ta)→m2 (Str.ofString "_law_bound")=some (.int b)→m2 (Str.ofString "_law_cells_here")=some (.ref ac)→Q .next m2 H6:=fun {m2 H5 H6 dd fk oc} e5 k6 uI E' h1 h2 h3 h4 h5=>by
   subst e5
   have d6:=cz k6 (rm _) (ax.same _ _ _ _) J.kh
   have t6:=cz k6 (rm _) (t4 _) J.th
   have l6:ai H6 ac [.int c0,.int c1]:=by
    have q1:=((rm ⟨oc,.dict (kv++[((i:Int)+1,dd)])⟩).i.ne_list (Uj _)).2.symm
    have q2:=(Uj ⟨oc,.dict (kv++[((i:Int)+1,dd)])⟩).ne_dict (rm _).d
    refine q4 (Uj ⟨oc,.dict (kv++[((i:Int)+1,dd)])⟩) fun o' e'=>?_
    exact⟨o',(k6 ac (by rw[e'];exact fun z=>nomatch z) q1 q2).trans e'⟩
   have J6:=J.put (Ac so hl) (N9) E' uI d6 t6
   have kp':xc H H6 dx hd ak ta:=fun a ha n1 n2 n3 n4=>by
    have q0:H' a≠none:=by rw[kp a ha n1 n2 n3 n4];exact ha
    have q1:(H3.set ak ⟨oc,.dict (kv++[((i:Int)+1,dd)])⟩) a=H' a:=(bj _ _ n3).trans (k2 a n4)
    rw[k6 a (by rw[q1];exact q0) n1 n2,q1,kp a ha n1 n2 n3 n4]
   exact hQ _ _ _ ⟨⟨by exact N8 fQ,by rw[hu2];exact⟨_,_,_,_,fk,J6,Ur dd,l6,kp',h1,h2,h3,h4,h5⟩⟩,fun _ h=>(nomatch h)⟩
  refine aL (aH (aw (Pe.of_ext (d:=.int ((oX.length:Int)+1)) (cj W.ok (bu W) (cy W.ok (W.glob rfl) (W.kx 397 _ rfl) rfl R1 O.frames (aa mk) (aw (aa rfl) ae bx) (Fn.mono (cf W _ ak _ _ xW ((i:Int)+1) d4 E1 kn) (fun d H6 z=>?_) fun _ _ z=>z.elim)))) ae dF) (aa mb) jw decide_eq_true_iff) (fun g=>?_) (fun g=>?_)
  ·refine nR (d0:=d) (d1:=H6) z fun a6 o6 ys h6 sN yl=>?_;clear z
   exact(cT (ai.same _ _ _ _) (by rw[List.length_map];exact iF hs yl)).op ⟨congrArg V.int (by rw[List.length_map,Ut sN];rfl),aC.set (aC.refl _) h6⟩
  ·refine bl (Pe.ev (bM (au bS (au (aj (aa mt) (aw (aa rfl) ae bx) (aT (t4 _) tn)) aU)) (by show 2≤sizeLine;exact cH hs)) (Pe.ev (aa mk) (Pe.ev (aw (aa rfl) ae bx) ⟨ak,_,(i:Int)+1,rfl,rfl,d4,by rw[List.length_append];show kv.length+1≤_;exact N7 hs bf,fun o5=>?_⟩)))
   rw[jZ hn,AH.set_set]
   refine iS (nJ W.kx pc R2 O.frames (aa mp) (rm _).i rfl iN iM (W.kx 204 _ rfl) rfl (aj (d:=.s l) (aa mt) (aw (aa rfl) ae bx) (aT (t4 _) tn)) bS (Fn.mono (eT W _ x dx hd b ((i:Int)+1) bG tx rk l (rm _) J.EP ?_ (rG so hl) HJ J.b0) (fun d H6 z=>?_) fun _ _ z=>z.elim))
   ·have:=(List.perm_ext_iff_of_nodup J.EP.nd J.E.nd).mpr (fun y=>by rw[← ay,← ay];exact J.dj.key)
    have:=this.length_eq
    rw[List.length_map,List.length_map] at this;exact rF bf this
   refine pf (d0:=d) z fun uI k6=>?_;clear z
   exact aO (fin rfl k6 uI E0 mp mk mt mb mc)
  ·refine iS (nJ W.kx pc R4 O.frames (aa mp) (rm _).i rfl iN iM (W.kx 204 _ rfl) rfl (aj (d:=.s l) (aa mt) (aw (aa rfl) ae bx) (aT (t4 _) tn)) (aa rfl) (Fn.mono (i7 W _ x dx hd b ((i:Int)+1) o bG tx rk l oX (rm _) J.EP ?_ (rG so hl) HJ (J.dj.key.mpr ho) ((dS.symm J.dj).bases.chain BP) (N6 g)) (fun d H6 z=>?_) fun _ _ z=>z.elim))
   ·have:=(List.perm_ext_iff_of_nodup J.EP.nd J.E.nd).mpr (fun y=>by rw[← ay,← ay];exact J.dj.key)
    have:=this.length_eq
    rw[List.length_map,List.length_map] at this;exact rF bf this
   refine pf (d0:=d) z fun DU k6=>?_;clear z;obtain⟨a6,e6,C6,uI⟩:=DU
   refine q3 (C.uniq C6) fun DT DS=>?_;obtain rfl:=DT;obtain rfl:=DS
   exact aO (fin rfl k6 uI E1 mp mk mt mb mc)
 ·rintro m' H' ⟨_,hS⟩ _
  have e:((b:Int)+5).toNat=b+5:=by exact N5
  rw[e,qT (b+5)] at hS
  obtain⟨bG,kv,ts,tx,rk,J,kk,lc,kp,mp,mk,mt,mb,mc⟩:=hS
  refine aK (Pe.ev (aw (aa mb) ae bx) (eH _ _ ⟨bG,kv,ts,tx,rk,rfl,fun q=>?_,J.less (N0 hb),kp⟩))
  obtain⟨d,hd⟩:=(kk 0).mpr (NZ)
  rw[q] at hd;cases hd
inductive Be9(d:V)(H':AH):Prop
 | mk (ab x dx hd ak ta:Addr) (b num:Int) (lim:Nat) (bG kv ts:List (Int×V)) (tx:Int→List Nat) (rk:Int→Nat):d=.ref ab→ai H' ab [.ref x,.ref ak,.ref ta,.int b,.int num,.int lim]→lim≤8→0≤num→kv≠[]→Jn H' x dx hd ak ta b (num+1) bG kv ts tx rk 8→Be9 d H'
theorem p7{kv:List (Int×V)}{tx:Int→List Nat}{rk:Int→Nat}(E:bh kv tx rk)(de:kv≠[]):∃M:Int,∀M',((∃k xs,aJ kv k∧av (bases kv) k xs∧(xs.length:Int)=M'+1)∧∀k xs,av (bases kv) k xs→(xs.length:Int)≤M'+1)→M'=M:=by
 by_cases h:∃M',(∃k xs,aJ kv k∧av (bases kv) k xs∧(xs.length:Int)=M'+1)∧∀k xs,av (bases kv) k xs→(xs.length:Int)≤M'+1
 ·refine q2 h fun M DR h3=>?_;clear h;obtain⟨k,xs,_,h1,h2⟩:=DR
  refine⟨M,fun M' ⟨⟨k',xB,_,g1,g2⟩,g3⟩=>?_⟩
  have:=h3 k' xB g1
  have:=g3 k xs h1
  exact NY h2 g2 (by assumption) this
 ·exact⟨0,fun M' z=>(h ⟨M',z⟩).elim⟩
theorem Jn.first{H:AH}{x dx hd ak ta:Addr}{b:Int}{t:List Nat}(PA:bc H x dx hd b 1 [((0:Int),V.tup [.none,.s t])])(D:ax H ak [(0,.tup [.none,.s t])])(T:ax H ta [(0,.s t)])(ht:t.length≤600)(b0:0≤b)(kh:ak≠hd)(th:ta≠hd)(kt:ak≠ta):Jn H x dx hd ak ta b 1 [((0:Int),V.tup [.none,.s t])] [(0,.tup [.none,.s t])] [(0,.s t)] (fun y=>if y=0 then t else(fun _=>[]) y) (fun _=>0) 26:=by
 have VZ:¬aJ ([]:List (Int×V)) 0:=fun Cj=>q4 Cj fun d h=>nomatch h
 have E:bh [((0:Int),V.tup [.none,.s t])] (fun y=>if y=0 then t else(fun _=>[]) y) (fun _=>0):=bh.put_root (bh.nil fun _=>by exact rW) VZ (by decide) (vA ht)
 have key:∀ {k:Int} {d:V},aJ [((0:Int),d)] k→k=0:=fun {k d} h=>by
  have:=ay.mp h
  simpa using this
 refine { pa:=PA,dj:=fun _=>rfl,d:=D,t:=T,E:=E,EP:=E,tt:=fun k hk=>?_,tf:=by show 1+26≤40;decide,sh:=fun k hk=>?_,bf:=by show 1+26≤39;decide,pos:=fun k hk=>by rw[key hk];exact NX,b0:=b0,kh:=kh,th:=th,kt:=kt }
 ·rw[key hk];rfl
 ·rw[key hk];show t.length+9*26≤9000;exact NW ht
theorem ti(W:Lw c (KK P) sc ns)(H:AH)(ak ta:Addr)(kv:List (Int×V))(tx:Int→List Nat)(rk:Int→Nat)(D:ax H ak kv)(T:ax H ta (kv.map fun p=>(p.1,V.s (tx p.1))))(E:bh kv tx rk)(de:kv≠[])(bf:kv.length≤6)(pQ:∀k,aJ kv k→0≤k∧(tx k).length≤600)(kt:ak≠ta):
  Fn c 7 (.ref 492) [.ref sc,.ref ak,.ref ta] H Be9 (fun _ _=>False):=by
 have hs:1000000≤sizeLine:=by decide
 have k0:0<kv.length:=List.length_pos_iff.mpr de
 refine q4 (fJ kv) fun aX S=>?_
 have sl:=S.len
 have s0:aX[0]?=some (aX.getD 0 0):=by rw[List.getD_eq_getElem?_getD,List.getElem?_eq_getElem (MG k0 sl)];rfl
 have f0:aJ kv (aX.getD 0 0):=S.mem.mp (List.mem_of_getElem? s0)
 have ft:=(pQ _ f0).2
 refine Fn.gen fun QQ eH=>?_;refine aV W.ok.lim (W.kx 492 _ rfl) rfl rfl (codeRec_of W.kx rfl) rfl (names:=["_law_script","_law_kept","_law_texts"]) (jf rfl fun _ _ _=>rfl) rfl (by decide) (fun n=>lM (.inl rfl) (.inl rfl) (.inl rfl)) rfl rfl rfl fun A L bK hE R O=>?_
 have R1:bw 1 A:=R.le (NT)
 have R2:bw 2 A:=R.le (Ah)
 have R3:bw 3 A:=R.le (NS)
 have R4:bw 4 A:=R.le (Ag)
 have R6:bw 6 A:=R.le (Af)
 refine ag (Pe.ev (aj (d:=.s (tx (aX.getD 0 0))) (aa rfl) (Pe.of_ext (d:=.int (aX.getD 0 0)) (j7 (cj W.ok (cg W) (Pe.ev (aa rfl) (cK W.ok R.handled D (Ab bf) fun a1 o1 s1 h1 pm1 pw1=>ae.ev ⟨_,bN (d:=.int (aX.getD 0 0)) (j:=0) (ai.same _ _ _ _) (bo (by decide) (by rw[List.length_map,(show fR kv s1 from⟨pm1,pw1⟩).len];exact lK k0)) (aQ (by rw[(show fR kv s1 from⟨pm1,pw1⟩).uniq S];exact s0)) (by decide),rfl,aC.set (aC.refl _) h1⟩))))) (aT T (mj f0))) ?_) (.inl rfl)
 obtain⟨t,htt⟩:∃t,t=tx (aX.getD 0 0):=⟨_,rfl⟩
 rw[← htt] at ft ⊢
 have VZ:¬aJ ([]:List (Int×V)) 0:=fun Ci=>q4 Ci fun d h=>nomatch h
 refine aL (aH (aw (eU W R1 O.frames rfl) ae (bV (by decide))) ae fg beq_iff_eq) (fun _=>?_) (fun _=>?_)
 ·obtain⟨b,hb,b7⟩:∃b:Nat,7+dg ns 43 % 7=(b:Int)∧b≤13:=⟨(7+dg ns 43 % 7).toNat,by exact NQ,by exact NP⟩
  refine ag (Pe.ev (iZ hb (aw ae (aw (eU W R1 O.frames rfl) ae (bV (by decide))) bx)) ?_) (.inl rfl)
  refine ag (iU W.ok (fun H' _=>ae) (fun H' _=>aa rfl) fun uA ot xF=>?_) (.inl rfl)
  refine ag (iU W.ok (fun H' _=>ae) (fun H' _=>bM (au bS (au (aa rfl) aU)) (by show 2≤sizeLine;exact cH hs)) fun nF ok sr=>?_) (.inl rfl)
  have T1:=(ax.same H uA ot [(0,.s t)]).fresh (x:=⟨ok,.dict [(0,.tup [.none,.s t])]⟩) sr
  have D1:=ax.same (H.set uA ⟨ot,.dict [(0,.s t)]⟩) nF ok [(0,.tup [.none,.s t])]
  have ZR:nF≠uA:=((ax.same H uA ot [(0,.s t)]).ne_new sr).symm
  generalize AH.set (H.set uA ⟨ot,.dict [(0,.s t)]⟩) nF ⟨ok,.dict [(0,.tup [.none,.s t])]⟩=H1 at T1 D1 ⊢
  refine ag (oK W R3 O.frames (aa rfl) (dW) (NO hb) fun x dx hd H2 e2 hx qy BW PA=>?_) (.inl rfl)
  have D2:=e2.dict D1
  have T2:=e2.dict T1
  have We:nF≠hd:=D1.ne_new BW
  have VQ:uA≠hd:=T1.ne_new BW
  refine iS (nJ W.kx pc R2 O.frames (aa rfl) PA.i rfl iN iM (W.kx 204 _ rfl) rfl (aa rfl) bS (Fn.mono (eT W H2 x dx hd b 0 [] (fun _=>[]) (fun _=>0) t PA (bh.nil fun _=>by exact rW) (by decide) (vA ft) VZ (dW)) (fun d H3 z=>?_) fun _ _ z=>z.elim))
  refine pf (d0:=d) z fun mK Gv=>?_;clear z
  have D3:=cz Gv PA D2 We
  have T3:=cz Gv PA T2 VQ
  have J3:=Jn.first mK D3 T3 ft (dW) We VQ ZR
  refine ag (xt W.ok (W.glob rfl) (W.kx 485 _ rfl) rfl R6 O.frames (az (Pe.ev (aa rfl) (az (Pe.ev (aa rfl) (az (Pe.ev (aa rfl) (az (Pe.ev (aa rfl) (az (cw W.ok (nG.nz (au (eU W R1 O.frames rfl) (au (eU W R1 O.frames rfl) aU)) ⟨by show 2≤sizeLine;exact cH hs,fun ac oc qY=>bk (Fn.mono (uY W _ x dx hd nF uA ac b (dg ns 44) (dg ns 45) _ _ _ _ _ (J3.ext (aC.set (aC.refl _) qY)) (fun y=>?_) (ai.same _ _ _ _) b7) (fun d H4 z=>?_) fun _ _ z=>z.elim)⟩)))))))))))) (.inl rfl)
  ·rw[ay];show y∈[(0:Int)]↔_;rw[List.mem_singleton];exact NN
  obtain⟨bG,kv4,ts4,tx4,rk4,rfl,aae,J4,_⟩:=z
  refine aK (cw W.ok (nG.nz (au (aa rfl) (au (aa rfl) (au (aa rfl) (au (aa rfl) (au (aa rfl) (au ae aU)))))) ⟨by show 6≤sizeLine;exact vz hs,fun ab ob jy=>?_⟩))
  exact(eH _ _ ⟨ab,x,dx,hd,nF,uA,b,_,4,bG,kv4,ts4,tx4,rk4,rfl,ai.same _ _ _ _,by decide,by exact NM,aae,J4.ext (aC.set (aC.refl _) jy)⟩)
 refine aL (aH (aw (eU W R1 O.frames rfl) ae (bV (by decide))) ae fg beq_iff_eq) (fun _=>?_) (fun _=>?_)
 ·refine ag (Pe.ev (aw (eU W R1 O.frames rfl) ae (bV (by decide))) ?_) (.inl rfl)
  have b0:0≤dg ns 38 % 7∧dg ns 38 % 7≤1000:=by exact NL
  generalize dg ns 38 % 7=b at b0
  refine ag (oK W R3 O.frames (aa rfl) b0.1 b0.2 fun x dx hd H2 e2 hx qy BW PA=>?_) (.inl rfl)
  refine iS (nJ W.kx pc R2 O.frames (aa rfl) PA.i rfl iN iM (W.kx 204 _ rfl) rfl (aa rfl) bS (Fn.mono (eT W H2 x dx hd b 0 [] (fun _=>[]) (fun _=>0) t PA (bh.nil fun _=>by exact rW) (by decide) (vA ft) VZ b0.1) (fun d H3 z=>?_) fun _ _ z=>z.elim))
  refine pf (d0:=d) z fun mK Gv=>?_;clear z
  refine aK (cw W.ok (az (Pe.ev (aa rfl) (az (iU W.ok (fun H' _=>ae) (fun H' _=>bM (au bS (au (aa rfl) aU)) (by show 2≤sizeLine;exact cH hs)) fun nF ok sr=>az (iU W.ok (fun H' _=>ae) (fun H' _=>aa rfl) fun uA ot xF=>az (Pe.ev (aa rfl) (az (Pe.ev ae (az (Pe.ev ae (bk ⟨by show 6≤sizeLine;exact vz hs,fun ab ob jy=>?_⟩))))))))))))
  have e4:=aC.set (x:=⟨ok,.dict [(0,.tup [.none,.s t])]⟩) (aC.refl H3) sr
  have e5:=aC.set (x:=⟨ot,.dict [(0,.s t)]⟩) e4 xF
  have D5:=(ax.same H3 nF ok [(0,.tup [.none,.s t])]).fresh (x:=⟨ot,.dict [(0,.s t)]⟩) xF
  have ZR:nF≠uA:=(ax.same H3 nF ok [(0,.tup [.none,.s t])]).ne_new xF
  have We:nF≠hd:=fun q=>mK.some_x.2.2 (q▸sr)
  have VQ:uA≠hd:=fun q=>(mK.ext e4).some_x.2.2 (q▸xF)
  have J5:=Jn.first (mK.ext e5) D5 (ax.same _ _ _ _) ft b0.1 We VQ ZR
  exact(eH _ _ ⟨ab,x,dx,hd,nF,uA,b,0,8,_,_,_,_,_,rfl,ai.same _ _ _ _,by decide,by decide,by simp,(J5.less (NK)).ext (aC.set (aC.refl _) jy)⟩)
 ·refine q4 (p7 E de) fun M hM=>?_
  have Mp:∀ {f:Fx} {m:bL} {e:Expr} {p₁ p:Pos} (R:bw 2 f.A) (pW:f.A.frames=some f.bK) (he:Pe c f e m H (.ref ak)),True:=fun _ _ _=>trivial
  clear Mp
  have LG:Fn c 2 (.ref 402) [.ref ak] H (fun d H'=>d=.int M∧H'=H) (fun _ _=>False):=Fn.mono (qG W H ak kv tx rk D E de) (fun d H' z=>by refine Ya (d0:=H') (d1:=d) z fun M' _ _ z1 z2=>?_;clear z;exact⟨by rw[hM M' ⟨z1,z2⟩],rfl⟩) fun _ _ z=>z.elim
  have facts:0≤M∧M≤60∧∀k xs,av (bases kv) k xs→(xs.length:Int)≤M+1:=by
   refine q4 (E.jt) fun cl fS=>?_
   refine q2 (eP ((kv.map (·.1)).map fun v=>((cl v).length:Int)-1) (by simpa using de)) fun N h1 h2=>?_
   refine q2 (List.mem_map.mp h1) fun v hv ev=>?_
   have kv_:=ay.mpr hv
   have le:∀k xs,av (bases kv) k xs→(xs.length:Int)≤N+1:=fun k xs h=>by
    have kk:aJ kv k:=aW.mp (h.keys k (by refine q4 (h.head) fun r hr=>?_;rw[hr];exact .head _))
    rw[h.uniq (fS k kk).1]
    have:=h2 _ (List.mem_map.mpr ⟨k,ay.mp kk,rfl⟩)
    exact NJ this
   obtain rfl:=hM N ⟨⟨v,cl v,kv_,(fS v kv_).1,by exact NI ev⟩,le⟩
   have:=(fS v kv_).1.pos
   have:=(fS v kv_).2
   exact⟨by exact NH ev (by assumption),by exact NG ev this,le⟩
  refine iz facts fun M0 M60 hMl=>?_;clear facts
  obtain⟨j,hj,j3⟩:∃j:Nat,dg ns 2 % 3=(j:Int)∧j<3:=⟨(dg ns 2 % 3).toNat,by exact NF,by exact ND⟩
  obtain⟨bd,hbd,b0,b1,hb⟩:∃bd:Int,[V.int M,V.int (M+1),V.int 1000][j]?=some (.int bd)∧0≤bd∧bd≤1000∧∀k xs,av (bases kv) k xs→(xs.length:Int)≤bd+1:=by
   match j,j3 with
   | 0,_=>exact⟨M,rfl,M0,by exact NC M60,hMl⟩
   | 1,_=>exact⟨M+1,rfl,by exact rO M0,by exact NB M60,fun k xs h=>by have:=hMl k xs h;exact NA this⟩
   | 2,_=>exact⟨1000,rfl,by exact Nz,by exact Ny,fun k xs h=>by have:=hMl k xs h;exact Nx M60 this⟩
  refine ag (Pe.ev (y7 W.ok (au (gw W.ok (W.glob rfl) (W.kx 402 _ rfl) rfl R2 O.frames (aa rfl) LG) (au (aw (gw W.ok (W.glob rfl) (W.kx 402 _ rfl) rfl R2 O.frames (aa rfl) LG) ae bx) (au ae aU))) (cF _ _ _) (fun H' _=>iZ hj (aw (eU W R1 O.frames rfl) ae (bV (by decide)))) (bo (dW) (by show _<(3:Int);exact Nw hj)) (by rw[Int.toNat_natCast];exact hbd) (Nv hj)) ?_) (.inl rfl)
  have xV:aX≠[]:=fun e=>by rw[e] at sl;simp at sl;exact rH k0 sl
  refine aK (cw W.ok (az (gK W.ok (W.glob rfl) (W.kx 312 _ rfl) rfl R4 O.frames (kL W.ok (W.glob rfl) (W.kx 390 _ rfl) rfl R1 O.frames (aa rfl) (Fn.mono (lu W H ak kv tx rk D E) (fun d H5 z=>?_) fun _ _ z=>z.elim)))))
  refine oQ (d0:=d) z fun aro s2 e5 _ S2 lr=>?_;clear z
  obtain rfl:=S2.uniq S
  refine(aa rfl).ev (Fn.mono (tc W H5 aro bd kv s2 tx rk lr S2 E b0 b1 (fun k hk=>(pQ k hk).1) hb) (fun d H6 z=>?_) fun _ _ z=>z.elim)
  refine X9 (d0:=d) z fun x dx hd e6 hx qy BW PA=>?_;clear z
  have D5:=e5.dict D
  have T5:=e5.dict T
  have D6:=e6.dict D5
  refine az (Pe.ev (aa rfl) (az (Pe.ev (aa rfl) (az (Pe.ev (aa rfl) (az (Pe.ev (Pe.of_ext (d:=.int (cY s2)) (j7 (cj W.ok (cg W) (Pe.ev (aa rfl) (cK W.ok R.handled D6 (Ab bf) fun a4 o4 s4 h4 Yf Ye=>(dE ae).ev ?_))))) (az (Pe.ev ae (bk ⟨by show 6≤sizeLine;exact vz hs,fun ab ob jy=>?_⟩))))))))))
  ·obtain rfl:=(show fR kv s4 from⟨Yf,Ye⟩).uniq S2
   exact⟨_,bN (j:=s4.length-1) (ai.same _ _ _ _) ((cC (rR) (by rw[List.length_map];exact Aa k0 sl)).trans (congrArg some (by rw[List.length_map];exact vC))) (aQ (gX xV)) (m9),rfl,aC.set (aC.refl _) h4⟩
  have EP:=E.heldOf S2
  have dj:dS (Mine.heldOf kv s2) kv:=cB S2
  have l0:0≤cY s2:=by
   have:=List.mem_of_getElem? (gX xV)
   exact(pQ _ (S2.mem.mp this)).1
  have J6:Jn H6 x dx hd ak ta bd (cY s2+1) (Mine.heldOf kv s2) kv (kv.map fun p=>(p.1,V.s (tx p.1))) tx rk 8:=
   { pa:=PA,dj:=dj,d:=e6.dict D5,t:=e6.dict T5,E:=E,EP:=EP,tt:=fun k hk=>mj hk,tf:=by rw[List.length_map];exact Nu bf,sh:=fun k hk=>by have:=(pQ k hk).2;exact Nr this,bf:=by exact Np bf,pos:=fun k hk=>by have:=(pQ k hk).1;have:=tK S2.pw (S2.mem.mpr hk);exact Nn (by assumption) this,b0:=b0,kh:=D5.ne_new BW,th:=T5.ne_new BW,kt:=kt }
  exact(eH _ _ ⟨ab,x,dx,hd,ak,ta,bd,cY s2,8,_,kv,_,tx,rk,rfl,ai.same _ _ _ _,by decide,l0,de,J6.ext (aC.set (aC.refl _) jy)⟩)
theorem ku:∀ {l:List (Int×Int)},l≠[]→∃M∈l,∀x∈l,bQ M x=false
 | [],h=>(h rfl).elim
 | [a],_=>⟨a,.head _,fun x hx=>by rw[List.mem_singleton] at hx;subst hx;exact bT.mpr (ng)⟩
 | a::b::r,_=>by
  refine q2 (ku (l:=b::r) (by simp)) fun M hM hm=>?_
  by_cases q:bQ M a=true
  ·refine⟨a,.head _,fun x hx=>?_⟩
   cases hx with
   | head=>exact bT.mpr (ng)
   | tail _ hx=>have:=bT.mp (hm x hx);have:=fA.mp q;exact bT.mpr (by exact NV (by assumption) this)
  ·refine⟨M,.tail _ hM,fun x hx=>?_⟩
   cases hx with
   | head=>simpa using q
   | tail _ hx=>exact hm x hx
theorem hV{H H':AH}{x dx hd a:Addr}{b n:Int}{kvs:List (Int×V)}{ds:List V}(kp:dO H H' dx hd)(PA:bc H x dx hd b n kvs)(h:ai H a ds):ai H' a ds:=by
 have q1:=(PA.i.ne_list h).2.symm
 have q2:=h.ne_dict PA.d
 refine q4 h fun o e=>?_;clear h
 exact⟨o,(kp a (by rw[e];exact fun z=>nomatch z) q1 q2).trans e⟩
theorem Jn.store{H H':AH}{x dx hd ak kG ta:Addr}{b n:Int}{bG kv dP bP ts:List (Int×V)}{tx:Int→List Nat}{rk:Int→Nat}{u:Nat}{l:List Nat}{j4:V}(J:Jn H x dx hd ak ta b n bG kv ts tx rk (u+1))(hl:l.length+9*u≤9000)(n0:0≤n)(SP:eE bG dP tx b n l j4)(SK:eE kv bP tx b n l j4)
  (yb:bc H' x dx hd b (n+1) dP) (d':ax H' kG bP) (t':ax H' ta (bR ts n (.s l))) (kh:kG≠hd) (kt:kG≠ta):bP≠[]∧∃fk,Jn H' x dx hd kG ta b (n+1) dP bP (bR ts n (.s l)) (fun y=>if y=n then l else tx y) fk u:=by
 have hn:¬aJ kv n:=fun h=>by have:=J.pos n h;exact Ar this
 have HJ:¬aJ bG n:=fun h=>hn (J.dj.key.mp h)
 have bf:=J.bf
 have tf:=J.tf
 have pl:bG.length=kv.length:=by
  refine q4 (fJ bG) fun s S=>?_
  rw[← S.len,(J.dj.aX J.EP.nd J.E.nd S).len]
 obtain⟨⟨fk,E'⟩,key,len,_⟩:=SK.facts J.E hn (vB bf) (rE hl) J.b0
 obtain⟨⟨rkp,VC⟩,_,_,_⟩:=SP.facts J.EP HJ (rF bf pl) (rE hl) J.b0
 have jA:=SP.dj SK J.dj hn (fun k hk=>let ⟨xs,h,_⟩:=J.E.chain hk;⟨xs,h⟩)
 refine⟨fun q=>by rw[q] at len;simp at len,fk,{ pa:=yb,dj:=jA,d:=d',t:=t',E:=E',EP:=E'.dj (dS.symm jA) VC.nd VC.bf,tt:=fun k hk=>?_,tf:=by have:=qa (kvs:=ts) (k:=n) (d:=.s l);exact Aq tf this,sh:=fun k hk=>?_,bf:=by exact NR bf len,pos:=fun k hk=>?_,b0:=J.b0,kh:=kh,th:=J.th,kt:=kt }⟩
 ·rw[bZ]
  by_cases e:k=n
  ·rw[if_pos e,if_pos e]
  ·rw[if_neg e,if_neg e];exact J.tt k (((key k).mp hk).resolve_right e)
 ·by_cases e:k=n
  ·rw[if_pos e];exact hl
  ·rw[if_neg e];have:=J.sh k (((key k).mp hk).resolve_right e);exact Ap this
 ·rcases (key k).mp hk with e | e
  ·have:=J.pos k e;exact An this
  ·exact Ao n0 e
inductive S9(c:Cx)(sc x dx hd ta ah ab Vm:Addr)(b nS:Int)(lim:Nat)(u pl:Nat)(m:bL)(H:AH):Prop
 | mk (num:Int) (ak:Addr) (bG kv ts:List (Int×V)) (tx:Int→List Nat) (rk:Int→Nat) (lt:List Nat) (G:AH) (ps:List V):Jn H x dx hd ak ta b (num+1) bG kv ts tx rk u→0≤num→kv≠[]→lt.length+9*u≤9000→ai H ah ps→ps.length≤pl→aC G H→(G dx=none∧G hd=none∧G ta=none∧G ah=none)→(∀d∈ps,qj c G d)→ai H ab [.ref x,.ref Vm,.ref ta,.int b,.int nS,.int lim]→ab≠ah→
  m (Str.ofString "_law_script")=some (.ref sc)→m (Str.ofString "_law_begun_here")=some (.ref ab)→m (Str.ofString "_law_pack")=some (.ref x)→m (Str.ofString "_law_texts")=some (.ref ta)→m (Str.ofString "_law_bound")=some (.int b)→m (Str.ofString "_law_number")=some (.int num)→m (Str.ofString "_law_kept")=some (.ref ak)→m (Str.ofString "_law_last")=some (.s lt)→m (Str.ofString "_law_held")=some (.ref ah)→S9 c sc x dx hd ta ah ab Vm b nS lim u pl m H
theorem law09(W:Lw c (KK P) sc ns)(U:Vy c (KK P)):Fn c 40 (.ref 497) [.ref sc] (fun _=>none) (fun d _=>d=.bool true) (fun _ _=>False):=by
 have hs:1000000≤sizeLine:=by decide
 refine aV W.ok.lim (W.kx 497 _ rfl) rfl rfl (codeRec_of W.kx rfl) rfl (names:=["_law_script"]) (eK rfl fun _=>rfl) rfl (by decide) (fun n=>hU (.inl rfl)) rfl rfl rfl fun A L bK hE R O=>?_
 have R1:bw 1 A:=R.le (Nm)
 have R2:bw 2 A:=R.le (Nk)
 have R3:bw 3 A:=R.le (Nj)
 have R4:bw 4 A:=R.le (Ni)
 have R5:bw 5 A:=R.le (Nh)
 have R6:bw 6 A:=R.le (Ng)
 have R7:bw 7 A:=R.le (Nf)
 have hu:A.units+400<cLine:=by have:=R.units;exact Nd this
 obtain⟨many,pT,n0,n1⟩:∃many:Nat,1+dg ns 0 % 6=(many:Int)∧1≤many∧many≤6:=⟨(1+dg ns 0 % 6).toNat,by exact Na,by exact M9,by exact M8⟩
 refine ag (Pe.ev (iZ pT (aw ae (aw (eU W R1 O.frames rfl) ae (bV (by decide))) bx)) ?_) (.inl rfl)
 refine ag (gK W.ok (W.glob rfl) (W.kx 385 _ rfl) rfl R4 O.frames (nK W.ok (W.glob rfl) (W.kx 421 _ rfl) rfl R2 O.frames (aa rfl) ae (aa rfl) (Fn.mono (u7 W _ 3 many (by decide) (M7 pT)) (fun d H2 z=>?_) fun _ _ z=>z.elim))) (.inl rfl)
 refine oQ (d0:=d) z fun ca cs e2 hca lca csl=>?_;clear z
 refine(eU W R1 O.frames rfl).ev (Fn.mono (xS W H2 ca cs many (dg ns 1) lca csl n0 (M6 pT)) (fun d H3 z=>?_) fun _ _ z=>z.elim)
 obtain⟨ar,Vm,ta0,kv0,tx0,rk0,rfl,e3,_,_,_,ZJ,D,T,E,kl,kt,pQ⟩:=z
 have UC:kv0≠[]:=fun e=>by rw[e] at kl;simp at kl;exact M5 pT kl
 refine ag (nK W.ok (W.glob rfl) (W.kx 492 _ rfl) rfl R7 O.frames (aa rfl) (aj (aa rfl) ae (bN (d:=.ref Vm) (j:=0) ZJ rfl rfl (by decide))) (aj (aa rfl) ae (bN (d:=.ref ta0) (j:=1) ZJ rfl rfl (by decide))) (Fn.mono (ti W H3 Vm ta0 kv0 tx0 rk0 D T E UC (M4 pT kl) pQ kt) (fun d H4 z=>?_) fun _ _ z=>z.elim)) (.inl rfl)
 clear UC pQ kt kl E T D ZJ e3 csl lca hca e2
 obtain⟨ab,x,dx,hd,WR,ta,bd,nS,lim,bG,kv,ts,tx,rk,rfl,lb,l8,wx,de,J⟩:=z
 refine ag (Pe.ev (aj (aa rfl) ae (bN (d:=.ref x) (j:=0) lb rfl rfl (by decide))) ?_) (.inl rfl)
 refine ag (Pe.ev (aj (aa rfl) ae (bN (d:=.ref ta) (j:=2) lb rfl rfl (by decide))) ?_) (.inl rfl)
 refine ag (Pe.ev (aj (aa rfl) ae (bN (d:=.int bd) (j:=3) lb rfl rfl (by decide))) ?_) (.inl rfl)
 refine ag (Pe.ev (aj (aa rfl) ae (bN (d:=.int nS) (j:=4) lb rfl rfl (by decide))) ?_) (.inl rfl)
 refine ag (qr W.ok (W.glob rfl) (W.kx 459 _ rfl) rfl R6 O.frames (au (aa rfl) (au (aj (aa rfl) ae (bN (d:=.ref WR) (j:=1) lb rfl rfl (by decide))) (au (aa rfl) (au (aa rfl) (au (aw (eU W R1 O.frames rfl) ae (dG (by decide) (by decide))) aU))))) (Fn.mono (lC W U H4 x dx hd WR ta bd (nS+1) _ bG kv ts tx rk 8 J de) (fun d H5 z=>?_) fun _ _ z=>z.elim)) (.inr ⟨rfl,rfl⟩)
 obtain⟨nF,wj,BM,tu,rfl,UB,J2,tM⟩:=z
 have yr:=hV tM J.pa lb
 refine ag (xt W.ok (W.glob rfl) (W.kx 454 _ rfl) rfl R7 O.frames (az (Pe.ev (aa rfl) (az (Pe.ev (aa rfl) (az (Pe.ev (aa rfl) (az (Pe.ev (aa rfl) (az (uw W (aa rfl) ae ae fun ac oc cs2 qY cl2=>bk (Fn.mono (tj W U _ x dx hd nF ta ac bd (nS+1) _ _ ts tx tu 8 cs2 (J2.ext (aC.set (aC.refl _) qY)) UB (ai.same _ _ _ _)) (fun d H6 z=>?_) fun _ _ z=>z.elim)))))))))))) (.inr ⟨rfl,rfl⟩)
 have xE:=yr.fresh (x:=⟨oc,.list (cs2.map V.int)⟩) qY
 have mK:=J2.pa.ext (aC.set (x:=⟨oc,.list (cs2.map V.int)⟩) (aC.refl _) qY)
 obtain⟨ak3,ae9,Wd,rk3,rfl,yB,J3,Gv⟩:=z
 have yq:=hV Gv mK xE
 clear xE mK Gv yr tM J2 lb J de UB
 have U5:=J3.bf
 refine q4 (fJ Wd) fun aX S=>?_
 have sl:=S.len
 have h0:0<Wd.length:=List.length_pos_iff.mpr yB
 have xV:aX≠[]:=fun e=>by rw[e] at sl;simp at sl;exact M3 sl h0
 have wg:aJ Wd (cY aX):=S.mem.mp (List.mem_of_getElem? (gX xV))
 refine ag (Pe.ev (aj (d:=.s (tx (cY aX))) (aa rfl) (Pe.of_ext (d:=.int (cY aX)) (j7 (cj W.ok (cg W) (Pe.ev (aa rfl) (cK W.ok R.handled J3.d (M1 U5) fun a4 o4 s4 h4 Yf Ye=>(dE ae).ev ?_))))) (aT J3.t (J3.tt _ wg))) ?_) (.inl rfl)
 ·obtain rfl:=(show fR Wd s4 from⟨Yf,Ye⟩).uniq S
  exact⟨_,bN (j:=s4.length-1) (ai.same _ _ _ _) ((cC (rR) (by rw[List.length_map];exact Aa h0 sl)).trans (congrArg some (by rw[List.length_map];exact vC))) (aQ (gX xV)) (m9),rfl,aC.set (aC.refl _) h4⟩
 have Gm:=J3.sh _ wg
 generalize tx (cY aX)=lt at Gm ⊢
 refine ag (cw W.ok (bk ⟨Nat.zero_le _,fun ah oh hh=>?_⟩)) (.inl rfl)
 have J7:=J3.ext (aC.set (x:=⟨oh,.list []⟩) (aC.refl _) hh)
 have Wc:=ai.same H6 ah oh []
 have Uk:=yq.fresh (x:=⟨oh,.list []⟩) hh
 have jy:ab≠ah:=yq.ne_new hh
 generalize H6.set ah ⟨oh,.list []⟩=H7 at J7 Wc Uk ⊢
 clear J3 yq hh wg xV sl S U5
 obtain⟨turns,Gy,t8⟩:∃turns:Nat,min (lim:Int) (max 0 ((ns.length:Int)-21) / 2)=(turns:Int)∧turns≤8:=⟨(min (lim:Int) (max 0 ((ns.length:Int)-21) / 2)).toNat,by exact MZ,by exact MX l8⟩
 refine ct O (cW R.handled ((bF W.ok (eD W)).ev ⟨rfl,Pe.ev (iZ (b:=(turns:Int)) Gy (iQ W.ok (lZ W) (aj (aa rfl) ae (bN (d:=.int lim) (j:=5) Uk rfl rfl (by decide))) (aw (iQ W.ok (gB W) ae (aw (ck W.ok (bu W) (aa rfl) (xb W)) ae dF) (nH R.handled)) ae (dG (by decide) (by decide))) (sU R.handled))) ⟨_,rfl,by omega,by omega,fun i m' H'=>i≤turns∧S9 c sc x dx hd ta ah ab WR bd nS lim (8-i) i m' H',⟨by exact vJ,nS,ak3,_,_,_,_,_,lt,(fun _=>none),[],J7,wx,yB,Gm,Wc,by simp,fun a h=>(h rfl).elim,⟨rfl,rfl,rfl,rfl⟩,fun d h=>(nomatch h),Uk,jy,rfl,rfl,rfl,rfl,rfl,rfl,rfl,rfl,rfl⟩,?_,?_⟩⟩)) (.inl rfl)
 ·clear J7 Wc Uk jy Gm yB h0
  rintro i d m' H' ZT dz ⟨hi3,hS⟩ _
  refine Ex.gen fun QQ hQ=>?_
  refine q2 (aI dz) fun j hj DQ=>?_;obtain rfl:=DQ
  refine q4 (List.getElem?_eq_some_iff.mp hj) fun UJ UI=>?_
  rw[List.length_range] at UJ
  rw[List.getElem_range] at UI
  subst UI
  have fQ:i<turns:=by exact vG UJ
  obtain⟨u,hu3⟩:∃u,8-i=u+1:=⟨7-i,by exact MW t8 fQ⟩
  rw[hu3] at hS
  have hu4:8-(i+1)=u:=by exact MV hu3
  obtain⟨num,ak,bG,kv,ts,tx,rk,lt,G,ps,J,wx,de,cA,la,pl,g,gn,hp,lb,jy,ms,mg,mp,mt,mb,mn,mk,ml,mh⟩:=hS
  have GL:H' ah≠none:=by refine q4 la fun o e=>?_;clear la;rw[e];exact fun z=>nomatch z
  have yH:H' ab≠none:=by refine q4 lb fun o e=>?_;clear lb;rw[e];exact fun z=>nomatch z
  refine xm (w4 (ri (qr W.ok (W.glob rfl) (W.kx 478 _ rfl) rfl R5 O.frames (au (aa mp) (au (aa mk) (au (aa mt) (au (g9 W R1 O.frames ms (aw ae (aw ae (aa rfl) (iu (cN (by decide)))) bx) (rC)) (au (aa mh) aU))))) (Fn.mono (o9 W H' G x dx hd ak ta ah bd (num+1) _ bG kv ts tx rk (u+1) ps J de la (MU t8 fQ pl) g gn.2.2.2) (fun d H4 z=>?_) fun _ _ z=>z.elim))))
  refine MA (d0:=d) z fun q G' Ul gg g4 gk pr k4=>?_;clear z
  refine⟨_,rfl,(fun z=>nomatch z),fun _=>?_⟩
  have J4:=J.keep la k4
  have al:=J.alive
  have yq:ai H4 ab [.ref x,.ref WR,.ref ta,.int bd,.int nS,.int lim]:=by refine q4 lb fun o e=>?_;clear lb;exact⟨o,(k4 ab yH jy).trans e⟩
  have WH:G' dx=none∧G' hd=none∧G' ta=none∧G' ah=none:=⟨(gk _ al.1).trans gn.1,(gk _ al.2.1).trans gn.2.1,(gk _ al.2.2.2).trans gn.2.2.1,(gk _ GL).trans gn.2.2.2⟩
  have hp':∀d∈ps++[q],qj c G' d:=fun d hd=>by
   rcases List.mem_append.mp hd with h | h
   ·exact(hp d h).ext gg
   ·rw[List.mem_singleton] at h;subst h;exact pr
  have vn:(ps++[q]).length≤i+1:=by rw[List.length_append,List.length_singleton];exact NU pl
  clear hp gn g gk pr gg GL al k4 la J pl lb yH
  generalize ps++[q]=ps4 at Ul hp' vn
  have bf:=J4.bf
  have tf:=J4.tf
  have h0:0<kv.length:=List.length_pos_iff.mpr de
  refine ag (cj W.ok (cg W) (Pe.ev (aa mk) (cK W.ok R.handled J4.d (MT bf) fun a5 o5 s h5 pm pw=>?_))) (.inl rfl)
  have S:fR kv s:=⟨pm,pw⟩
  have sl:=S.len
  have e5:aC H4 (H4.set a5 ⟨o5,.list (s.map V.int)⟩):=aC.set (aC.refl _) h5
  have l5:=ai.same H4 a5 o5 (s.map V.int)
  generalize H4.set a5 ⟨o5,.list (s.map V.int)⟩=H5 at e5 l5 ⊢
  have J5:=J4.ext e5
  have la5:=e5.list Ul
  have ZH:=e5.list yq
  have g5:=g4.trans e5
  clear J4 Ul yq g4 e5
  refine ag (cy W.ok (W.glob rfl) (W.kx 352 _ rfl) rfl R1 O.frames (g9 W R1 O.frames ms (aw ae (aw ae (aa rfl) (iu (cN (by decide)))) bx) (rC)) (aa rfl) (Fn.mono (tg W H5 _ a5 s l5 (MS bf sl)) (fun d H6 z=>?_) fun _ _ z=>z.elim)) (.inl rfl)
  refine VX (d0:=H6) z fun tW=>?_;clear z
  refine q4 (J5.E.jt) fun cl fS=>?_
  have xV:s≠[]:=fun e=>by rw[e] at sl;simp at sl;exact rH h0 sl
  refine q2 (ku (l:=s.map fun v=>(((cl v).length:Int),v)) (by simpa using xV)) fun M hM UE=>?_
  have UU:M.2∈s:=by refine q2 (List.mem_map.mp hM) fun v hv e=>?_;rw[← e];exact hv
  refine fy (fj (bI (aH (aj (aa mg) ae (bN (d:=.int lim) (j:=5) ZH rfl rfl (by decide))) ae fg beq_iff_eq) fun _=>bI (aH (aw (g9 W R1 O.frames ms (aw ae (aw ae (aa rfl) (iu (cN (by decide)))) bx) (rC)) ae (bV (by decide))) ae fg beq_iff_eq) fun _=>d7)) (fun _=>Pe.of_ext (d:=.int M.2) (j7 (cj W.ok (gB W) (eV W.ok (bD R.handled (Pe.ev (aa rfl) ⟨a5,_,rfl,l5,?_⟩)) rfl (by decide) rfl (by decide) rfl (mI ⟨rfl,rfl,rfl⟩ qA))))) (fun j4 tV=>?_) (.inl rfl)
  ·refine cL ((s.map fun v=>(((cl v).length:Int),v)).map fW) (by simp) (by rw[List.length_map];exact MR hs bf sl) (fun i dd Cc hE dz=>?_) (fun a6 o6 h6=>?_)
   ·refine q2 (aI dz) fun v hv DP=>?_;obtain rfl:=DP
    have kv_:aJ kv v:=S.mem.mp (List.mem_of_getElem? hv)
    refine⟨_,aQ (aQ hv),bM (au (Pe.of_ext (d:=.int ((cl v).length:Int)) (cj W.ok (bu W) (cy W.ok (W.glob rfl) (W.kx 397 _ rfl) rfl R1 O.frames (aa mk) (aa rfl) (Fn.mono (cf W H5 ak _ _ rk v J5.d J5.E kv_) (fun d H7 z=>?_) fun _ _ z=>z.elim)))) (au (aa rfl) aU)) (by show 2≤sizeLine;exact cH hs)⟩
    refine nR (d0:=d) (d1:=H7) z fun a7 o7 ys h7 ch7 yl=>?_;clear z
    obtain rfl:=ch7.uniq (fS v kv_).1
    exact(cT (ai.same _ _ _ _) (by rw[List.length_map];exact iF hs yl)).op ⟨congrArg V.int (by rw[List.length_map]),aC.set (aC.refl _) h7⟩
   ·exact(Hg R.handled (ai.same _ _ _ _) hM UE (by show A.units+4<cLine;exact MQ hu)).op (ae.ev ⟨_,bB (d:=.int M.2) (j:=1) rfl rfl (by decide),rfl,aC.set (aC.refl _) h6⟩)
  have hb:j4=.none∨∃o,j4=.int o∧aJ kv o:=by
   rcases tV with ⟨_,rfl⟩ | ⟨_,rfl⟩
   ·exact .inr ⟨_,rfl,S.mem.mp UU⟩
   ·rcases tW with h | ⟨o,h,ho⟩
    ·exact .inl h
    ·exact .inr ⟨o,h,S.mem.mp ho⟩
  clear tV tW UU UE hM fS xV sl S pm pw l5 h5
  obtain⟨t1,Z2⟩:∃t1:List Nat,j4≠.none→∃o,j4=.int o∧aJ kv o∧tx o=t1:=by
   rcases hb with rfl | ⟨o,rfl,ho⟩
   ·exact⟨[],fun q=>(q rfl).elim⟩
   ·exact⟨_,fun _=>⟨o,rfl,ho,rfl⟩⟩
  refine ag (Pe.ev (aa ml) ?_) (.inl rfl)
  refine fy (d1:=.s t1) (bq (aa rfl)) (fun h=>by refine q1 (Z2 h) fun o DO ho DN=>?_;obtain rfl:=DO;obtain rfl:=DN;exact aj (aa mt) (aa rfl) (aT J5.t (J5.tt o ho))) (fun d hd=>?_) (.inl rfl)
  obtain⟨old,rfl,hold⟩:∃old:List Nat,d=.s old∧old.length+9*(u+1)≤9000:=by
   rcases hd with ⟨h,rfl⟩ | ⟨_,rfl⟩
   ·refine q1 (Z2 h) fun o DM ho DL=>?_;obtain rfl:=DM;obtain rfl:=DL
    exact⟨_,rfl,J5.sh o ho⟩
   ·exact⟨lt,rfl,cA⟩
  clear hd Z2
  refine ag (Pe.ev (aw (aa mn) ae bx) ?_) (.inl rfl)
  refine bl (cy W.ok (W.glob rfl) (W.kx 345 _ rfl) rfl R3 O.frames (aa rfl) (g9 W R1 O.frames ms (aw ae (aw ae (aa rfl) (iu (cN (by decide)))) bx) (MP)) (Fn.mono (hK W H5 old _ (Ae hold)) (fun d H7 z=>?_) fun _ _ z=>z.elim))
  refine Hw (d0:=H7) (d1:=d) z fun l hl=>?_;clear z
  have Wt:l.length+9*u≤9000:=by exact Ac hold hl
  refine Pe.ev (aa mt) (Pe.ev (aa rfl) ⟨ta,ts,num+1,rfl,rfl,J5.t,by exact Ad hs tf,fun o8=>?_⟩)
  have nt:=J5.pa.i.ne_dict J5.t
  have Vx:bc (H5.set ta ⟨o8,.dict (bR ts (num+1) (.s l))⟩) x dx hd bd (num+1) bG:=⟨J5.pa.i.ne nt.1 nt.2,J5.pa.d.ne J5.th.symm⟩
  have D8:=J5.d.ne (x:=⟨o8,.dict (bR ts (num+1) (.s l))⟩) J5.kt
  have T8:=ax.same H5 ta o8 (bR ts (num+1) (.s l))
  have la8:=la5.ne (x:=⟨o8,.dict (bR ts (num+1) (.s l))⟩) (la5.ne_dict J5.t)
  have lb8:=ZH.ne (x:=⟨o8,.dict (bR ts (num+1) (.s l))⟩) (ZH.ne_dict J5.t)
  have g8:aC G' (H5.set ta ⟨o8,.dict (bR ts (num+1) (.s l))⟩):=aC.upd g5 WH.2.2.1
  generalize H5.set ta ⟨o8,.dict (bR ts (num+1) (.s l))⟩=H8 at Vx D8 T8 la8 lb8 g8 ⊢
  have tn:aF (bR ts (num+1) (.s l)) (num+1)=some (.s l):=by rw[bZ,if_pos rfl]
  refine ag (Pe.ev (aj (aa mt) (aa rfl) (aT T8 tn)) ?_) (.inl rfl)
  have hn:¬aJ kv (num+1):=fun h=>by have:=J5.pos _ h;exact MO this
  have tt8:∀k,aJ kv k→aF (bR ts (num+1) (.s l)) k=some (.s (tx k)):=fun k hk=>by
   rw[bZ,if_neg (fun q:k=num+1=>hn (q▸hk))];exact J5.tt k hk
  refine ag (qr W.ok (W.glob rfl) (W.kx 440 _ rfl) rfl R3 O.frames (au (aa mk) (au (aa mt) (au (aa mb) (au (aa rfl) (au (aa rfl) aU))))) (Fn.mono (qF W H8 ak ta bd (num+1) j4 kv _ tx rk l D8 T8 tt8 tn J5.E hn (MN bf) (rE Wt) hb J5.b0) (fun d H9 z=>?_) fun _ _ z=>z.elim)) (.inr ⟨rfl,rfl⟩)
  obtain⟨kG,bP,rfl,e9,h9,D9,SK⟩:=z
  have HV:=Vx.ext e9
  have nh:kG≠hd:=fun q=>Vx.some_x.2.2 (q▸h9)
  have nta:kG≠ta:=fun q=>by refine q4 T8 fun o e=>?_;clear T8;rw[q,e] at h9;cases h9
  have fl:bG.length=kv.length:=by
   refine q4 (fJ bG) fun s S=>?_
   rw[← S.len,(J5.dj.aX J5.EP.nd J5.E.nd S).len]
  refine ag (nJ W.kx pc R5 O.frames (aa mp) HV.i rfl iN iM (W.kx 204 _ rfl) rfl (aa rfl) (aa rfl) (Fn.mono (uW W H9 x dx hd bd (num+1) j4 bG tx rk l HV J5.EP (rF bf fl) (rE Wt) (fun h=>hn (J5.dj.key.mp h)) J5.b0 (hb.imp id fun⟨o,e,h⟩=>⟨o,e,J5.dj.key.mpr h⟩)) (fun d xJ z=>?_) fun _ _ z=>z.elim)) (.inl rfl)
  refine pf (d0:=d) z fun DK wk=>?_;clear z;obtain⟨dP,aa9,SP⟩:=DK
  obtain⟨aag,fk,J10⟩:=J5.store Wt (rO wx) SP SK aa9 (cz wk HV D9 nh) (cz wk HV (e9.dict T8) J5.th) nh nta
  have ZK:=hV wk HV (e9.list la8)
  have ZI:=hV wk HV (e9.list lb8)
  have g10:=ug (g8.trans e9) wk WH.1 WH.2.1
  refine aL (fN (bg (gG (jv (P:=True) (gw W.ok (W.glob rfl) (W.kx 326 _ rfl) rfl R1 O.frames (aa rfl) (jz W xJ (num+1))) (by simp))) fun _=>bg (aH (P:=False) (aa rfl) (aa rfl) qv (by simp)) fun _=>bg (gG (jv (P:=True) (Vw W.ok (W.glob rfl) (W.kx 464 _ rfl) rfl R5 O.frames (aa mp) (aa rfl) (aw (g9 W R1 O.frames ms (aw ae (aw ae (aa rfl) (iu (cN (by decide)))) bx) (rC)) ae (dG (by decide) (by decide))) (xP W xJ x dx hd kG ta bd _ _ dP bP _ _ fk u J10)) (by simp))) fun _=>dm)) (fun g=>by simp at g) (fun _=>?_)
  exact aO (hQ _ _ _ ⟨⟨by exact vx fQ,by rw[hu4];exact⟨num+1,kG,dP,bP,_,_,fk,l,G',ps4,J10,by exact rO wx,aag,Wt,ZK,vn,g10,WH,hp',ZI,jy,ms,mg,mp,mt,mb,rfl,rfl,rfl,mh⟩⟩,fun _ h=>(nomatch h)⟩)
 ·clear J7 Wc Uk jy Gm yB h0
  rintro m' H' ⟨_,hS⟩ _
  obtain⟨num,ak,bG,kv,ts,tx,rk,lt,G,ps,J,wx,de,cA,la,pl,g,gn,hp,lb,jy,ms,mg,mp,mt,mb,mn,mk,ml,mh⟩:=hS
  refine aK (zl (qr W.ok (W.glob rfl) (W.kx 478 _ rfl) rfl R5 O.frames (au (aa mp) (au (aa mk) (au (aa mt) (au ae (au (aa mh) aU))))) (Fn.mono (o9 W H' G x dx hd ak ta ah bd (num+1) 0 bG kv ts tx rk _ ps J de la (by exact MM t8 (by assumption) pl) g gn.2.2.2) (fun d H4 z=>?_) fun _ _ z=>z.elim)))
  refine MA (d0:=d) z fun q G' Ul gg g4 gk pr k4=>?_;clear z
  refine⟨rfl,zm (Pe.ev (gw W.ok (W.glob rfl) (W.kx 471 _ rfl) rfl R1 O.frames (aa mh) (nP W H4 ah _ Ul fun d hd=>?_)) rfl)⟩
  rcases List.mem_append.mp hd with h | h
  ·exact((hp d h).ext gg).ext g4
  ·rw[List.mem_singleton] at h;subst h;exact pr.ext g4
end
end Mine
namespace Mine
open PySem PySem.W PyProof.Rows
namespace hd
noncomputable def tw11210553801493137410:=()
noncomputable def tw881544763273948857:=()
noncomputable def tw9228397985900620932:=()
noncomputable def tw17650839729002327288:=()
noncomputable def tw9702936160620672325:=()
noncomputable def tw10860895700388868024:=()
noncomputable def tw12092154237167983948:=()
noncomputable def tw10905682514733158466:=()
noncomputable def tw14955159897011116063:=()
noncomputable def tw1097998534492414930:=()
noncomputable def tw3919010098100093602:=()
noncomputable def tw13431754692932380062:=()
noncomputable def tw6830512106363814048:=()
noncomputable def tw10792051664901133789:=()
noncomputable def tw7523672394736509286:=()
noncomputable def tw10919297434634762262:=()
noncomputable def tw361874862225718299:=()
noncomputable def tw9421340871869096474:=()
noncomputable def tw7366208706002141716:=()
noncomputable def tw2788664435532181463:=()
noncomputable def tw226724450230711188:=()
noncomputable def tw18264374347568628810:=()
noncomputable def tw13321331477185743149:=()
noncomputable def tw18343703819029505601:=()
noncomputable def tw10246146449241189800:=()
noncomputable def tw5238241317806426387:=()
noncomputable def tw15508949281206285077:=()
noncomputable def tw2608437505485318709:=()
noncomputable def tw3309697970292668127:=()
noncomputable def tw17062030032774818151:=()
noncomputable def tw512641396559190090:=()
noncomputable def tw17252143746492648416:=()
noncomputable def tw7752767780024739350:=()
noncomputable def tw9908193460736022307:=()
noncomputable def tw11319097763535126812:=()
noncomputable def tw8934143017859847078:=()
noncomputable def tw5592360268479517082:=()
noncomputable def tw2887051446865420828:=()
noncomputable def tw14745743045033390146:=()
noncomputable def tw5902613922787404954:=()
noncomputable def tw13217225542625558698:=()
noncomputable def tw13285133528070534704:=()
noncomputable def tw16056359734778111409:=()
noncomputable def tw16772102934027710169:=()
noncomputable def tw10170382586518783626:=()
noncomputable def tw2323474266016966308:=()
noncomputable def tw16640546478005224243:=()
noncomputable def tw991583007596301734:=()
noncomputable def tw3109861748172591687:=()
noncomputable def tw5781342201191254626:=()
noncomputable def tw18293732401869909652:=()
noncomputable def tw3795277891434052102:=()
noncomputable def tw14906377314874228009:=()
noncomputable def tw6838551448383532254:=()
noncomputable def tw2284436838669742495:=()
noncomputable def tw9298403506768410418:=()
noncomputable def tw16853341256802265648:=()
noncomputable def tw7191915735439097106:=()
noncomputable def tw11465210709893060100:=()
noncomputable def tw2101469004524951375:=()
noncomputable def tw10403243965636340961:=()
noncomputable def tw3915529967508079626:=()
noncomputable def tw4402725079659364252:=()
noncomputable def tw12127338746724423809:=()
noncomputable def tw16432713993328977331:=()
noncomputable def tw10678649693572172417:=()
noncomputable def tw11251137523995926341:=()
noncomputable def tw6804821044290156842:=()
noncomputable def tw15615537253650120727:=()
noncomputable def tw16006246977917349235:=()
noncomputable def tw5054737718236178183:=()
noncomputable def tw10738003575532504788:=()
noncomputable def tw9499510787657705874:=()
noncomputable def tw11151547217846952531:=()
noncomputable def tw12058812876911547015:=()
noncomputable def tw17542962492245011380:=()
noncomputable def tw11801993109049149486:=()
noncomputable def tw17562767543260142214:=()
noncomputable def tw17893044597097874663:=()
noncomputable def tw10216474801634566288:=()
noncomputable def tw1299046323782801668:=()
noncomputable def tw17739348878880393726:=()
noncomputable def tw8587404781116728655:=()
noncomputable def tw4282304852377368616:=()
noncomputable def tw14960593345356199642:=()
noncomputable def tw9759069670290863418:=()
noncomputable def tw14560493823538711346:=()
noncomputable def tw17491317419825422843:=()
noncomputable def tw13047593935725612058:=()
noncomputable def tw18291419657060728153:=()
noncomputable def tw9763420282994701918:=()
noncomputable def tw4138081844389336918:=()
noncomputable def tw8735263284916673568:=()
noncomputable def tw6394381022753523788:=()
noncomputable def tw6898005170327248138:=()
noncomputable def tw14457593812595234344:=()
noncomputable def tw4272726840584523970:=()
noncomputable def tw11631947586910100387:=()
noncomputable def tw10030107230732127627:=()
noncomputable def tw13277076834127875243:=()
noncomputable def tw3694398316872202419:=()
noncomputable def tw6411954120941647267:=()
noncomputable def tw1760603350576429475:=()
noncomputable def tw4870687313549177768:=()
noncomputable def tw5130813555471234732:=()
noncomputable def tw3443669649825651883:=()
noncomputable def tw9244321171653502345:=()
noncomputable def tw7540655947842036084:=()
noncomputable def tw7355570028127101125:=()
noncomputable def tw16345102440705955213:=()
noncomputable def tw16634568088961857937:=()
noncomputable def tw15463257786427224491:=()
noncomputable def tw12769127236821124696:=()
noncomputable def tw3085183777334472315:=()
noncomputable def tw11953376511379268794:=()
noncomputable def tw10727248033764811480:=()
noncomputable def tw10424393626065333798:=()
noncomputable def tw3828038474966422129:=()
noncomputable def tw17311223219408574766:=()
noncomputable def tw189712035060473897:=()
noncomputable def tw6196171512934965099:=()
noncomputable def tw17387473266821786944:=()
noncomputable def tw9345929723534960622:=()
noncomputable def tw14896477498954680388:=()
noncomputable def tw18093812233618175256:=()
noncomputable def tw16868993833207775613:=()
noncomputable def tw17903497710992402801:=()
noncomputable def tw701787995468756871:=()
noncomputable def tw16155205043701107222:=()
noncomputable def tw10879034167726328663:=()
noncomputable def tw6164396464334811476:=()
noncomputable def tw16029623286316568529:=()
noncomputable def tw1589133516308662214:=()
noncomputable def tw6759412095888398321:=()
noncomputable def tw16858285156579221889:=()
noncomputable def tw15422856539912107476:=()
noncomputable def tw3381375190539634487:=()
noncomputable def tw15852365999677673905:=()
noncomputable def tw13342606739435360313:=()
noncomputable def tw15411387601460861337:=()
noncomputable def tw7153062008950511462:=()
noncomputable def tw16154546982801380032:=()
noncomputable def tw15166520500009309586:=()
noncomputable def tw1384543813281530044:=()
noncomputable def tw13638418597567726942:=()
noncomputable def tw6882427118574961969:=()
noncomputable def tw1588505670450824345:=()
noncomputable def tw2502866573005156581:=()
noncomputable def tw4185656317496899905:=()
noncomputable def tw15948780112781908787:=()
noncomputable def tw7270182246851987180:=()
noncomputable def tw1194904439430580092:=()
noncomputable def tw4225703048834024713:=()
noncomputable def tw3350844169311001129:=()
noncomputable def tw5245234834050458271:=()
noncomputable def tw18245042118932799458:=()
noncomputable def tw17588044629489971554:=()
noncomputable def tw13322179722446271537:=()
noncomputable def tw7510230149288206974:=()
noncomputable def tw8965841893048198262:=()
noncomputable def tw1197925565968671727:=()
noncomputable def tw18322514126500204803:=()
noncomputable def tw8052382678804489345:=()
noncomputable def tw16649331688326792143:=()
noncomputable def tw1848646778235469078:=()
noncomputable def tw11213053971927718326:=()
noncomputable def tw6407587892757256292:=()
noncomputable def tw6264232113106981867:=()
noncomputable def tw11128854368766332075:=()
noncomputable def tw17681399029576232318:=()
noncomputable def tw14353793391729792155:=()
noncomputable def tw16722109127936396110:=()
noncomputable def tw3008623586974134963:=()
noncomputable def tw13267510147771200024:=()
noncomputable def tw2391449824757734642:=()
noncomputable def tw5732804406350252772:=()
noncomputable def tw8977307856219701671:=()
noncomputable def tw5363564295841288755:=()
noncomputable def tw3941438180925939637:=()
noncomputable def tw1147470481896660410:=()
noncomputable def tw11032806212648032379:=()
noncomputable def tw5009564483982726761:=()
noncomputable def tw6924109203229866365:=()
noncomputable def tw402640490398009360:=()
noncomputable def tw519851828213033955:=()
noncomputable def tw6469175993241445255:=()
noncomputable def tw8684328023851190084:=()
noncomputable def tw9657781627882305391:=()
noncomputable def tw17177331786930743035:=()
noncomputable def tw10949625832625181284:=()
noncomputable def tw8538877666451538035:=()
noncomputable def tw15615420239508185596:=()
noncomputable def tw8959176491354863721:=()
noncomputable def tw3571134770919094901:=()
noncomputable def tw728884934406724761:=()
noncomputable def tw1013155817946168525:=()
noncomputable def tw11389486352061984695:=()
noncomputable def tw18219598855577627918:=()
noncomputable def tw6982297934935202809:=()
noncomputable def tw18293851220164018083:=()
noncomputable def tw1580110805410547442:=()
noncomputable def tw10583446816852156582:=()
noncomputable def tw2274498078352570744:=()
noncomputable def tw11709330566771433103:=()
noncomputable def tw12614811148066621264:=()
noncomputable def tw15967140613478806237:=()
noncomputable def tw8134915037123179040:=()
noncomputable def tw11631869004601391166:=()
noncomputable def tw2442259710966052079:=()
noncomputable def tw5416991563250132298:=()
noncomputable def tw13790719812936386609:=()
noncomputable def tw1011335219593555734:=()
noncomputable def tw15790720579355451973:=()
noncomputable def tw8545014587354053640:=()
noncomputable def tw4315991029959535628:=()
noncomputable def tw2329189449893159454:=()
noncomputable def tw432457690288141553:=()
noncomputable def tw4014540891139286612:=()
noncomputable def tw16171809288044610508:=()
noncomputable def tw4702841417184801058:=()
noncomputable def tw1359830224848277088:=()
noncomputable def tw8716120427605611371:=()
noncomputable def tw18433733373944582078:=()
noncomputable def tw12936449754285732098:=()
noncomputable def tw1241404454085649124:=()
noncomputable def tw8671608845466749128:=()
noncomputable def tw15344866539931968096:=()
noncomputable def tw8458067239894703972:=()
noncomputable def tw8609351116199087170:=()
noncomputable def tw697623264460660564:=()
noncomputable def tw9277588360372424766:=()
noncomputable def tw16211521421427940678:=()
noncomputable def tw15910714762333108613:=()
noncomputable def tw920214292312260371:=()
noncomputable def tw15089522573102190283:=()
noncomputable def tw442638132926106271:=()
noncomputable def tw13828106393651249627:=()
noncomputable def tw14768889098011018680:=()
noncomputable def tw10784824025267889561:=()
noncomputable def tw8047900516022102942:=()
noncomputable def tw9398405308114057262:=()
noncomputable def tw5987830557187376847:=()
noncomputable def tw9555612238305686254:=()
noncomputable def tw10507497572311344420:=()
noncomputable def tw17258206423299326598:=()
noncomputable def tw3480954088277226078:=()
noncomputable def tw7494724483528729301:=()
noncomputable def tw2999033326186475339:=()
noncomputable def tw12588582704262371052:=()
noncomputable def tw212345690472687942:=()
noncomputable def tw12633595827127266219:=()
noncomputable def tw13518370688599389936:=()
noncomputable def tw15367242080415987702:=()
noncomputable def tw6184460063843016694:=()
noncomputable def tw2315301623876862497:=()
noncomputable def tw18219297243305740317:=()
noncomputable def tw6528754448969337418:=()
noncomputable def tw8810149144160419634:=()
noncomputable def tw17491280204586788870:=()
noncomputable def tw5282504435634884242:=()
noncomputable def tw16412773359747925120:=()
noncomputable def tw6136932545381038964:=()
noncomputable def tw5505005885091257285:=()
noncomputable def tw11037278301008091258:=()
noncomputable def tw16713699803418581334:=()
noncomputable def tw17213754286329925777:=()
noncomputable def tw1882180444382439491:=()
noncomputable def tw12591134339009171964:=()
noncomputable def tw12394076208661396346:=()
noncomputable def tw8493152586797012548:=()
noncomputable def tw16194383521188589630:=()
noncomputable def tw14772383043592177042:=()
noncomputable def tw8068729725432388964:=()
noncomputable def tw4360684699965382250:=()
noncomputable def tw13280443560766958183:=()
noncomputable def tw14892549342360969540:=()
noncomputable def tw10458740792067480800:=()
noncomputable def tw6423634429210846174:=()
noncomputable def tw11652457597714270106:=()
noncomputable def tw4851647983119433812:=()
noncomputable def tw7634515778581822779:=()
noncomputable def tw5978321128707920903:=()
noncomputable def tw10126750691676969038:=()
noncomputable def tw978945382295711627:=()
noncomputable def tw13483081372092288885:=()
noncomputable def tw7534799579077118603:=()
noncomputable def tw12112201142124510154:=()
noncomputable def tw7296583596125217682:=()
noncomputable def tw15643275761693703936:=()
noncomputable def tw2252305205657439004:=()
noncomputable def tw3219085151875037572:=()
noncomputable def tw17975533764899295144:=()
noncomputable def tw16225743686406366006:=()
noncomputable def tw2708950531961675432:=()
noncomputable def tw3789350110615891812:=()
noncomputable def tw9014375795449043846:=()
noncomputable def tw11079593142295127227:=()
noncomputable def tw876933089483189297:=()
noncomputable def tw461538923250603899:=()
noncomputable def tw12647368939536790636:=()
noncomputable def tw17711083657039698284:=()
noncomputable def tw17986969038992634876:=()
noncomputable def tw280609765759037681:=()
noncomputable def tw8457440626546761165:=()
noncomputable def tw13783031573616600631:=()
noncomputable def tw2930668341846507884:=()
noncomputable def tw3442329435671937591:=()
noncomputable def tw13220430256171166289:=()
noncomputable def tw13482603562744487776:=()
noncomputable def tw11402939732021071671:=()
noncomputable def tw6906073325868019850:=()
noncomputable def tw11026324117731225655:=()
noncomputable def tw6123773746684550334:=()
noncomputable def tw5716766192118558609:=()
noncomputable def tw6785817131721698500:=()
noncomputable def tw8789358453043137523:=()
noncomputable def tw6683769817339685419:=()
noncomputable def tw6931407450589930559:=()
noncomputable def tw4297731678662094536:=()
noncomputable def tw12070654863422294720:=()
noncomputable def tw2457190517430149469:=()
noncomputable def tw8081886968326746073:=()
noncomputable def tw11713075325732132258:=()
noncomputable def tw17234923516513369237:=()
noncomputable def tw9566141503761928105:=()
noncomputable def tw14103535550066685397:=()
noncomputable def tw9430268157657104642:=()
noncomputable def tw14620637471214046174:=()
noncomputable def tw15213948185873263833:=()
noncomputable def tw9533747618267967006:=()
noncomputable def tw14294001040229213422:=()
noncomputable def tw9153386212771759811:=()
noncomputable def tw14574188249326674665:=()
noncomputable def tw15683763237869141255:=()
noncomputable def tw5608270528595127837:=()
noncomputable def tw13855946660403688772:=()
noncomputable def tw5480042469492414594:=()
noncomputable def tw9641152695372364146:=()
noncomputable def tw4478166936697009375:=()
noncomputable def tw7519716089354478335:=()
noncomputable def tw3646829019195819677:=()
noncomputable def tw2304311442786299043:=()
noncomputable def tw16477043939570097188:=()
noncomputable def tw12901994302517312135:=()
noncomputable def tw16037735763661986305:=()
noncomputable def tw11220892185045867188:=()
noncomputable def tw7120233287515763914:=()
noncomputable def tw15616948245753086127:=()
noncomputable def tw7914949630228597729:=()
noncomputable def tw5629675986466331604:=()
noncomputable def tw15759970867653108152:=()
noncomputable def tw16299908979028503884:=()
noncomputable def tw7763873220885509757:=()
noncomputable def tw7369741819223213686:=()
noncomputable def tw4065347644161347641:=()
noncomputable def tw2480057099694739299:=()
noncomputable def tw845060206244984605:=()
noncomputable def tw6186238094035137676:=()
noncomputable def tw13372043803930879067:=()
noncomputable def tw5190246844813560578:=()
noncomputable def tw6482722132109649516:=()
noncomputable def tw185848376630758926:=()
noncomputable def tw8228950375871286339:=()
noncomputable def tw15416985209724490359:=()
noncomputable def tw9741134391959003819:=()
noncomputable def tw13038990169509382042:=()
noncomputable def tw12070051907170230399:=()
noncomputable def tw4856431653887292112:=()
noncomputable def tw10012880186880212623:=()
noncomputable def tw7721951785955056133:=()
noncomputable def tw12487502673411948298:=()
noncomputable def tw7746578258024575070:=()
noncomputable def tw15595854959937240912:=()
noncomputable def tw12949589719889679912:=()
noncomputable def tw17599816209265215132:=()
noncomputable def tw11513968764499736323:=()
noncomputable def tw6291416237084387574:=()
noncomputable def tw15527848837575444561:=()
noncomputable def tw9345676750909349944:=()
noncomputable def tw15813434630575017362:=()
noncomputable def tw5278057926702712004:=()
noncomputable def tw8242931771332617035:=()
noncomputable def tw15103106377680225435:=()
noncomputable def tw3451239065008710300:=()
noncomputable def tw11893437276241958245:=()
noncomputable def tw7676003278276379012:=()
noncomputable def tw4159134105002834734:=()
noncomputable def tw16240987189780228909:=()
noncomputable def tw5247051413645994129:=()
noncomputable def tw7028611270464810887:=()
noncomputable def tw17336936450418997793:=()
noncomputable def tw1865391376527767206:=()
noncomputable def tw13409441903868389331:=()
noncomputable def tw4086058157674990017:=()
noncomputable def tw16157073509204512506:=()
noncomputable def tw15987713032478767096:=()
noncomputable def tw3493717111155160527:=()
noncomputable def tw15673258824015622330:=()
noncomputable def tw12575139184659369484:=()
noncomputable def tw6555240042291301478:=()
noncomputable def tw17901334829092211166:=()
noncomputable def tw11587034568685482758:=()
noncomputable def tw7082855905992002993:=()
noncomputable def tw5657824000916062451:=()
noncomputable def tw8025032847418708242:=()
noncomputable def tw12023040214023829324:=()
noncomputable def tw6767318904944593275:=()
noncomputable def tw7526368328331116154:=()
noncomputable def tw15946388913382835224:=()
noncomputable def tw2783992281797965187:=()
noncomputable def tw1847840615245081061:=()
noncomputable def tw12050417470231563642:=()
noncomputable def tw1506431575118746342:=()
noncomputable def tw15220180469806662145:=()
noncomputable def tw8727321023445011275:=()
noncomputable def tw3259873300814134281:=()
noncomputable def tw464777395874653626:=()
noncomputable def tw4993660671451451078:=()
noncomputable def tw17843490464661113860:=()
noncomputable def tw15279998641719260112:=()
noncomputable def tw6305734824756694309:=()
noncomputable def tw17377529257436501650:=()
noncomputable def tw8343274005884668182:=()
noncomputable def tw12113243949977362033:=()
noncomputable def tw1610171440888473627:=()
noncomputable def tw1118553966540926140:=()
noncomputable def tw9731375825926819010:=()
noncomputable def tw10024716035694756283:=()
noncomputable def tw10601615944963115059:=()
noncomputable def tw18103420901670897651:=()
noncomputable def tw16904818350239718627:=()
noncomputable def tw8184699220007379433:=()
noncomputable def tw22551697357593593:=()
noncomputable def tw7023726343779634624:=()
noncomputable def tw17950676927832955104:=()
noncomputable def tw10360471539772378328:=()
noncomputable def tw6819123309680001836:=()
noncomputable def tw1413172679324656950:=()
noncomputable def tw16011055738799735888:=()
noncomputable def tw6060742912462422084:=()
noncomputable def tw17574625026820762457:=()
noncomputable def tw8053944837975664402:=()
noncomputable def tw8004679753235328684:=()
noncomputable def tw3452082135128663414:=()
noncomputable def tw7289634563603522867:=()
noncomputable def tw1409312971732116557:=()
noncomputable def tw7628703163842673926:=()
noncomputable def tw6965799899956892507:=()
noncomputable def tw16945582573551092051:=()
noncomputable def tw3182187488490625086:=()
noncomputable def tw12271959270614036898:=()
noncomputable def tw11802353813225856:=()
noncomputable def tw100483095206116625:=()
noncomputable def tw6990203504111849199:=()
noncomputable def tw18300207936620678264:=()
noncomputable def tw9427301549700849589:=()
noncomputable def tw4172343393113369950:=()
noncomputable def tw12629568148972539762:=()
noncomputable def tw2603259988358896889:=()
noncomputable def tw5283464899586487735:=()
noncomputable def tw13903934854276604550:=()
noncomputable def tw17054507655720011243:=()
noncomputable def tw13330244855972007585:=()
noncomputable def tw18103342009636024947:=()
noncomputable def tw9170477692918782315:=()
noncomputable def tw7382370116671421104:=()
noncomputable def tw8381844023166312768:=()
noncomputable def tw6438293893037913957:=()
noncomputable def tw16302227732802510677:=()
noncomputable def tw11054480109507316185:=()
noncomputable def tw3759623122121258479:=()
noncomputable def tw3429492842335990350:=()
noncomputable def tw16631945168110365508:=()
noncomputable def tw11232374478483605306:=()
noncomputable def tw17130151131035750659:=()
noncomputable def tw4706079058837389440:=()
noncomputable def tw7891253978561527248:=()
noncomputable def tw17919194246423945575:=()
noncomputable def tw2216850387143573719:=()
noncomputable def tw12631932088317031055:=()
noncomputable def tw2167537188350426706:=()
noncomputable def tw4478964076566166474:=()
noncomputable def tw16920754564084929960:=()
noncomputable def tw11319892378374348655:=()
noncomputable def tw1699103778626983548:=()
noncomputable def tw10618215229831041299:=()
noncomputable def tw12399718760709695909:=()
noncomputable def tw5635641802508607975:=()
noncomputable def tw1836080755315867724:=()
noncomputable def tw1129884963351977449:=()
noncomputable def tw26425463804135960:=()
noncomputable def tw5343241284826551009:=()
noncomputable def tw8883835196101046400:=()
noncomputable def tw4136554803537287180:=()
noncomputable def tw6598312636042714100:=()
noncomputable def tw11754176132448286083:=()
noncomputable def tw6998783941825042932:=()
noncomputable def tw10603584201595350602:=()
noncomputable def tw13866372431405929976:=()
noncomputable def tw5961118342813265553:=()
noncomputable def tw2386827423013361158:=()
noncomputable def tw9719896912496429819:=()
noncomputable def tw11551083187376567056:=()
noncomputable def tw16970440968685349367:=()
noncomputable def tw7793673504863384051:=()
noncomputable def tw7880807054014371918:=()
noncomputable def tw1954109241102656831:=()
noncomputable def tw14478148883734587675:=()
noncomputable def tw17948085552500728524:=()
noncomputable def tw12602439190401603521:=()
noncomputable def tw10752148897807903841:=()
noncomputable def tw11660266114150955751:=()
noncomputable def tw5355321495217300903:=()
noncomputable def tw13289513938125300765:=()
noncomputable def tw18166333605607142505:=()
noncomputable def tw9184186324627900627:=()
noncomputable def tw13723031510162244379:=()
noncomputable def tw12173100003817136821:=()
noncomputable def tw15368132723985388332:=()
noncomputable def tw8960069828448710407:=()
noncomputable def tw1712922718373300912:=()
noncomputable def tw6578402527460240241:=()
noncomputable def tw13181700845877081190:=()
noncomputable def tw17330945745186091897:=()
noncomputable def tw17001982702790524580:=()
noncomputable def tw10111801491309104144:=()
noncomputable def tw6547078798241139092:=()
noncomputable def tw8428860471423672150:=()
noncomputable def tw15042006015671813226:=()
noncomputable def tw6140570298594658328:=()
noncomputable def tw13770079208771991547:=()
noncomputable def tw14852329139284432860:=()
noncomputable def tw3229955645248102723:=()
noncomputable def tw5511420028821071320:=()
noncomputable def tw15529170255622000948:=()
noncomputable def tw12744807935193187038:=()
noncomputable def tw4971549296188076032:=()
noncomputable def tw14980023328507725902:=()
noncomputable def tw6868836192036940282:=()
noncomputable def tw17714235663813219645:=()
noncomputable def tw15837987909243819085:=()
end hd
set_option Elab.async true in
set_option maxRecDepth 100000 in
set_option maxHeartbeats 8000000 in
theorem hd : PySem.Challenge.rw_uf040024_09.Holds := by
  w_on
  o_law
  k_head
  case hw => w_witness2
  k_fill
  intro w s₀ s₁ mg mb G Y fa o pm cd doc dV kV ho hd hcd hD hmg hg args vals as hpre hlay hrd hwl hlo
  have KX0 := kIn_of Y
  have T := G.T
  clear hd hcd hD
  have KX : (Mine.KK w.params).In s₁.heap := by
    refine Eq.mp (congrArg (fun K : Frag => K.In s₁.heap) (?_ : _ = Mine.KK w.params)) KX0
    kernel_rfl
  have ea : fa = 497 := by have e := hmg.symm.trans (mg_of KX T.g (v := .ref 497) rfl); injection e with e; injection e
  subst ea
  wrow_args hpre hlay hrd hwl hlo
  rename_i ns _ _ _ _ _ _ _ sc vs _ hL _ _ _ hI _ hc _
  refine wpAny_mono (Mine.glue (Mine.law09 (c := ⟨_, w, s₁.heap, mg, mb, s₁.os⟩) (P := w.params) ⟨⟨T.g, T.b, T.nolimit⟩, KX, T.builtins, ⟨vs, hL, hI⟩, by omega⟩ ⟨fun x C bm id h q => own_of_in KX (topRead_of T) h q⟩) hg) (fun v s' z => ?_) fun _ _ z => z.elim
  obtain ⟨rfl, old, os, bare⟩ := z
  refine ⟨.inl ⟨_, .bool true, [], rfl, ?_, ?_, ?_, ?_⟩, old, os, bare⟩
  · exact raisesW_false (by wrow_none_raised)
  · exact .bool true
  · wrow_post
  · exact fun _ => ⟨List.nodup_nil, fun a h => nomatch h⟩
end Mine
open PySem PySem.W PyProof.Rows
theorem PySem.Challenge.cw_uf040024_09_holds : PySem.Challenge.rw_uf040024_09.Holds :=
  Mine.hd
