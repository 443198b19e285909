import PyProof.Rows.All
import Wide.All
import OpenK.AllK
import Wide.FinOn
import PyProof.Seq
import PyProof.Methods
import PyProof.TupleIter
import PyProof.SliceList
import PyProof.MeetsStr2
import PyProof.CallStr
import PyProof.Cells
import PyProof.StrWalks
import PyProof.CompFree
import PyProof.PureInt
import PyProof.Conv_int_bool
import PyProof.ListOps
import PyProof.DictKinds
import PyProof.DictTruth
import PyProof.DictRoadsH
import PyProof.EnumFor
import PyProof.EnumMake
import PyProof.IsRules
import PyProof.P3Eq
import PyProof.NeData
import PyProof.ExcArgs
import PyProof.ExcClass2
import PyProof.ExcBaseAll.ValueError
import PyProof.ExcClass3
import PyProof.RaisesMany
import PyProof.StrLaws
import PyProof.SliceStr2
import PyProof.StrOps
import PyProof.StrOps2
import PyProof.StrBlock
import PyProof.StrBlockI
import PyProof.StrBlockL
import PyProof.StrLawsChain
import PyProof.WalksMore
import PyProof.RangeFor
import PyProof.IsInstance
import PyProof.IsInstanceH
import PyProof.IsiNone
import PyProof.ListCopy
import PyProof.ListIndexNeg
import PyProof.ListMulRoad
import PyProof.WalkInts
import PyProof.MaxThree
import PyProof.RulesAs
import PyProof.NsDelKeeps
import PyProof.P3In
import PyProof.PvWalk
import PyProof.Rows.TupSub
import PyProof.ZipIter
import PyProof.Truth
import PyProof.StrCalls2
import PyProof.StrLawsOccR
import PyProof.Rows.Chain
import PyProof.Rows.Nodes
import PyProof.Rows.RuleB_floordiv
import PyProof.Rows.RuleB_mod
import PyProof.StrCalls3
import PyProof.Rows.StrTemp
import PyProof.Rows.ListMul
import PyProof.Rows.ListMulCarried
import PyProof.Rows.ListMulR
import PyProof.Rows.RuleC_bool
import PyProof.Rows.RuleN_abs
import PyProof.TupleOps
import PyProof.SeqI3
import PyProof.Rows.TupMore
import PyProof.Rows.StrPins
import PyProof.StrLawsTight
import PyProof.Rows.StrCut
import PyProof.Rows.TupTab
import PyProof.Rows.TupAdd
import PyProof.Rows.SortRuns
import PyProof.Rows.Range3
import Wide.BridgeG
import OpenK.TopRead
import OpenK.KWalk
import KE.KItem
import KE.KLam
import OpenK.KOwn
import KE.KIsAll
import KE.KSortTup
import KE.KTryMore
import PySem.Challenge.RW_uf030034_09
set_option Elab.async false
set_option linter.all false
set_option genSizeOf false
set_option genInjectivity false
set_option maxRecDepth 100000
set_option maxHeartbeats 8000000
open PySem PyProof.Rows
namespace Mine.Internal
abbrev sO:String->PySem.Str:=PySem.Str.ofString
abbrev rT:true=true:=Eq.refl true
theorem lq0{α:Type _}{a b:α}:a ∈ [b]->a=b:=List.mem_singleton.mp
theorem lq1{α:Type _}{a:α}{l:List α}:a ∈ a::l:=List.mem_cons_self
theorem lq2{α:Type _}{l:List α}{i:Nat}{a:α}:l[i]? =some a->∃h:i<l.length,l[i]=a:=List.getElem?_eq_some_iff.mp
theorem lq3{α:Type _}{l:List α}{a:α}:(l++[a])[l.length]? =some a:=List.getElem?_concat_length
theorem lq4{α:Type _}(a:α){b:α}{l:List α}:b ∈ l->b ∈ a::l:=List.mem_cons_of_mem a
theorem lq5(n:Nat):0<=n:=Nat.zero_le n
theorem lq6{α β:Type _}{l:List α}{f:α->β}:(l.map f).length=l.length:=List.length_map f
theorem lq7{α:Type _}{a b:List α}:(a++b).length=a.length+b.length:=List.length_append
theorem lq8{α:Type _}(a b c:List α):a++b++c=a++(b++c):=List.append_assoc a b c
inductive LX where
 |v (i:Nat)
 |n (k:Nat)
 |a (x y:LX)
 |s (x y:LX)
 |m (k:Nat) (x:LX)
inductive LK where
 |le|lt|eq
structure LC where
 w:Int
 k:LK
 x:LX
 y:LX
noncomputable def zIK:List Int->Nat->Int
 |[],_=>0
 |x::_,0=>x
 |_::r,i+1=>zIK r i
noncomputable def atN:List Nat->Nat->Nat
 |[],_=>0
 |x::_,0=>x
 |_::r,i+1=>atN r i
noncomputable def LX.di (c:List Int):LX->Int
 |.v i=>zIK c i
 |.n k=>k
 |.a x y=>x.di c+y.di c
 |.s x y=>x.di c - y.di c
 |.m k x=>k*x.di c
noncomputable def LX.dn (c:List Nat):LX->Nat
 |.v i=>atN c i
 |.n k=>k
 |.a x y=>x.dn c+y.dn c
 |.s x y=>0
 |.m k x=>k*x.dn c
noncomputable def Mj:List Int->List Int->Int
 |c::cs,x::xs=>c*x+Mj cs xs
 |_,_=>0
noncomputable def Pk:List Int->List Int->List Int
 |[],y=>y
 |x,[]=>x
 |a::x,b::y=>(a+b)::Pk x y
noncomputable def Rn (k:Int):List Int->List Int
 |[]=>[]
 |a::x=>(k*a)::Rn k x
noncomputable def Tf:Nat->List Int
 |0=>[1]
 |i+1=>0::Tf i
noncomputable def LX.lin:LX->List Int
 |.v i=>0::Tf i
 |.n k=>[(k:Int)]
 |.a x y=>Pk x.lin y.lin
 |.s x y=>Pk x.lin (Rn (-1) y.lin)
 |.m k x=>Rn k x.lin
theorem Lz(c:List Int):Mj c []=0:=by cases c<;>rfl
theorem Kb:∀(x y c:List Int),Mj (Pk x y) c=Mj x c+Mj y c
 |[],y,c=>(Int.zero_add _).symm
 |a::x,[],c=>(Int.add_zero _).symm
 |a::x,b::y,[]=>by rw[Lz,Lz,Lz];rfl
 |a::x,b::y,z::c=>by
  show(a+b)*z+Mj (Pk x y) c=(a*z+Mj x c)+(b*z+Mj y c)
  rw[Kb x y c,Int.add_mul,Int.add_assoc,Int.add_left_comm (b*z),←Int.add_assoc]
theorem Ma(k:Int):∀(x c:List Int),Mj (Rn k x) c=k*Mj x c
 |[],c=>(Int.mul_zero k).symm
 |a::x,[]=>by rw[Lz,Lz,Int.mul_zero]
 |a::x,z::c=>by
  show k*a*z+Mj (Rn k x) c=k*(a*z+Mj x c)
  rw[Ma k x c,Int.mul_add,Int.mul_assoc]
theorem T7:∀(i:Nat) (c:List Int),Mj (Tf i) c=zIK c i
 |0,[]=>rfl
 |0,z::c=>by show 1*z+0=z;rw[Int.one_mul,Int.add_zero]
 |i+1,[]=>rfl
 |i+1,z::c=>by show 0*z+Mj (Tf i) c=zIK c i;rw[Int.zero_mul,Int.zero_add];exact T7 i c
theorem Ku(c:List Int):∀x:LX,Mj x.lin (1::c)=x.di c
 |.v i=>by show 0*1+Mj (Tf i) c=zIK c i;rw[Int.zero_mul,Int.zero_add];exact T7 i c
 |.n k=>by show(k:Int)*1+0=k;rw[Int.mul_one,Int.add_zero]
 |.a x y=>by show Mj (Pk x.lin y.lin) _=x.di c+y.di c;rw[Kb,Ku c x,Ku c y]
 |.s x y=>by show Mj (Pk x.lin (Rn (-1) y.lin)) _=x.di c - y.di c;rw[Kb,Ma,Ku c x,Ku c y,Int.neg_mul,Int.one_mul];rfl
 |.m k x=>by show Mj (Rn k x.lin) _=k*x.di c;rw[Ma,Ku c x]
noncomputable def Nh:LX->Bool
 |.a x y=>Nh x&&Nh y
 |.s _ _=>false
 |.m _ x=>Nh x
 |_=>true
theorem Xm:∀(c:List Nat) (i:Nat),zIK (c.map λ(n:Nat)=>(n:Int)) i=(atN c i:Int)
 |[],i=>rfl
 |x::c,0=>rfl
 |x::c,i+1=>Xm c i
theorem Ge(c:List Nat):∀x:LX,Nh x=true->x.di (c.map λ(n:Nat)=>(n:Int))=(x.dn c:Int)
 |.v i,_=>Xm c i
 |.n k,_=>rfl
 |.a x y,h=>by
  have h:=Bool.and_eq_true_iff.mp (show(Nh x&&Nh y)=true from h);show x.di _+y.di _=((x.dn c+y.dn c:Nat):Int)
  rw[Ge c x h.1,Ge c y h.2];rfl
 |.s _ _,h=>by cases h
 |.m k x,h=>by show(k:Int)*x.di _=((k*x.dn c:Nat):Int);rw[Ge c x h];exact(Int.natCast_mul _ _).symm
noncomputable def LC.row (c:LC):List Int:=Rn c.w (Pk (match c.k with
 |.lt=>[-1]
 |_=>[]) (Pk c.y.lin (Rn (-1) c.x.lin)))
noncomputable def zDi:List LC->List Int
 |[]=>[]
 |c::r=>Pk c.row (zDi r)
noncomputable def zKG (c:LC):Bool:=match c.k with
 |.eq=>true
 |_=>decide (0<=c.w)
noncomputable def zFg:List Int->Bool
 |[]=>false
 |a::r=>decide (a<0)&&r.all (λb=>decide (b=0))
noncomputable def zJs (cs:List LC):Bool:=zFg (zDi cs)&&cs.all zKG
noncomputable def zI4 (cs:List LC):Bool:=zJs cs&&cs.all λc=>Nh c.x&&Nh c.y
noncomputable def LC.holdsI (l:List Int) (c:LC):Prop:=match c.k with
 |.le=>c.x.di l<=c.y.di l
 |.lt=>c.x.di l<c.y.di l
 |.eq=>c.x.di l=c.y.di l
noncomputable def LC.holdsN (l:List Nat) (c:LC):Prop:=match c.k with
 |.le=>c.x.dn l<=c.y.dn l
 |.lt=>c.x.dn l<c.y.dn l
 |.eq=>c.x.dn l=c.y.dn l
noncomputable def zGj (l:List Int):List LC->Prop
 |[]=>False
 |c::r=>c.holdsI l->zGj l r
noncomputable def zGw (l:List Nat):List LC->Prop
 |[]=>False
 |c::r=>c.holdsN l->zGw l r
theorem Xp{r:List Int}(h:zFg r=true) (l:List Int):Mj r (1::l)<0:=by
 cases r with
 |nil=>cases h
 |cons a r=>
  have h:=Bool.and_eq_true_iff.mp (show(decide (a<0)&&r.all (λb=>decide (b=0)))=true from h)
  rw[decide_eq_true_eq,List.all_eq_true]at h;have h:a<0/\∀b,b∈r->b=0:=⟨h.1,λb m=>of_decide_eq_true (h.2 b m)⟩
  have z:∀(r l:List Int),(∀b,b∈r->b=0)->Mj r l=0:=by
   intro r
   induction r with
   |nil=>intro l _;cases l<;>rfl
   |cons b r ih=>
    intro l hb
    cases l with
    |nil=>rfl
    |cons z l=>show b*z+Mj r l=0;rw[hb b lq1,ih l λb m=>hb b (lq4 _ m),Int.zero_mul];rfl
  show a*1+Mj r l<0
  rw[z r l λb m=>h.2 b m,Int.mul_one,Int.add_zero];exact h.1
theorem V2{l:List Int}{c:LC}(h:c.holdsI l) (w:zKG c=true):0<=Mj c.row (1::l):=by
 obtain⟨k,kd,x,y⟩:=c;unfold LC.row;rw[Ma,Kb,Kb,Ma,Ku,Ku];dsimp only
 cases kd with
 |le=>
  have h:x.di l<=y.di l:=h
  have w:0<=k:=of_decide_eq_true w
  exact Int.mul_nonneg w (by show 0<=0+(_+ -1*_);omega)
 |lt=>
  have h:x.di l<y.di l:=h
  have w:0<=k:=of_decide_eq_true w
  exact Int.mul_nonneg w (by show 0<=(-1*1+0)+(_+ -1*_);omega)
 |eq=>
  have h:x.di l=y.di l:=h
  have:Mj [] (1::l)+(y.di l+ -1*x.di l)=0:=by show 0+(y.di l+ -1*x.di l)=0;omega
  show 0<=k*(Mj [] (1::l)+(y.di l+ -1*x.di l))
  rw[this];simp
theorem Xf{l:List Int}:∀(cs:List LC),((∀c,c∈cs->c.holdsI l)->False)->zGj l cs
 |[],h=>h λ_ m=>nomatch m
 |c::r,h=>λhc=>Xf r λhr=>h λd m=>by
  rcases List.mem_cons.mp m with rfl|m
  ·exact hc
  ·exact hr d m
theorem Kx{l:List Int}:∀(cs:List LC),(∀c,c∈cs->c.holdsI l)->cs.all zKG=true->0<=Mj (zDi cs) (1::l)
 |[],_,_=>Int.le_refl 0
 |c::r,h,w=>by
  simp only[List.all_cons,Bool.and_eq_true]at w;have:=Kx r (λc m=>h c (lq4 _ m)) w.2
  have:=V2 (h c lq1) w.1
  show 0<=Mj (Pk c.row (zDi r)) _
  rw[Kb];omega
theorem A4(l:List Int) (cs:List LC) (h:zJs cs=true):zGj l cs:=Xf cs λhs=>by
 have h:=Bool.and_eq_true_iff.mp h;exact Int.lt_irrefl _ (Int.lt_of_le_of_lt (Kx cs hs h.2) (Xp h.1 l))
theorem Ws{l:List Nat}:∀(cs:List LC),((∀c,c∈cs->c.holdsN l)->False)->zGw l cs
 |[],h=>h λ_ m=>nomatch m
 |c::r,h=>λhc=>Ws r λhr=>h λd m=>by
  rcases List.mem_cons.mp m with rfl|m
  ·exact hc
  ·exact hr d m
theorem A8(l:List Nat) (cs:List LC) (h:zI4 cs=true):zGw l cs:=Ws cs λhs=>by
 simp only[zI4,zJs,Bool.and_eq_true,List.all_eq_true]at h;refine Int.lt_irrefl _ (Int.lt_of_le_of_lt (Kx (l:=l.map λ(n:Nat)=>(n:Int)) cs (λc m=>?_) (List.all_eq_true.mpr h.1.2)) (Xp h.1.1 _))
 have q:=hs c m;have n:=h.2 c m;obtain⟨k,kd,x,y⟩:=c
 cases kd with
 |le=>
  have q:x.dn l<=y.dn l:=q
  show x.di _<=y.di _
  rw[Ge l x n.1,Ge l y n.2];omega
 |lt=>
  have q:x.dn l<y.dn l:=q
  show x.di _<y.di _
  rw[Ge l x n.1,Ge l y n.2];omega
 |eq=>
  have q:x.dn l=y.dn l:=q
  show x.di _=y.di _
  rw[Ge l x n.1,Ge l y n.2];omega
theorem Aw{a b:Nat}(h:b<a->False):a<=b:=Nat.le_of_not_lt h
theorem Cz{a b:Nat}(h:b<=a->False):a<b:=Nat.lt_of_not_le h
theorem Ha{a b:Nat}(h1:a<b->False) (h2:b<a->False):a=b:=Nat.le_antisymm (Aw h2) (Aw h1)
theorem Am{a b:Int}(h:b<a->False):a<=b:=Int.not_lt.mp h
theorem C4{a b:Int}(h:b<=a->False):a<b:=Int.not_le.mp h
theorem Ur{a b:Int}(h1:a<b->False) (h2:b<a->False):a=b:=Int.le_antisymm (Am h2) (Am h1)
theorem F9(a b:Nat):a - b<=a:=Nat.sub_le a b
theorem Ax(a b:Nat):a<=(a - b)+b:=by omega
theorem Aq{a b:Nat}(h:b<=a):(a - b)+b=a:=Nat.sub_add_cancel h
theorem Mk(a:Nat) (k:Nat):k*(a / k)<=a:=Nat.mul_div_le a k
theorem Vw(a:Nat){k:Nat}(h:0<k):a<k*(a / k)+k:=by have:=Nat.lt_mul_div_succ a h;rw[Nat.mul_add,Nat.mul_one]at this;exact this
noncomputable abbrev x0:LX:=.v 0
noncomputable abbrev x1:LX:=.v 1
noncomputable abbrev x2:LX:=.v 2
noncomputable abbrev x3:LX:=.v 3
noncomputable abbrev x4:LX:=.v 4
noncomputable abbrev x5:LX:=.v 5
noncomputable abbrev x6:LX:=.v 6
noncomputable abbrev x7:LX:=.v 7
noncomputable abbrev x8:LX:=.v 8
noncomputable abbrev A5 (x y:LX):LC:=⟨1,.le,x,y⟩
noncomputable abbrev A7 (x y:LX):LC:=⟨1,.lt,x,y⟩
noncomputable abbrev B9 (x y:LX):LC:=⟨1,.eq,x,y⟩
noncomputable abbrev Gl (x y:LX):LC:=⟨-1,.eq,x,y⟩
noncomputable abbrev Yq (w:Int) (x y:LX):LC:=⟨w,.le,x,y⟩
noncomputable abbrev zCz (w:Int) (x y:LX):LC:=⟨w,.lt,x,y⟩
noncomputable abbrev zK8 (w:Int) (x y:LX):LC:=⟨w,.eq,x,y⟩
theorem Nw{a b:Nat}(h:a<=b):(a:Int)<=(b:Int):=Int.ofNat_le.mpr h
theorem Yo{a b:Nat}(h:a<b):(a:Int)<(b:Int):=Int.ofNat_lt.mpr h
theorem zCc{a b:Nat}(h:a=b):(a:Int)=(b:Int):=congrArg _ h
theorem Gk{a b:Nat}(h:(a:Int)<=(b:Int)):a<=b:=Int.ofNat_le.mp h
theorem Iy{a b:Nat}(h:(a:Int)<(b:Int)):a<b:=Int.ofNat_lt.mp h
theorem zGe{a b:Nat}(h:(a:Int)=(b:Int)):a=b:=Int.ofNat.inj h
theorem H7(x:Int):x<=(x.toNat:Int):=Int.self_le_toNat x
theorem Cf{x:Int}(h:0<=x):(x.toNat:Int)=x:=Int.toNat_of_nonneg h
theorem Hd(n:Nat):(0:Int)<=(n:Int):=Int.natCast_nonneg n
theorem yo{B:Prop}(h:∀G:Prop,(B->G)->G):B:=h B id
theorem size_runs{M:Model}{Γ:Ctx}{p:Pos}{t:Sem Fin}{fs:List Frame}{s s':Shared}{e:End}(h:Runs M Γ p t fs s e s'):s.heap.objs.size<=s'.heap.objs.size:=by
 induction h<;>(try simp only[Shared.setGen,Heap.size_push,Heap.size_after_update]at*)<;>omega
theorem V7{M:Model}{Γ:Ctx}{p:Pos}{g:Nat}{r:Resume}{s s':Shared}{res:GenResult}(h:Wakes M Γ p g r s res s'):s.heap.objs.size<=s'.heap.objs.size:=by
 unfold Wakes at h;split at h
 ·exact h.elim
 ·split at h
  ·obtain⟨e₁,s₁,hr,_,_,rfl⟩:=h;exact(size_runs hr:(s.setGen g .running).heap.objs.size<=s₁.heap.objs.size)
  ·rw[h.2];exact Nat.le_refl _
  ·rw[h.2];exact Nat.le_refl _
 ·obtain⟨e₁,s₁,hr,_,_,rfl⟩:=h;exact(size_runs hr:(s.setGen g .running).heap.objs.size<=s₁.heap.objs.size)
 ·rw[h.2];exact Nat.le_refl _
 ·rw[h.2];exact Nat.le_refl _
theorem zDQ{α:Type}(M:Model) (Γ:Ctx) (n:Nat) (t:Sem α):∀(Q:α->Pos->Shared->Prop) (E:Value->Pos->Shared->Prop) (p:Pos) (s:Shared),n<=s.heap.objs.size->Sem.wp M Γ t Q E p s->
  Sem.wp M Γ t (λa p' s'=>n<=s'.heap.objs.size/\Q a p' s') (λe p' s'=>n<=s'.heap.objs.size/\E e p' s') p s:=by
 induction t with
 |pure a=>intro Q E p s hn h;exact⟨hn,h⟩
 |raise e=>intro Q E p s hn h;exact⟨hn,h⟩
 |unsupported _=>intro Q E p s _ h;exact h
 |finish _=>intro Q E p s _ h;exact h
 |rule _ k ih=>intro Q E p s hn h;exact ih () Q E p s hn h
 | «at» p' k ih=>intro Q E p s hn h;exact ih () Q E p' s hn h
 |load a _ k ih=>intro Q E p s hn h;obtain⟨o,ho,h⟩:=h;exact⟨o,ho,ih o Q E p s hn h⟩
 |update a _ f k ih=>intro Q E p s hn h;exact⟨h.1,ih () Q E p _ (by rw[Heap.size_after_update];exact hn) h.2⟩
 |loadIfAlive a k ih=>intro Q E p s hn h;exact ih _ Q E p s hn h
 |point _ k ih=>intro Q E p s hn h;exact ih () Q E p s hn h
 |register _ _=>intro Q E p s _ h;exact h
 |alloc o k ih=>intro Q E p s hn h;exact ih _ Q E p _ (by rw[Heap.size_push];exact Aw λZ=>A8 [_,_] [A7 (.a x1 (.n 1)) x0,A5 x0 x1] rT Z hn) h
 |fresh k ih=>intro Q E p s hn h;exact ih _ Q E p _ hn h
 |ask k ih=>intro Q E p s hn h;exact ih _ Q E p s hn h
 |choose src m k ih=>intro Q E p s hn h;exact⟨h.1,ih _ Q E p _ hn h.2⟩
 |os q _ k ih=>intro Q E p s hn h;exact ih _ Q E p _ hn h
 |call c hd _ _ k ih=>intro Q E p s hn h;obtain⟨r,s',hr,h⟩:=h;exact⟨r,s',hr,ih r Q E p s' (Nat.le_trans hn (size_runs hr)) h⟩
 |handled own k ih=>intro Q E p s hn h;exact ih _ Q E p s hn h
 |genState g k ih=>intro Q E p s hn h;obtain⟨st,hs,h⟩:=h;exact⟨st,hs,ih _ Q E p s hn h⟩
 |newGen c k ih=>intro Q E p s hn h;exact ih _ Q E p _ hn h
 |resume g r _ k ih=>intro Q E p s hn h;obtain⟨res,s',hw,h⟩:=h;exact⟨res,s',hw,ih res Q E p s' (Nat.le_trans hn (V7 hw)) h⟩
 |yield _ _ _ _=>intro Q E p s _ h;exact h
 |stack k ih=>intro Q E p s hn h;exact ih _ Q E p s hn h
 |fork _ _=>intro Q E p s _ h;exact h
 |thread k ih=>intro Q E p s hn h;exact ih _ Q E p s hn h
 |await _ _ _ _ _=>intro Q E p s _ h;exact h
theorem L3{α:Type}{M:Model}{A:Around}{s:Shared}{t:Sem α}{Q:α->Shared->Prop}{E:Value->Shared->Prop}(h:wpAny M A t Q E s):
  wpAny M A t (λa s'=>s.heap.objs.size<=s'.heap.objs.size/\Q a s') (λe s'=>s.heap.objs.size<=s'.heap.objs.size/\E e s') s:=
 fun Γ p hΓ=>zDQ M Γ _ t _ _ p s (Nat.le_refl _) (h Γ p hΓ)
inductive D where
 |none
 |bool (b:Bool)
 |int (i:Int)
 |str (s:Str)
 |tup (ds:List D)
 |ref (k:Nat)
 |scr (ns:List Int)
 |exc (c:Addr)
inductive PO where
 |list (ds:List D)
 |dict (ks:List (List Int))
 |priv
 |ctab (P:Addr) (l c:Nat) (q:Str) (k:Option Nat)
 |code (q:Str)
noncomputable abbrev Bm:=List PO
noncomputable abbrev C3:=Nat->Option D
structure St where
 loc:C3
 sto:Bm
inductive O8 (α:Type) where
 |ok (a:α) (st:St)
 |exc (c:Addr) (st:St)
 |bot
noncomputable abbrev Mn (α:Type):=St->O8 α
noncomputable def ret1 {α:Type}(a:α):Mn α:=λst=>.ok a st
noncomputable def bnd {α β:Type}(m:Mn α) (f:α->Mn β):Mn β:=λst=>match m st with
 |.ok a st'=>f a st'
 |.exc c st'=>.exc c st'
 |.bot=>.bot
noncomputable def botM {α:Type}:Mn α:=λ_=>.bot
inductive Fl where
 |next|brk|cont
 |ret (d:D)
inductive C2 {α β:Type}(R:α->β->Prop):List α->List β->Prop
 |nil:C2 R [] []
 |cons {a b l l'}:R a b->C2 R l l'->C2 R (a::l) (b::l')
theorem C2.length{α β:Type}{R:α->β->Prop}{l:List α}{l':List β}(h:C2 R l l'):l.length=l'.length:=by
 induction h with
 |nil=>rfl
 |cons _ _ ih=>simp[ih]
theorem C2.append{α β:Type}{R:α->β->Prop}{l₁ l₂:List α}{l₁' l₂':List β}(h:C2 R l₁ l₁') (g:C2 R l₂ l₂'):C2 R (l₁++l₂) (l₁'++l₂'):=by
 induction h with
 |nil=>exact g
 |cons x _ ih=>exact .cons x ih
theorem C2.get{α β:Type}{R:α->β->Prop}{l:List α}{l':List β}(h:C2 R l l'):∀(i:Nat) (b:β),l'[i]? =some b->∃a,l[i]? =some a/\R a b:=by
 induction h with
 |nil=>intro i b e;simp at e
 |cons x _ ih=>
  intro i b e
  cases i with
  |zero=>simp at e;subst e;exact⟨_,by simp,x⟩
  |succ i=>simp at e;obtain⟨a,ha,r⟩:=ih i b e;exact⟨a,by simpa using ha,r⟩
theorem C2.take{α β:Type}{R:α->β->Prop}{l:List α}{l':List β}(h:C2 R l l'):∀n,C2 R (l.take n) (l'.take n):=by
 induction h with
 |nil=>intro n;simp;exact .nil
 |cons x _ ih=>intro n;cases n with
  |zero=>simp;exact .nil
  |succ n=>simp;exact .cons x (ih n)
theorem C2.drop{α β:Type}{R:α->β->Prop}{l:List α}{l':List β}(h:C2 R l l'):∀n,C2 R (l.drop n) (l'.drop n):=by
 induction h with
 |nil=>intro n;simp;exact .nil
 |cons x h ih=>intro n;cases n with
  |zero=>simp;exact .cons x h
  |succ n=>simpa using ih n
structure Gd where
 prog:Program
 w:World
 h0:Heap
 os0:OsState
 gens0:Array GenState
noncomputable abbrev G2 (vs:Array Value) (n:Nat):Obj:={cls:=.type "list",dict:=none,data:=.seq vs n,slots:= #[]}
noncomputable abbrev W2 (vs:Array Value) (n:Nat):Obj:={cls:=.type "tuple",dict:=none,data:=.seq vs n,slots:= #[]}
noncomputable def N5 (h:Heap) (a:Addr) (items:Array Value):Prop:=∃n,h.get? a=some (W2 items n)
noncomputable def Jj (h:Heap) (a:Addr) (items:Array Value):Prop:=∃n,h.get? a=some (G2 items n)
theorem Im{vs vs':Array Value}{n n':Nat}:W2 vs n≠G2 vs' n':=λh=>by
 have:=congrArg Obj.cls h
 simp at this
theorem Jj.list{h:Heap}{a:Addr}{vs:Array Value}(x:Jj h a vs):h.IsList a vs:=let⟨n,e⟩:=x;⟨_,e,rfl,n,rfl⟩
noncomputable def zAt (o:Obj) (c:Addr):Prop:=o.cls=.ref c/\o.dict=none
noncomputable def zCI (h:Heap) (a:Addr) (c:Addr):Prop:=∃o,h.get? a=some o/\zAt o c/\∃vs,o.data=.fields vs
noncomputable def Kz (vs:List Value) (ns:List Int):Prop:=C2 (λv n=>∃t,v=Value.int n t) vs ns
inductive zKE (h:Heap) (ρ:List Addr) (P:List Value->Prop) (v:Value):Prop
 |mk (a:Addr) (vs:Array Value) (e:v=.ref a) (n:a∉ρ) (t:N5 h a vs) (r:P vs.toList)
inductive zKP (G:Gd) (ns:List Int) (v:Value):Prop
 |mk (a:Addr) (vs:Array Value) (e:v=.ref a) (l:G.h0.IsList a vs) (i:Kz vs.toList ns)
inductive zKW (h:Heap) (ρ:List Addr) (c:Addr) (v:Value):Prop
 |mk (a:Addr) (e:v=.ref a) (n:a∉ρ) (x:zCI h a c)
inductive zIR (P:Value->Prop) (Q:List Value->Prop) (vs:List Value):Prop
 |mk (v:Value) (r:List Value) (e:vs=v::r) (p:P v) (q:Q r)
mutual
noncomputable def Cn (G:Gd) (h:Heap) (ρ:List Addr):D->Value->Prop
 |.none,v=>v=.none
 |.bool b,v=>v=.bool b
 |.int i,v=>∃t,v=.int i t
 |.str s,v=>∃t,v=.str s t
 |.tup ds,v=>zKE h ρ (λvs=>B7 G h ρ ds vs) v
 |.ref k,v=>∃a,v=.ref a/\ρ[k]? =some a
 |.scr ns,v=>zKP G ns v
 |.exc c,v=>zKW h ρ c v
noncomputable def B7 (G:Gd) (h:Heap) (ρ:List Addr):List D->List Value->Prop
 |[],vs=>vs=[]
 |d::ds,vs=>zIR (λv=>Cn G h ρ d v) (λr=>B7 G h ρ ds r) vs
end
theorem B7.all2{G:Gd}{h:Heap}{ρ:List Addr}:∀{ds:List D}{vs:List Value},B7 G h ρ ds vs->C2 (λv d=>Cn G h ρ d v) vs ds
 |[],vs,e=>by subst e;exact .nil
 |d::ds,vs,e=>by
  obtain⟨v,r,rfl,h1,h2⟩:=e;exact .cons h1 (B7.all2 h2)
theorem B7.of_all2{G:Gd}{h:Heap}{ρ:List Addr}{ds:List D}{vs:List Value}(x:C2 (λv d=>Cn G h ρ d v) vs ds):B7 G h ρ ds vs:=by
 induction x with
 |nil=>exact rfl
 |cons a _ ih=>exact⟨_,_,rfl,a,ih⟩
structure Ks (h:Heap) (ρ:List Addr) (h':Heap) (ρ':List Addr):Prop where
 pre:∀(k:Nat) (a:Addr),ρ[k]? =some a->ρ'[k]? =some a
 tup:∀a items,a∉ρ->N5 h a items->a∉ρ'/\N5 h' a items
 exc:∀a c,a∉ρ->zCI h a c->a∉ρ'/\zCI h' a c
mutual
theorem Cn.mono{G:Gd}{h h':Heap}{ρ ρ':List Addr}(S:Ks h ρ h' ρ'):∀(d:D) (v:Value),Cn G h ρ d v->Cn G h' ρ' d v
 |.none,_,e=>e
 |.bool _,_,e=>e
 |.int _,_,e=>e
 |.str _,_,e=>e
 |.tup ds,v,e=>by
  obtain⟨a,vs,e1,n,e2,e3⟩:=e;obtain⟨n',e2'⟩:=S.tup _ _ n e2;exact⟨a,vs,e1,n',e2',B7.mono S ds _ e3⟩
 |.ref k,v,e=>by
  obtain⟨a,e1,e2⟩:=e;exact⟨a,e1,S.pre _ _ e2⟩
 |.scr _,_,e=>e
 |.exc c,v,e=>by
  obtain⟨a,e1,n,e2⟩:=e;exact⟨a,e1,(S.exc _ _ n e2).1,(S.exc _ _ n e2).2⟩
theorem B7.mono{G:Gd}{h h':Heap}{ρ ρ':List Addr}(S:Ks h ρ h' ρ'):∀(ds:List D) (vs:List Value),B7 G h ρ ds vs->B7 G h' ρ' ds vs
 |[],_,e=>e
 |d::ds,vs,e=>by
  obtain⟨v,r,e1,e2,e3⟩:=e;exact⟨v,r,e1,Cn.mono S d v e2,B7.mono S ds r e3⟩
end
noncomputable def Yp (h:Heap) (a:Addr) (k:List Int):Prop:=∃vs,N5 h a vs/\Kz vs.toList k
noncomputable abbrev zFz (G:Gd):HeapKind G.prog G.w (List Int):=tupleKind (intKind G.prog G.w)
noncomputable abbrev zI2 (ps:Array Value):Obj:={cls:=.none,data:=.fields ps}
noncomputable def zHL (h:Heap) (ρ:List Addr) (a:Addr) (l c:Nat):Option Nat->Prop
 |none=>h.get? a=some (zI2 #[])
 |some k=>∃c',ρ[k]? =some c'/\h.get? a=some (zI2 #[rawInt l,rawInt c,.ref c'])
noncomputable def Xu (h:Heap) (a:Addr) (q:Str):Prop:=∃o vs t,h.get? a=some o∧o.cls=.type "code"∧o.data=.fields vs∧vs[1]? =some (.str q t)
noncomputable def zCy (h:Heap) (a:Addr):Prop:=∃x y,h.get? a=some (W2 #[x,y] 0)
noncomputable def L5 (G:Gd) (h:Heap) (ρ:List Addr) (a:Addr):PO->Prop
 |.list ds=>∃vs,Jj h a vs/\B7 G h ρ ds vs.toList
 |.dict ks=>∃xs,h.DictOfH (zFz G) a xs/\(a==sysModules)=false/\xs.map (·.1)=ks/\∀x,x∈xs->x.2.1∉ρ/\Yp h x.2.1 x.1
 |.priv=>zCy h a
 |.ctab P l c _ k=>a=P/\zHL h ρ a l c k
 |.code q=>Xu h a q
structure Cy (G:Gd) (s:Shared) (ρ:List Addr) (σ:Bm):Prop where
 base:∀b o,G.h0.get? b=some o->s.heap.get? b=some o
 new:∀a,a∈ρ->G.h0.get? a=none
 nodup:ρ.Nodup
 len:ρ.length=σ.length
 sto:∀(k:Nat) (a:Addr) (o:PO),ρ[k]? =some a->σ[k]? =some o->L5 G s.heap ρ a o
 os:s.os=G.os0
 gens:s.gens=G.gens0
noncomputable def Fu (o o':Obj):Prop:=o'.cls=o.cls/\o'.data=o.data/\o'.dict=o.dict/\((∃es n,o.data=.dict es n)∨o'.slots=o.slots)
theorem Fu.refl(o:Obj):Fu o o:=⟨rfl,rfl,rfl,.inr rfl⟩
theorem Fu.trans{a b c:Obj}(x:Fu a b) (y:Fu b c):Fu a c:=
 ⟨y.1.trans x.1,y.2.1.trans x.2.1,y.2.2.1.trans x.2.2.1,x.2.2.2.elim .inl λe=>y.2.2.2.elim (λ⟨es,n,z⟩=>.inl ⟨es,n,x.2.1▸z⟩) λe'=>.inr (e'.trans e)⟩
theorem Fu.eq{o o':Obj}(x:Fu o o') (h:∀es n,o.data≠.dict es n):o'=o:=by
 obtain⟨c,d,dt,sl⟩:=o;obtain⟨c',d',dt',sl'⟩:=o';obtain⟨h1,h2,h3,h4⟩:=x;simp only at h1 h2 h3 h4
 rcases h4 with⟨es,n,z⟩|h4
 ·exact absurd z (h es n)
 ·subst h1 h2 h3 h4;rfl
structure Ev (P:List Addr) (h:Heap) (ρ:List Addr) (h':Heap) (ρ':List Addr):Prop where
 pre:∀(k:Nat) (a:Addr),ρ[k]? =some a->ρ'[k]? =some a
 keep:∀b o,h.get? b=some o->b∉ρ->b∉P->∃o',h'.get? b=some o'/\Fu o o'
 newp:∀a,a∈ρ'->a∈ρ∨h.objs.size<=a
 size:h.objs.size<=h'.objs.size
theorem Ev.refl{P:List Addr}{h:Heap}{ρ:List Addr}:Ev P h ρ h ρ:=⟨λ_ _ e=>e,λ_ o e _ _=>⟨o,e,.refl o⟩,λ_ e=>.inl e,Nat.le_refl _⟩
theorem Ev.notin'{P:List Addr}{h h':Heap}{ρ ρ':List Addr}(x:Ev P h ρ h' ρ'){b:Addr}(e:b<h.objs.size) (n:b∉ρ):b∉ρ':=
 λm=>(x.newp b m).elim n λz=>Nat.lt_irrefl _ (Nat.lt_of_lt_of_le e z)
theorem Ev.notin{P:List Addr}{h h':Heap}{ρ ρ':List Addr}(x:Ev P h ρ h' ρ'){b:Addr}{o:Obj}(e:h.get? b=some o) (n:b∉ρ):b∉ρ':=x.notin' (Heap.lt_size e) n
theorem Ev.trans{P:List Addr}{h h₁ h₂:Heap}{ρ ρ₁ ρ₂:List Addr}(x:Ev P h ρ h₁ ρ₁) (y:Ev P h₁ ρ₁ h₂ ρ₂):Ev P h ρ h₂ ρ₂ where
 pre k a e:=y.pre k a (x.pre k a e)
 keep b o e n1 n2:=by
  obtain⟨o',e',q⟩:=x.keep b o e n1 n2;obtain⟨o'',e'',q'⟩:=y.keep b o' e' (x.notin e n1) n2;exact⟨o'',e'',q.trans q'⟩
 newp a m:=(y.newp a m).elim (λm'=>x.newp a m') λz=>.inr (Nat.le_trans x.size z)
 size:=Nat.le_trans x.size y.size
theorem Ev.more{P P':List Addr}{h h':Heap}{ρ ρ':List Addr}(x:Ev P h ρ h' ρ') (hs:∀p,p∈P->p∈P'):Ev P' h ρ h' ρ':=
 ⟨x.pre,λb o e n1 n2=>x.keep b o e n1 λm=>n2 (hs b m),x.newp,x.size⟩
theorem Ev.nil{P:List Addr}{h h':Heap}{ρ ρ':List Addr}(x:Ev [] h ρ h' ρ'):Ev P h ρ h' ρ':=x.more λ_ m=>nomatch m
theorem Ev.less{P P':List Addr}{h h':Heap}{ρ ρ':List Addr}(x:Ev P' h ρ h' ρ') (hs:∀p,p∈P'->p∈P∨h.objs.size<=p):Ev P h ρ h' ρ':=
 ⟨x.pre,λb o e n1 n2=>x.keep b o e n1 λm=>(hs b m).elim n2 λz=>Nat.lt_irrefl _ (Nat.lt_of_lt_of_le (Heap.lt_size e) z),x.newp,x.size⟩
noncomputable def NT (h:Heap) (P:List Addr):Prop:=∀p,p∈P->∃o,h.get? p=some o/\((∃es n,o.data=.dict es n)∨(∃v,o.data=.cell v)∨∃vs n,o=G2 vs n)
theorem NT.nil{h:Heap}:NT h []:=λ_ m=>nomatch m
theorem Bp{α:Type}{l:List α}(hn:l.Nodup){i j:Nat}{a:α}(h1:l[i]? =some a) (h2:l[j]? =some a):i=j:=by
 obtain⟨hi,e1⟩:=lq2 h1;obtain⟨hj,e2⟩:=lq2 h2;rcases Nat.lt_trichotomy i j with q|q|q
 ·exact absurd (e1.trans e2.symm) ((List.pairwise_iff_getElem.mp hn) i j hi hj q)
 ·exact q
 ·exact absurd (e2.trans e1.symm) ((List.pairwise_iff_getElem.mp hn) j i hj hi q)
theorem Cy.mem_lt{G:Gd}{s:Shared}{ρ:List Addr}{σ:Bm}(I:Cy G s ρ σ){a:Addr}(m:a∈ρ):a<s.heap.objs.size:=by
 obtain⟨k,hk,e⟩:=List.getElem_of_mem m;have hk':k<σ.length:=by rw[←I.len];exact hk
 have e1:ρ[k]? =some a:=by rw[List.getElem?_eq_getElem hk,e]
 have r:=I.sto k a σ[k] e1 (List.getElem?_eq_getElem hk')
 cases q:σ[k]with
 |list ds=>
  rw[q]at r;obtain⟨vs,⟨n,ho⟩,_⟩:=r;exact Heap.lt_size ho
 |dict kvs=>
  rw[q]at r;obtain⟨xs,⟨o,es,ep,ho,_⟩,_⟩:=r;exact Heap.lt_size ho
 |priv=>
  rw[q]at r;obtain⟨x,y,ho⟩:=r;exact Heap.lt_size ho
 |ctab PP l c qq kk=>
  rw[q]at r
  cases kk with
  |none=>exact Heap.lt_size r.2
  |some kk=>obtain⟨_,c',_,ho⟩:=r;exact Heap.lt_size ho
 |code qq=>
  rw[q]at r;obtain⟨o,vs,t,ho,_⟩:=r;exact Heap.lt_size ho
theorem Ev.stb{G:Gd}{s:Shared}{P:List Addr}{ρ:List Addr}{σ:Bm}{h':Heap}{ρ':List Addr}(x:Ev P s.heap ρ h' ρ') (_I:Cy G s ρ σ) (N:NT s.heap P):Ks s.heap ρ h' ρ' where
 pre:=x.pre
 tup a items n1 t:=by
  obtain⟨n,ho⟩:=t;have n2:a∉P:=λm=>by
   obtain⟨o',ho',z⟩:=N a m;rw[ho]at ho';cases ho';rcases z with⟨_,_,z⟩|⟨_,z⟩|⟨_,_,z⟩
   ·cases z
   ·cases z
   ·exact Im z
  obtain⟨o',ho',q⟩:=x.keep a _ ho n1 n2;rw[q.eq (λ_ _ z=>by cases z)]at ho'
  exact⟨x.notin ho n1,n,ho'⟩
 exc a c n1 t:=by
  obtain⟨o,ho,hc,vs,hd⟩:=t;have n2:a∉P:=λm=>by
   obtain⟨o',ho',z⟩:=N a m;rw[ho]at ho';cases ho';rcases z with⟨_,_,z⟩|⟨_,z⟩|⟨_,_,z⟩
   ·rw[hd]at z;cases z
   ·rw[hd]at z;cases z
   ·rw[z]at hd;cases hd
  obtain⟨o',ho',q⟩:=x.keep a o ho n1 n2;exact⟨x.notin ho n1,o',ho',⟨q.1.trans hc.1,q.2.2.1.trans hc.2⟩,vs,q.2.1.trans hd⟩
structure Ho (G:Gd) (tbl:List Str) (P:List Addr) (env:Env) (h:Heap) (ρ:List Addr) (loc:C3):Prop where
 kind:env.scope.kind=.function
 glob:env.globals=mainGlobals
 bi:env.builtins=builtinsNs
 ns:∃m,h.Ns env.locals m/\∀(i:Nat) (x:Str),tbl[i]? =some x->env.kindOf x=some .local->∀d,loc i=some d->∃v,m x=some v/\Cn G h ρ d v
 cell:∀(i:Nat) (x:Str),tbl[i]? =some x->(env.kindOf x=some .cell∨env.kindOf x=some .free)->∃c,env.cells.lookup x=some c/\∃ov,h.IsCell c ov/\∀d,loc i=some d->∃v,ov=some v/\Cn G h ρ d v
 cok:∀x c,env.cells.lookup x=some c->c∉ρ/\∃ov,h.IsCell c ov
 cinj:∀x y c,env.cells.lookup x=some c->env.cells.lookup y=some c->x=y
 lrho:env.locals∉ρ
 lP:env.locals∈P
 own:∀p,p∈P->G.h0.get? p=none/\(p=env.locals∨∃x,env.cells.lookup x=some p)
 tnd:tbl.Nodup
theorem Ho.nt{G:Gd}{tbl:List Str}{P:List Addr}{env:Env}{h:Heap}{ρ:List Addr}{loc:C3}(F:Ho G tbl P env h ρ loc):NT h P:=by
 intro p m;rcases(F.own p m).2 with rfl|⟨x,e⟩
 ·obtain⟨mm,⟨o,es,ep,ho,hd,_⟩,_⟩:=F.ns;exact⟨o,ho,.inl ⟨es,ep,hd⟩⟩
 ·obtain⟨_,ov,o,ho,hd⟩:=F.cok x p e;exact⟨o,ho,.inr (.inl ⟨ov,hd⟩)⟩
theorem So{P:List Addr}{h h':Heap}{ρ ρ':List Addr}(x:Ev P h ρ h' ρ'){L:Addr}{m:Str->Option Value}(n:h.Ns L m) (h1:L∉ρ) (h2:L∉P):h'.Ns L m:=by
 obtain⟨o,es,ep,ho,hd,r⟩:=n;obtain⟨o',ho',q⟩:=x.keep L o ho h1 h2;exact⟨o',es,ep,ho',q.2.1.trans hd,r⟩
theorem Qu{P:List Addr}{h h':Heap}{ρ ρ':List Addr}(x:Ev P h ρ h' ρ'){c:Addr}{ov:Option Value}(n:h.IsCell c ov) (h1:c∉ρ) (h2:c∉P):h'.IsCell c ov:=by
 obtain⟨o,ho,hd⟩:=n;obtain⟨o',ho',q⟩:=x.keep c o ho h1 h2;exact⟨o',ho',q.2.1.trans hd⟩
theorem Ho.keep{G:Gd}{tbl:List Str}{P:List Addr}{env:Env}{s:Shared}{ρ:List Addr}{σ:Bm}{loc:C3}{h':Heap}{ρ':List Addr}(F:Ho G tbl P env s.heap ρ loc) (I:Cy G s ρ σ) (x:Ev [] s.heap ρ h' ρ'):
  Ho G tbl P env h' ρ' loc where
 kind:=F.kind
 glob:=F.glob
 bi:=F.bi
 ns:=by
  obtain⟨m,n,q⟩:=F.ns;exact⟨m,So x n F.lrho (λm=>nomatch m),λi y e k d hd=>let⟨v,e1,e2⟩:=q i y e k d hd;⟨v,e1,Cn.mono (x.stb I .nil) d v e2⟩⟩
 cell i y e k:=by
  obtain⟨c,e1,ov,n,q⟩:=F.cell i y e k;exact⟨c,e1,ov,Qu x n (F.cok y c e1).1 (λm=>nomatch m),λd hd=>let⟨v,e1,e2⟩:=q d hd;⟨v,e1,Cn.mono (x.stb I .nil) d v e2⟩⟩
 cok y c e:=by
  obtain⟨n,ov,o,ho,hd⟩:=F.cok y c e;exact⟨x.notin ho n,ov,Qu x ⟨o,ho,hd⟩ n (λm=>nomatch m)⟩
 cinj:=F.cinj
 lrho:=by
  obtain⟨m,⟨o,es,ep,ho,r⟩,q⟩:=F.ns;exact x.notin ho F.lrho
 lP:=F.lP
 own:=F.own
 tnd:=F.tnd
structure Pl (n:Nat) (A:Around):Prop where
 hd:A.handled=none
 depth:A.depth+n<=900
 units:A.units+10*n<=9000
theorem Pl.le{n n':Nat}{A:Around}(R:Pl n A) (h:n'<=n):Pl n' A:=⟨R.hd,by have:=R.depth;exact Aw λZ=>A8 [_,_,_] [A7 (.n 900) (.a x1 x0),A5 x0 x2,A5 (.a x1 x2) (.n 900)] rT Z h this,by have:=R.units;exact Aw λZ=>A8 [_,_,_] [A7 (.n 9000) (.a x1 (.m 10 x0)),Yq 10 x0 x2,A5 (.a x1 (.m 10 x2)) (.n 9000)] rT Z h this⟩
inductive zLT (G:Gd) (h:Heap) (ρ:List Addr) (e:Env):Prop
 |mk (k:e.scope.kind≠.module) (L:Addr) (o:Obj) (es:Array DictEntry) (n:Nat) (f:e.frame=some L) (h0:G.h0.get? L=none) (hr:L∉ρ) (ho:h.get? L=some o) (hd:o.data=.dict es n)
noncomputable def FF (G:Gd) (h:Heap) (ρ:List Addr) (fs:List Env):Prop:=∀e,e∈fs->zLT G h ρ e
theorem FF.fun{G:Gd}{h:Heap}{ρ:List Addr}:∀{fs:List Env},FF G h ρ fs->h.FunFrames G.h0 fs
 |[],_=>trivial
 |e::r,x=>by
  obtain⟨hk,L,o,es,n,hf,h0,_,ho,hd⟩:=x e lq1;exact⟨hk,⟨L,o,hf,h0,ho,λvs z=>by rw[hd]at z;cases z⟩,FF.fun λe' m=>x e' (lq4 _ m)⟩
structure Sj (G:Gd) (A:Around) (env:Env) (h:Heap) (ρ:List Addr):Prop where
 fr:∃fenv outer L,A.frames=some (fenv::outer)/\fenv.frame=some L/\env.frame=some L
 ff:∀fs,A.frames=some fs->FF G h ρ fs
theorem FF.keep{G:Gd}{h h':Heap}{ρ ρ':List Addr}(x:Ev [] h ρ h' ρ'){fs:List Env}(f:FF G h ρ fs):FF G h' ρ' fs:=λe m=>by
 obtain⟨hk,L,o,es,n,hf,h0,hr,ho,hd⟩:=f e m;obtain⟨o',ho',q⟩:=x.keep L o ho hr (λm=>nomatch m)
 exact⟨hk,L,o',es,n,hf,h0,x.notin ho hr,ho',q.2.1.trans hd⟩
theorem FF.keepF{G:Gd}{h h':Heap}{ρ ρ':List Addr}{tbl:List Str}{P:List Addr}{env:Env}{loc loc':C3}(x:Ev P h ρ h' ρ') (F:Ho G tbl P env h ρ loc) (F':Ho G tbl P env h' ρ' loc'){fs:List Env}(f:FF G h ρ fs):FF G h' ρ' fs:=λe m=>by
 obtain⟨hk,L,o,es,n,hf,h0,hr,ho,hd⟩:=f e m;by_cases mp:L∈P
 ·rcases(F.own L mp).2 with rfl|⟨y,e'⟩
  ·obtain⟨mm,⟨o',es',ep',ho',hd',_⟩,_⟩:=F'.ns;exact⟨hk,env.locals,o',es',ep',hf,h0,F'.lrho,ho',hd'⟩
  ·obtain⟨_,ov,o',ho',hd'⟩:=F.cok y L e';rw[ho]at ho';cases ho';rw[hd]at hd';cases hd'
 ·obtain⟨o',ho',q⟩:=x.keep L o ho hr mp;exact⟨hk,L,o',es,n,hf,h0,x.notin ho hr,ho',q.2.1.trans hd⟩
inductive zJF (n:Nat) (h:Heap) (a:Addr) (vs:Array Value):Prop
 |mk (T:Addr) (oT:Obj) (ts:Array Value):vs[1]? =some (.ref T)→T≠a→n≤T→h.get? T=some oT→oT.cls=.type "traceback"→oT.data=.fields ts→(x:Value)→ts[3]? =some x→zJF n h a vs
inductive zAJ (n:Nat) (h:Heap) (_f:Option Addr) (a c:Addr):Prop
 |mk:n<=a->(o:Obj)->(vs:Array Value)->h.get? a=some o->zAt o c->o.data=.fields vs->5<vs.size->(vs[1]? =some .none∨zJF n h a vs)->zAJ n h _f a c
structure Cx where
 names:List (Str×NameKind)
 tbl:List Str
 lvl:Nat
 inh:Bool
 code:Value
 qual:Str
structure zBQ (C:Cx) (A:Around):Prop where
 hd:C.inh=false->A.handled=none
 depth:A.depth+C.lvl<=900
 units:A.units+10*C.lvl<=9000
theorem zBQ.room{C:Cx}{A:Around}(R:zBQ C A) (h:C.inh=false):Pl C.lvl A:=⟨R.hd h,R.depth,R.units⟩
structure zJm (names:List (Str×NameKind)) (env:Env):Prop where
 loc:∀x,names.lookup x=some .local->env.kindOf x=some .local
 cell:∀x,names.lookup x=some .cell->env.kindOf x=some .cell
 free:∀x,names.lookup x=some .free->env.kindOf x=some .cell∨env.kindOf x=some .free
 glob:∀x,names.lookup x=some .globalImplicit->env.kindOf x=some .globalImplicit
structure Ok (G:Gd) (C:Cx) (A:Around) (P:List Addr) (env:Env) (s:Shared) (ρ:List Addr) (st:St):Prop where
 room:zBQ C A
 sees:zJm C.names env
 inv:Cy G s ρ st.sto
 frm:Ho G C.tbl P env s.heap ρ st.loc
 stk:Sj G A env s.heap ρ
 code:C.code=.none∨env.code=C.code
 qual:C.code=.none∨env.qual=C.qual
inductive C1 {α:Type}(G:Gd) (env:Env) (s:Shared) (ρ:List Addr) (st:St) (r:O8 α) (x:Value) (s':Shared):Prop
 |mk (ρ':List Addr) (c:Addr) (σ':Bm) (a:Addr):r=.exc c ⟨st.loc,σ'⟩->Cy G s' ρ' σ'->Ev [] s.heap ρ s'.heap ρ'->x=.ref a->zAJ s.heap.objs.size s'.heap env.frame a c->C1 G env s ρ st r x s'
noncomputable abbrev Gd.M (G:Gd):Model:=model G.prog G.w
theorem Sj.step{G:Gd}{A:Around}{env:Env}{h h':Heap}{ρ ρ':List Addr}(S:Sj G A env h ρ) (x:Ev [] h ρ h' ρ'):Sj G A env h' ρ':=⟨S.fr,λfs e=>(S.ff fs e).keep x⟩
theorem Ok.step{G:Gd}{C:Cx}{A:Around}{P:List Addr}{env:Env}{s:Shared}{ρ:List Addr}{st:St}(K:Ok G C A P env s ρ st){s':Shared}{ρ':List Addr}{σ':Bm}
  (I':Cy G s' ρ' σ') (x:Ev [] s.heap ρ s'.heap ρ'):Ok G C A P env s' ρ' ⟨st.loc,σ'⟩:=
 ⟨K.room,K.sees,I',K.frm.keep K.inv x,K.stk.step x,K.code,K.qual⟩
theorem zAJ.from{n₀ n₁:Nat}{h₂:Heap}{f:Option Addr}{a c:Addr}(F:zAJ n₁ h₂ f a c) (hk:n₀<=n₁):zAJ n₀ h₂ f a c:=by
 obtain⟨h1,o,vs,e1,e2,e3,e4,e5⟩:=F;exact⟨Nat.le_trans hk h1,o,vs,e1,e2,e3,e4,e5.imp id λ⟨T,oT,ts,q1,q2,q3,q4,q5,q6,q7,q8⟩=>⟨T,oT,ts,q1,q2,Nat.le_trans hk q3,q4,q5,q6,q7,q8⟩⟩
theorem B6{α β:Type}{m:Mn α}{f:α->Mn β}{st:St}(h:bnd m f st≠.bot):m st≠.bot:=λe=>h (by simp only[bnd,e])
section
variable {G:Gd}{C:Cx}{A:Around}{P:List Addr}{env:Env}{s:Shared}{ρ:List Addr}{σ:Bm}{st:St}
noncomputable def B8 (h h':Heap):Prop:=∀b o,h.get? b=some o->h'.get? b=some o
theorem B8.refl(h:Heap):B8 h h:=λ_ _ e=>e
theorem B8.push(h:Heap) (o:Obj):B8 h (h.push o):=λ_ _ e=>Heap.get?_push_of_some o e
theorem B5{h:Heap}{o:Obj}:h.objs.size<=(h.push o).objs.size:=by rw[Heap.size_push];omega
theorem B8.ev{h h':Heap}(g:B8 h h') (z:h.objs.size<=h'.objs.size):Ev P h ρ h' ρ:=⟨λ_ _ e=>e,λb o e _ _=>⟨o,g b o e,.refl o⟩,λ_ m=>.inl m,z⟩
theorem B8.stb{h h':Heap}(g:B8 h h'):Ks h ρ h' ρ:=
 ⟨λ_ _ e=>e,λa _ n1 t=>let⟨n,ho⟩:=t;⟨n1,n,g a _ ho⟩,λa _ n1 t=>let⟨o,ho,r⟩:=t;⟨n1,o,g a o ho,r⟩⟩
theorem B8.ext{h h':Heap}(g:B8 h h'){ρ':List Addr}(hp:∀(k:Nat) (a:Addr),ρ[k]? =some a→ρ'[k]? =some a) (hn:∀a o,a∉ρ→h.get? a=some o→(o.cls=.type "tuple"∨∃c,o.cls=.ref c)→a∉ρ'):Ks h ρ h' ρ':=
 ⟨hp,λa _ n1 t=>let⟨n,ho⟩:=t;⟨hn a _ n1 ho (.inl rfl),n,g a _ ho⟩,λa _ n1 t=>let⟨o,ho,hc,r⟩:=t;⟨hn a o n1 ho (.inr ⟨_,hc.1⟩),o,g a o ho,hc,r⟩⟩
theorem B8.list{h h':Heap}(g:B8 h h'){a:Addr}{vs:Array Value}(x:h.IsList a vs):h'.IsList a vs:=let⟨o,ho,r⟩:=x;⟨o,g a o ho,r⟩
theorem Yz{G:Gd}{vs:List Value}{k:List Int}(h:Kz vs k):ItemsAre (intKind G.prog G.w) k vs:=by
 induction h with
 |nil=>exact .nil
 |cons h _ ih=>obtain⟨t,rfl⟩:=h;exact .cons (by simp[intKind,Value.isInt]) ih
theorem Yp.is{G:Gd}{h:Heap}{a:Addr}{k:List Int}(x:Yp h a k):(zFz G).is h k a:=let⟨vs,⟨n,e⟩,r⟩:=x;⟨_,vs,n,e,rfl,rfl,Yz r⟩
theorem Yp.mono{h h':Heap}{ρ ρ':List Addr}(S:Ks h ρ h' ρ'){a:Addr}{k:List Int}(n:a∉ρ) (x:Yp h a k):a∉ρ'/\Yp h' a k:=let⟨vs,t,r⟩:=x;let⟨n',t'⟩:=S.tup a vs n t;⟨n',vs,t',r⟩
theorem L5.mono{h h':Heap}{ρ ρ':List Addr}(S:Ks h ρ h' ρ'){a:Addr}(hk:∀o,h.get? a=some o->h'.get? a=some o) (hz:h.objs.size<=h'.objs.size){o:PO}(x:L5 G h ρ a o):L5 G h' ρ' a o:=by
 cases o with
 |list ds=>
  obtain⟨vs,⟨n,ho⟩,r⟩:=x;exact⟨vs,⟨n,hk _ ho⟩,B7.mono S _ _ r⟩
 |dict kvs=>
  apply yo;intro _ k0
  obtain⟨xs,⟨o,es,ep,ho,hx,hd,he,hi,hn⟩,hs,e,r⟩:=x;apply k0
  have r':=λx m=>(r x m).2.mono S (r x m).1
  exact⟨xs,⟨o,es,ep,hk _ ho,hx,hd,he,λx m=>(r' x m).2.is,hn⟩,hs,e,r'⟩
 |priv=>
  obtain⟨u,v,ho⟩:=x;exact⟨u,v,hk _ ho⟩
 |ctab PP l c q k=>
  cases k with
  |none=>exact⟨x.1,hk _ x.2⟩
  |some k=>obtain⟨e0,c',e,ho⟩:=x;exact⟨e0,c',S.pre _ _ e,hk _ ho⟩
 |code q=>obtain⟨o,vs,t,ho,r⟩:=x;exact⟨o,vs,t,hk _ ho,r⟩
theorem Cy.grow(I:Cy G s ρ σ){h':Heap}(g:B8 s.heap h') (z:s.heap.objs.size<=h'.objs.size) (t:Nat):Cy G {s with heap:=h',toks:=t} ρ σ where
 base b o e:=g b o (I.base b o e)
 new:=I.new
 nodup:=I.nodup
 len:=I.len
 sto k a o e1 e2:=(I.sto k a o e1 e2).mono g.stb (λo ho=>g a o ho) z
 os:=I.os
 gens:=I.gens
theorem Cy.tok(I:Cy G s ρ σ) (t:Nat):Cy G {s with toks:=t} ρ σ:=I.grow (B8.refl _) (Nat.le_refl _) t
theorem Cy.size_notin(I:Cy G s ρ σ):s.heap.objs.size∉ρ:=λm=>Nat.lt_irrefl _ (I.mem_lt m)
theorem Cy.h0_le(I:Cy G s ρ σ){a:Addr}(h:s.heap.objs.size<=a):G.h0.get? a=none:=by
 cases q:G.h0.get? a with
 |none=>rfl
 |some o=>exact absurd (Heap.lt_size (I.base _ _ q)) (Nat.not_lt.mpr h)
theorem Cy.h0_size(I:Cy G s ρ σ):G.h0.get? s.heap.objs.size=none:=I.h0_le (Nat.le_refl _)
theorem Ej{α:Type}{ρ:List α}{a:α}:∀(k:Nat) (b:α),ρ[k]? =some b->(ρ++[a])[k]? =some b:=λk b e=>by
 rw[List.getElem?_append_left (lq2 e).1];exact e
theorem Cy.adopt(I:Cy G s ρ σ){q:Addr}{p:PO}(h0:G.h0.get? q=none) (hq:q∉ρ) (hnt:∀o,s.heap.get? q=some o→o.cls≠.type "tuple"∧∀c,o.cls≠.ref c)
  (hr:Ks s.heap ρ s.heap (ρ++[q])->L5 G s.heap (ρ++[q]) q p) (t:Nat):Cy G {s with toks:=t} (ρ++[q]) (σ++[p])/\Ks s.heap ρ s.heap (ρ++[q]):=by
 have S:Ks s.heap ρ s.heap (ρ++[q]):=(B8.refl s.heap).ext Ej λa o n1 ho hc m=>by
  rcases List.mem_append.mp m with m|m
  ·exact n1 m
  ·rw[lq0 m]at ho;rcases hc with hc|⟨c,hc⟩
   ·exact(hnt o ho).1 hc
   ·exact(hnt o ho).2 c hc
 refine⟨⟨I.base,λa m=>?_,?_,by simp[I.len],λk a p' e1 e2=>?_,I.os,I.gens⟩,S⟩
 ·rcases List.mem_append.mp m with m|m
  ·exact I.new a m
  ·rw[lq0 m];exact h0
 ·refine List.nodup_append.mpr ⟨I.nodup,by simp,λa m b m' e=>?_⟩
  rw[lq0 m']at e;exact hq (e▸m)
 ·by_cases hk:k<ρ.length
  ·rw[List.getElem?_append_left hk]at e1;rw[List.getElem?_append_left (by rw[←I.len];exact hk)]at e2
   exact(I.sto k a p' e1 e2).mono S (λo' ho'=>ho') (Nat.le_refl _)
  ·have:k=ρ.length:=by
    have:=(lq2 e1).1
    simp at this
    omega
   subst this;simp at e1
   rw[I.len]at e2;simp at e2
   subst e1 e2;exact hr S
theorem J8{h h':Heap}{ρ':List Addr}{q:Addr}(x:Ev P h ρ h' ρ') (hq:h.objs.size<=q):Ev P h ρ h' (ρ'++[q]) where
 pre k a e:=Ej k a (x.pre k a e)
 keep:=x.keep
 newp a m:=by
  rcases List.mem_append.mp m with m|m
  ·exact x.newp a m
  ·rw[lq0 m];exact .inr hq
 size:=x.size
theorem Cy.alloc(I:Cy G s ρ σ){o:Obj}{p:PO}(hnt:o.cls≠.type "tuple"∧∀c,o.cls≠.ref c) (hf:o.isFreed=false)
  (hr:Ks s.heap ρ (s.heap.push o) (ρ++[s.heap.objs.size])->L5 G (s.heap.push o) (ρ++[s.heap.objs.size]) s.heap.objs.size p) (t:Nat):
  Cy G {s with heap:=s.heap.push o,toks:=t} (ρ++[s.heap.objs.size]) (σ++[p])/\(∀P,Ev P s.heap ρ (s.heap.push o) (ρ++[s.heap.objs.size])):=by
 have g:=B8.push s.heap o;have I1:=I.grow g B5 t;have x1:∀P,Ev P s.heap ρ (s.heap.push o) ρ:=λP=>g.ev B5
 have S0:Ks s.heap ρ (s.heap.push o) ρ:=g.stb
 have:=I1.adopt (q:=s.heap.objs.size) (p:=p) I.h0_size I.size_notin (λo' ho'=>by
  have ho'':(s.heap.push o).get? s.heap.objs.size=some o':=ho'
  rw[Heap.get?_push_size _ hf]at ho'';cases ho'';exact hnt) (λS=>hr ⟨S.pre,λa vs n1 t=>let⟨n2,t2⟩:=S0.tup a vs n1 t;S.tup a vs n2 t2,λa c n1 t=>let⟨n2,t2⟩:=S0.exc a c n1 t;S.exc a c n2 t2⟩) t
 exact⟨this.1,λP=>J8 (x1 P) (Nat.le_refl _)⟩
theorem Cy.put(I:Cy G s ρ σ){k:Nat}{a:Addr}{p:PO}{h':Heap}(hk:ρ[k]? =some a) (hs:Heap.SameBut a s.heap h')
  (hr:Ks s.heap ρ h' ρ->L5 G h' ρ a p) (t:Nat):Cy G {s with heap:=h',toks:=t} ρ (σ.set k p)/\∀P,Ev P s.heap ρ h' ρ:=by
 have ha:a∈ρ:=List.mem_of_getElem? hk
 have keep:∀b o,b≠a->s.heap.get? b=some o->h'.get? b=some o:=λb o n e=>(hs.2 b n).trans e
 have hz:s.heap.objs.size<=h'.objs.size:=Nat.le_of_eq hs.1.symm
 have S:Ks s.heap ρ h' ρ:=⟨λ_ _ e=>e,λb items n1 t=>by
   obtain⟨n,ho⟩:=t;exact⟨n1,n,keep b _ (λe=>n1 (e▸ha)) ho⟩,λb c n1 t=>by
   apply yo;intro _ k0
   obtain⟨o,ho,hc,vs,hd⟩:=t;apply k0
   exact⟨n1,o,keep b o (λe=>n1 (e▸ha)) ho,hc,vs,hd⟩⟩
 refine⟨⟨λb o e=>keep b o (λq=>?_) (I.base b o e),I.new,I.nodup,by simp[I.len],λj b p' e1 e2=>?_,I.os,I.gens⟩,
  λP=>⟨λ_ _ e=>e,λb o e n _=>⟨o,keep b o (λq=>n (q▸ha)) e,.refl o⟩,λ_ m=>.inl m,hz⟩⟩
 ·rw[q,I.new a ha]at e;cases e
 ·by_cases hj:j=k
  ·subst hj;rw[hk]at e1;cases e1;rw[List.getElem?_set_self (by rw[←I.len];exact(lq2 hk).1)]at e2
   cases e2;exact hr S
  ·rw[List.getElem?_set_ne (Ne.symm hj)]at e2;have hb:b≠a:=λq=>hj (Bp I.nodup (q▸e1) hk)
   exact(I.sto j b p' e1 e2).mono S (λo ho=>keep b o hb ho) hz
noncomputable def Sq (G:Gd) (h:Heap) (ρ:List Addr) (q:Addr):Prop:=G.h0.get? q=none∧q∉ρ∧∃o T vs,h.get? q=some o∧o.cls=.type T∧T≠"tuple"∧o.data=.fields vs
noncomputable def Hs (S:List Addr) (h h':Heap):Prop:=(∀b o,b∉S->h.get? b=some o->h'.get? b=some o)/\h.objs.size<=h'.objs.size/\∀q,q∈S->zCy h q->zCy h' q
theorem Nr{I:Addr}{h h':Heap}(k:∀b o,b≠I->h.get? b=some o->h'.get? b=some o) (z:h.objs.size<=h'.objs.size) (np:¬zCy h I):Hs [I] h h':=
 ⟨λb o n e=>k b o (λq=>n (by simp[q])) e,z,λq m p=>absurd (lq0 m▸p) np⟩
theorem Mq{S:List Addr}{h:Heap}:Hs S h h:=⟨λ_ _ _ e=>e,Nat.le_refl _,λ_ _ p=>p⟩
theorem Sq.notPrv{h:Heap}{q:Addr}(i:Sq G h ρ q):¬zCy h q:=λ⟨x,y,e⟩=>by
 obtain⟨_,_,o,T,vs,ho,_,_,hd⟩:=i;rw[e]at ho;cases ho;cases hd
noncomputable def Up (G:Gd) (h:Heap) (ρ:List Addr) (σ:Bm) (q:Addr):Prop:=(Sq G h ρ q∨(G.h0.get? q=none/\q∉ρ/\∃vs,Jj h q vs))∨∃k:Nat,ρ[k]? =some q/\σ[k]? =some .priv
theorem Hs.stb{S:List Addr}{h h':Heap}(x:Hs S h h') (i:∀q,q∈S->Up G h ρ σ q):Ks h ρ h' ρ:=
 ⟨λ_ _ e=>e,λb items n1 t=>by
   apply yo;intro _ k0
   obtain⟨n,ho⟩:=t;apply k0
   refine⟨n1,n,x.1 b _ (λm=>?_) ho⟩
   rcases i b m with(⟨_,_,o',T,vs,ho',hc',hT,_⟩|⟨_,_,vs,nn,ho'⟩)|⟨k,e,_⟩
   ·rw[ho]at ho';cases ho'
    cases hc';exact hT rfl
   ·rw[ho]at ho';exact Im (Option.some.inj ho')
   ·exact n1 (List.mem_of_getElem? e),λb c n1 t=>by
   obtain⟨o,ho,hc,vs,hd⟩:=t;refine⟨n1,o,x.1 b o (λm=>?_) ho,hc,vs,hd⟩
   rcases i b m with(⟨_,_,o',T,vs,ho',hc',hT,_⟩|⟨_,_,vs,nn,ho'⟩)|⟨k,e,_⟩
   ·rw[ho]at ho';cases ho';rw[hc.1]at hc';cases hc'
   ·rw[ho]at ho';cases ho'
    cases hc.1
   ·exact n1 (List.mem_of_getElem? e)⟩
theorem Cy.only(I:Cy G s ρ σ){S:List Addr}{h':Heap}(x:Hs S s.heap h') (i:∀q,q∈S->Up G s.heap ρ σ q) (t:Nat):Cy G {s with heap:=h',toks:=t} ρ σ where
 base b o e:=x.1 b o (λm=>by
  rcases i b m with(z|z)|⟨k,z,_⟩
  ·rw[z.1]at e;cases e
  ·rw[z.1]at e;cases e
  ·rw[I.new b (List.mem_of_getElem? z)]at e;cases e) (I.base b o e)
 new:=I.new
 nodup:=I.nodup
 len:=I.len
 sto k a o e1 e2:=by
  by_cases m:a∈S
  ·rcases i a m with(z|z)|⟨k',z1,z2⟩
   ·exact absurd (List.mem_of_getElem? e1) z.2.1
   ·exact absurd (List.mem_of_getElem? e1) z.2.1
   ·have:=Bp I.nodup e1 z1
    subst this;rw[z2]at e2;cases e2;exact x.2.2 a m (I.sto k a .priv e1 z2)
  ·exact(I.sto k a o e1 e2).mono (x.stb i) (λo ho=>x.1 a o m ho) x.2.1
 os:=I.os
 gens:=I.gens
theorem Up.ne_dict{h:Heap}{q:Addr}(z:Up G h ρ σ q) (hr:q∉ρ){o:Obj}(ho:h.get? q=some o):(∀es n,o.data≠.dict es n)/\∀v,o.data≠.cell v:=by
 rcases z with(⟨_,_,o',T,vs,ho',_,_,hd'⟩|⟨_,_,vs,nn,ho'⟩)|⟨k,e,_⟩
 ·rw[ho]at ho';cases ho';rw[hd'];exact⟨λ_ _ z=>(by cases z),λ_ z=>by cases z⟩
 ·rw[ho]at ho';cases ho';exact⟨λ_ _ z=>(by cases z),λ_ z=>by cases z⟩
 ·exact absurd (List.mem_of_getElem? e) hr
theorem Ho.only{tbl:List Str}{loc:C3}(F:Ho G tbl P env s.heap ρ loc){S:List Addr}{h':Heap}(x:Hs S s.heap h') (i:∀q,q∈S->Up G s.heap ρ σ q):Ho G tbl P env h' ρ loc where
 kind:=F.kind
 glob:=F.glob
 bi:=F.bi
 ns:=by
  apply yo;intro _ k0
  obtain⟨m,⟨o,es,ep,ho,hd,r⟩,q⟩:=F.ns;apply k0
  refine⟨m,⟨o,es,ep,x.1 _ o (λmm=>?_) ho,hd,r⟩,λi' y e k d hd=>let⟨v,e1,e2⟩:=q i' y e k d hd;⟨v,e1,Cn.mono (x.stb i) d v e2⟩⟩
  exact((i _ mm).ne_dict F.lrho ho).1 _ _ hd
 cell i' y e k:=by
  apply yo;intro _ k0
  obtain⟨c,e1,ov,⟨o,ho,hd⟩,q⟩:=F.cell i' y e k;apply k0
  refine⟨c,e1,ov,⟨o,x.1 c o (λmm=>?_) ho,hd⟩,λd hd=>let⟨v,e1,e2⟩:=q d hd;⟨v,e1,Cn.mono (x.stb i) d v e2⟩⟩
  exact((i _ mm).ne_dict (F.cok y c e1).1 ho).2 _ hd
 cok y c e:=by
  apply yo;intro _ k0
  obtain⟨n,ov,o,ho,hd⟩:=F.cok y c e;apply k0
  refine⟨n,ov,o,x.1 c o (λmm=>?_) ho,hd⟩
  exact((i _ mm).ne_dict n ho).2 _ hd
 cinj:=F.cinj
 lrho:=F.lrho
 lP:=F.lP
 own:=F.own
 tnd:=F.tnd
theorem Sj.only(K:Sj G A env s.heap ρ){S:List Addr}{h':Heap}(x:Hs S s.heap h') (i:∀q,q∈S->Up G s.heap ρ σ q):Sj G A env h' ρ:=
 ⟨K.fr,λfs e en m=>by
  apply yo;intro _ k0
  obtain⟨hk,L,o,es,n,hf,h0,hr,ho,hd⟩:=K.ff fs e en m;apply k0
  refine⟨hk,L,o,es,n,hf,h0,hr,x.1 L o (λmm=>?_) ho,hd⟩
  exact((i _ mm).ne_dict hr ho).1 _ _ hd⟩
theorem Ok.only(K:Ok G C A P env s ρ st){S:List Addr}{h':Heap}(x:Hs S s.heap h') (i:∀q,q∈S->Up G s.heap ρ st.sto q) (t:Nat):Ok G C A P env {s with heap:=h',toks:=t} ρ st:=
 ⟨K.room,K.sees,K.inv.only x i t,K.frm.only x i,K.stk.only x i,K.code,K.qual⟩
theorem Ok.grow(K:Ok G C A P env s ρ st){h':Heap}(g:B8 s.heap h') (z:s.heap.objs.size<=h'.objs.size) (t:Nat):Ok G C A P env {s with heap:=h',toks:=t} ρ st:=by
 have:=K.step (K.inv.grow g z t) (B8.ev (P:=[]) (ρ:=ρ) g z)
 exact this
theorem Ev.only{hs h h':Heap}{ρs:List Addr}(x:Ev P hs ρs h ρ){S:List Addr}(y:Hs S h h') (n:∀q,q∈S->hs.objs.size<=q∨q∈ρs):Ev P hs ρs h' ρ where
 pre:=x.pre
 keep b o e n1 n2:=by
  obtain⟨o',e',q⟩:=x.keep b o e n1 n2;exact⟨o',y.1 b o' (λm=>(n b m).elim (λz=>Nat.lt_irrefl _ (Nat.lt_of_lt_of_le (Heap.lt_size e) z)) n1) e',q⟩
 newp:=x.newp
 size:=Nat.le_trans x.size y.2.1
theorem Sq.keep{h':Heap}{ρ':List Addr}{q:Addr}(i:Sq G s.heap ρ q) (x:Ev P s.heap ρ h' ρ') (F:NT s.heap P):Sq G h' ρ' q/\h'.get? q=s.heap.get? q:=by
 apply yo;intro _ k0
 obtain⟨h1,h2,o,T,vs,ho,hc,hT,hd⟩:=i;obtain⟨o',ho',e⟩:=x.keep q o ho h2 (λm=>by
  obtain⟨o',ho',z⟩:=F q m;rw[ho]at ho';cases ho';rcases z with⟨_,_,z⟩|⟨_,z⟩|⟨_,_,z⟩
  ·rw[hd]at z;cases z
  ·rw[hd]at z;cases z
  ·rw[z]at hd;cases hd)
 have e':=e.eq (λes n z=>by rw[hd]at z;cases z)
 subst e';apply k0
 exact⟨⟨h1,x.notin ho h2,o',T,vs,ho',hc,hT,hd⟩,ho'.trans ho.symm⟩
end
inductive zBe (s s':Shared):Prop
 |mk (h':Heap) (tk:Nat) (e:s'={s with heap:=h',toks:=tk}) (g:B8 s.heap h')
inductive zJD {α β:Type}(o:O8 β) (st:St) (s:Shared) (ρ:List Addr) (R:Heap->List Addr->β->α->Prop) (v:α) (s':Shared):Prop
 |mk (d:β) (e:o=.ok d st) (g:zBe s s') (r:R s'.heap ρ d v)
inductive H3 {α β:Type}(G:Gd) (s:Shared) (ρ:List Addr) (st:St) (R:Heap->List Addr->β->α->Prop) (r:O8 β) (v:α) (s':Shared):Prop
 |mk (ρ':List Addr) (d:β) (σ':Bm):r=.ok d ⟨st.loc,σ'⟩->Cy G s' ρ' σ'->Ev [] s.heap ρ s'.heap ρ'->R s'.heap ρ' d v->H3 G s ρ st R r v s'
theorem H3.elim{α β:Type}{G:Gd}{s s':Shared}{ρ:List Addr}{st:St}{R:Heap->List Addr->β->α->Prop}{r:O8 β}{v:α}{P:Prop}(q:H3 G s ρ st R r v s') (h:∀ρ' d σ',r=.ok d ⟨st.loc,σ'⟩->Cy G s' ρ' σ'->Ev [] s.heap ρ s'.heap ρ'->R s'.heap ρ' d v->P):P:=
 let⟨ρ',d,σ',e,I,x,rr⟩:=q;h ρ' d σ' e I x rr
theorem H3.tr{α β:Type}{G:Gd}{s s1 s':Shared}{ρ ρ1:List Addr}{st:St}{σ1:Bm}{R:Heap->List Addr->β->α->Prop}{r:O8 β}{v:α}(q:H3 G s1 ρ1 ⟨st.loc,σ1⟩ R r v s') (x:Ev [] s.heap ρ s1.heap ρ1):H3 G s ρ st R r v s':=
 let⟨ρ',d,σ',e,I,x2,rr⟩:=q;⟨ρ',d,σ',e,I,x.trans x2,rr⟩
theorem C1.imp{α β:Type}{G:Gd}{env:Env}{s s':Shared}{ρ:List Addr}{st:St}{r:O8 α}{r':O8 β}{x:Value}(q:C1 G env s ρ st r x s') (h:∀c st',r=.exc c st'->r'=.exc c st'):C1 G env s ρ st r' x s':=
 let⟨ρ',c,σ',a,e,q1,q2,q3,q4⟩:=q;⟨ρ',c,σ',a,h _ _ e,q1,q2,q3,q4⟩
theorem C1.bnd{α β:Type}{G:Gd}{env:Env}{s s':Shared}{ρ:List Addr}{st:St}{m:Mn α}{f:α->Mn β}{x:Value}(q:C1 G env s ρ st (m st) x s'):C1 G env s ρ st (bnd m f st) x s':=q.imp λ_ _ e=>by simp only[Mine.Internal.bnd,e]
theorem C1.tr{α:Type}{G:Gd}{env:Env}{s s1 s':Shared}{ρ ρ1:List Addr}{st:St}{σ1:Bm}{r:O8 α}{x:Value}(q:C1 G env s1 ρ1 ⟨st.loc,σ1⟩ r x s') (y:Ev [] s.heap ρ s1.heap ρ1):C1 G env s ρ st r x s':=
 let⟨ρ',c,σ',a,e,I,x2,ex,fl⟩:=q;⟨ρ',c,σ',a,e,I,y.trans x2,ex,fl.from y.size⟩
noncomputable def At {α β:Type}(G:Gd) (A:Around) (env:Env) (s:Shared) (ρ:List Addr) (st:St) (R:Heap->List Addr->β->α->Prop) (t:Sem α) (m:Mn β):Prop:=
 m st≠.bot->wpAny G.M A t (H3 G s ρ st R (m st)) (C1 G env s ρ st (m st)) s
noncomputable abbrev RV (G:Gd):Heap->List Addr->D->Value->Prop:=λh ρ d v=>Cn G h ρ d v
noncomputable abbrev RB:Heap->List Addr->Bool->Bool->Prop:=λ_ _ b c=>b=c
noncomputable abbrev zLC (G:Gd):Heap->List Addr->List D->List Value->Prop:=λh ρ ds vs=>B7 G h ρ ds vs
structure SE (G:Gd) (C:Cx) (e:Expr) (m:Mn D):Prop where
 run:∀A P env s ρ st,Ok G C A P env s ρ st->At G A env s ρ st (RV G) (eval e env) m
structure SB (G:Gd) (C:Cx) (e:Expr) (m:Mn Bool):Prop where
 run:∀A P env s ρ st,Ok G C A P env s ρ st->At G A env s ρ st RB (isTrue e env (eval e env)) m
structure SA (G:Gd) (C:Cx) (es:List Expr) (m:Mn (List D)):Prop where
 run:∀A P env s ρ st pos,Ok G C A P env s ρ st->At G A env s ρ st (zLC G) (spliced (backTo pos (starEach es env))) m
section
variable {α β γ δ:Type}{G:Gd}{C:Cx}{A:Around}{P:List Addr}{env:Env}{s:Shared}{ρ:List Addr}{st:St}
theorem At.bind{R:Heap->List Addr->β->α->Prop}{R':Heap->List Addr->δ->γ->Prop}{t:Sem α}{m:Mn β}{k:α->Sem γ}{f:β->Mn δ}(K:Ok G C A P env s ρ st) (h1:At G A env s ρ st R t m)
  (h2:∀v s' ρ' d σ',Ok G C A P env s' ρ' ⟨st.loc,σ'⟩->Ev [] s.heap ρ s'.heap ρ'->R s'.heap ρ' d v->At G A env s' ρ' ⟨st.loc,σ'⟩ R' (k v) (f d)):
  At G A env s ρ st R' (t >>= k) (bnd m f):=λhb=>by
 refine wpAny_bind (wpAny_mono (h1 (B6 hb)) (λv s' q=>?_) λx s' q=>?_)
 ·refine H3.elim q λρ' d σ' e I' x r=>?_
  have e':bnd m f st=f d ⟨st.loc,σ'⟩:=by simp only[bnd,e]
  rw[e']at hb ⊢;refine wpAny_mono (h2 v s' ρ' d σ' (K.step I' x) x r hb) (λw s'' q=>?_) λw s'' q=>?_
  ·exact H3.tr q x
  ·exact C1.tr q x
 ·exact C1.bnd q
theorem At.hold{R:Heap->List Addr->β->α->Prop}{t:Sem α}{m:Mn β}{vs:List Value}(h:At G A env s ρ st R t m):At G A env s ρ st R (holding vs t) m:=λhb=>wpAny_holding (h hb)
theorem At.stand{R:Heap->List Addr->β->α->Prop}{t:Sem α}{m:Mn β}{p:Pos}(h:At G A env s ρ st R t m):At G A env s ρ st R (standAt p >>= λ_=>t) m:=λhb=>wpAny_bind (wpAny_standAt (h hb))
theorem At.ofEq{R:Heap->List Addr->β->α->Prop}{t t':Sem α}{m:Mn β}(e:t=t') (h:At G A env s ρ st R t' m):At G A env s ρ st R t m:=e▸h
theorem At.pure{R:Heap->List Addr->β->α->Prop}{d:β}{v:α}(K:Ok G C A P env s ρ st) (h:R s.heap ρ d v):At G A env s ρ st R (pure v) (ret1 d):=λ_=>wpAny_pure ⟨ρ,d,st.sto,rfl,K.inv,Ev.refl,h⟩
theorem At.leaf{R:Heap->List Addr->β->α->Prop}{t:Sem α}{m:Mn β}(h:m st≠.bot->wpAny G.M A t (zJD (m st) st s ρ R) (λ_ _=>False) s)
  (K:Ok G C A P env s ρ st):At G A env s ρ st R t m:=λhb=>by
 refine wpAny_mono (L3 (h hb)) (λv s' q=>?_) λ_ _ q=>q.2.elim
 obtain⟨z,d,e,⟨h',tk,rfl,g⟩,r⟩:=q;exact⟨ρ,d,st.sto,e,K.inv.grow g z tk,g.ev z,r⟩
theorem B8.same{s:Shared}{t:Nat}:zBe s {s with toks:=t}:=⟨s.heap,t,rfl,.refl _⟩
theorem B8.same0{s:Shared}:zBe s s:=⟨s.heap,s.toks,rfl,.refl _⟩
theorem At.map{R:Heap->List Addr->β->α->Prop}{R':Heap->List Addr->δ->γ->Prop}{t:Sem α}{m:Mn β}{f:β->δ}{g:α->γ}(h:At G A env s ρ st R t m)
  (hr:∀h ρ d v,R h ρ d v->R' h ρ (f d) (g v)):At G A env s ρ st R' (t >>= λv=>Pure.pure (g v)) (bnd m λd=>ret1 (f d)):=λhb=>by
 refine wpAny_bind (wpAny_mono (h (B6 hb)) (λv s' q=>?_) λx s' q=>?_)
 ·refine H3.elim q λρ' d σ' e I' x r=>?_
  exact wpAny_pure ⟨ρ',f d,σ',by simp only[bnd,e,ret1],I',x,hr _ _ _ _ r⟩
 ·exact C1.bnd q
end
noncomputable def A6 (i:Nat):Mn D:=λst=>match st.loc i with
 |some d=>.ok d st
 |none=>.bot
section
variable {G:Gd}{C:Cx}
theorem zIA{i:Int}{k:Nat}{pos:Pos}:SE G C (.Constant (.int i) k pos) (ret1 (.int i)):=.mk <| λA P env s ρ st K=>
 At.leaf (λ_=>wpAny_Constant_int ⟨_,rfl,B8.same,⟨_,rfl⟩⟩) K
theorem zHA{x:Str}{k:Nat}{pos:Pos}:SE G C (.Constant (.str x) k pos) (ret1 (.str x)):=.mk <| λA P env s ρ st K=>
 At.leaf (λ_=>Calls.Constant_str ⟨_,rfl,B8.same,⟨_,rfl⟩⟩) K
theorem zDI{b:Bool}{k:Nat}{pos:Pos}:SE G C (.Constant (.bool b) k pos) (ret1 (.bool b)):=.mk <| λA P env s ρ st K=>At.pure K rfl
theorem zFD{k:Nat}{pos:Pos}:SE G C (.Constant .none k pos) (ret1 .none):=.mk <| λA P env s ρ st K=>At.pure K rfl
theorem zB1{i:Nat}{x:Str}{pos:Pos}(hi:C.tbl[i]? =some x) (hx:C.names.lookup x=some .local) (hd:(x==("__debug__":Str))=false):SE G C (.Name x pos) (A6 i):=.mk <| λA P env s ρ st K=>by
 refine At.leaf (λhb=>?_) K
 obtain⟨m,n,q⟩:=K.frm.ns
 cases e:st.loc i with
 |none=>exact absurd (by simp only[A6,e]) hb
 |some d=>
  obtain⟨v,e1,e2⟩:=q i x hi (K.sees.loc x hx) d e;exact wpAny_Name (wpAny_loadName_local K.frm.kind (K.sees.loc x hx) n e1 ⟨d,by simp only[A6,e],B8.same0,e2⟩) hd
theorem X4{i:Nat}{x:Str}{pos:Pos}(hi:C.tbl[i]? =some x) (hx:C.names.lookup x=some .cell∨C.names.lookup x=some .free) (hd:(x==("__debug__":Str))=false) (hn:(x==("__classdict__":Str))=false):
  SE G C (.Name x pos) (A6 i):=.mk <| λA P env s ρ st K=>by
 refine At.leaf (λhb=>?_) K
 have hk:=hx.elim (λh=>Or.inl (K.sees.cell x h)) (K.sees.free x)
 obtain⟨c,e1,ov,n,q⟩:=K.frm.cell i x hi hk
 cases e:st.loc i with
 |none=>exact absurd (by simp only[A6,e]) hb
 |some d=>
  obtain⟨v,rfl,e2⟩:=q d e;refine wpAny_Name ?_ hd
  rcases hk with hk|hk
  ·exact wpAny_loadName_cell K.frm.kind hk e1 n ⟨d,by simp only[A6,e],B8.same0,e2⟩
  ·exact wpAny_loadName_free K.frm.kind hk e1 n ⟨d,by simp only[A6,e],B8.same0,e2⟩ hn
end
noncomputable def H8 (G:Gd) (op:Operator) (f:D->D->Mn D):Prop:=
 ∀C A P env s ρ st d1 d2 v1 v2,Ok G C A P env s ρ st->Cn G s.heap ρ d1 v1->Cn G s.heap ρ d2 v2->At G A env s ρ st (RV G) (binaryOp op v1 v2) (f d1 d2)
section
variable {G:Gd}{C:Cx}
theorem At.operate{α:Type}{A:Around}{env:Env}{s:Shared}{ρ:List Addr}{st:St}{R:Heap->List Addr->α->Value->Prop}{t:Sem Value}{m:Mn α}{vs:List Value}(h:At G A env s ρ st R t m):
  At G A env s ρ st R (operate vs t) m:=λhb Γ p hΓ=>by rw[Sem.wp_operate];exact h hb Γ p hΓ
theorem zH5{l r:Expr}{op:Operator}{pos:Pos}{m1 m2:Mn D}{f:D->D->Mn D}(ho:H8 G op f) (h1:SE G C l m1) (h2:SE G C r m2):
  SE G C (.BinOp l op r pos) (bnd m1 λa=>bnd m2 λb=>f a b):=.mk <| λA P env s ρ st K=>by
 show At G A env s ρ st (RV G) (do let a ←eval l env;let b ←holding [a] (eval r env);standAt pos;operate [a,b] (binaryOp op a b)) _
 refine At.bind K (h1.run A P env s ρ st K) λv s' ρ' d σ' K' x r1=>?_
 refine At.bind K' (h2.run A P env s' ρ' _ K').hold λv2 s'' ρ'' d2 σ'' K'' x2 r2=>?_
 exact At.stand (At.operate (ho C A P env s'' ρ'' _ d d2 v v2 K'' (Cn.mono (x2.stb K'.inv .nil) _ _ r1) r2))
end
noncomputable def zAL (f:Int->Int->Mn D) (g:Str->Str->Mn D):D->D->Mn D
 |.int a,.int b=>f a b
 |.str x,.str y=>g x y
 |_,_=>botM
theorem H1{f:Int->Int->Mn D}{g:Str->Str->Mn D}{d1 d2:D}{st:St}(hb:zAL f g d1 d2 st≠.bot):(∃a b,d1=.int a/\d2=.int b)∨∃x y,d1=.str x/\d2=.str y:=by
 cases d1 with
 |int a=>cases d2<;>first|exact .inl ⟨_,_,rfl,rfl⟩|exact absurd rfl hb
 |str x=>cases d2<;>first|exact .inr ⟨_,_,rfl,rfl⟩|exact absurd rfl hb
 |_=>exact absurd rfl hb
noncomputable def zII:Str->Str->Mn D:=λ_ _=>botM
noncomputable def Ek:D->D->Mn D:=zAL (λa b=>ret1 (.int (a - b))) zII
noncomputable def Ec:D->D->Mn D:=zAL (λa b=>if b≠0/\b.natAbs<1073741824 then ret1 (.int (a.fdiv b))else botM) zII
noncomputable def zIM:D->Option Nat
 |.ref k=>some k
 |_=>none
theorem P4{d:D}{k:Nat}(h:zIM d=some k):d=.ref k:=by cases d<;>first|(cases h;done)|(cases h;rfl)
noncomputable def zFk:Option PO->Option (List D)
 |some (.list a)=>some a
 |_=>none
theorem On{o:Option PO}{a:List D}(h:zFk o=some a):o=some (.list a):=by
 cases o with
 |none=>cases h
 |some o=>cases o<;>first|(cases h;done)|(cases h;rfl)
noncomputable def Nn {α:Type}(o:Option PO) (f:List D->O8 α):O8 α:=match o with
 |some (.list ds)=>f ds
 |_=>.bot
theorem Hv{P:Prop}{α:Type}{o:Option PO}{f:List D->O8 α}(hb:Nn o f≠.bot) (w:∀ds,o=some (.list ds)->Nn o f=f ds->P):P:=by
 cases o with
 |none=>exact absurd rfl hb
 |some o=>cases o<;>first|exact absurd rfl hb|exact w _ rfl rfl
theorem Ob{P:Prop}{G:Gd}{h:Heap}{ρ:List Addr}{k:Nat}{v:Value}(r:Cn G h ρ (.ref k) v) (w:∀a,v=.ref a->ρ[k]? =some a->P):P:=by
 obtain⟨a,e,q⟩:=r;exact w a e q
theorem Sm{P:Prop}{G:Gd}{h:Heap}{ρ:List Addr}{ds:List D}{v:Value}(r:Cn G h ρ (.tup ds) v) (w:∀a vs n,v=.ref a->a∉ρ->h.get? a=some (W2 vs n)->B7 G h ρ ds vs.toList->P):P:=by
 obtain⟨a,vs,e,hn,⟨n,ho⟩,q⟩:=r;exact w a vs n e hn ho q
theorem zEq{P:Prop}{G:Gd}{h:Heap}{ρ:List Addr}{i:Int}{v:Value}(r:Cn G h ρ (.int i) v) (w:∀t,v=.int i t->P):P:=by
 obtain⟨t,e⟩:=r;exact w t e
theorem M6{P:Prop}{G:Gd}{s:Shared}{ρ:List Addr}{σ:Bm}{k:Nat}{a:Addr}{ds:List D}(I:Cy G s ρ σ) (e:ρ[k]? =some a) (q:σ[k]? =some (.list ds)) (w:∀vs n,s.heap.get? a=some (G2 vs n)->B7 G s.heap ρ ds vs.toList->P):P:=by
 obtain⟨vs,⟨n,h⟩,r⟩:=I.sto k a _ e q;exact w vs n h r
noncomputable def upd (loc:C3) (i:Nat) (d:D):C3:=λj=>if j=i then some d else loc j
noncomputable def Aj (i:Nat) (d:D):Mn Fl:=λst=>.ok .next ⟨upd st.loc i d,st.sto⟩
noncomputable def Wr (env:Env) (P:List Addr):Prop:=∀x c,env.cells.lookup x=some c->c∈P
noncomputable def zKi (G:Gd) (h:Heap) (ρ:List Addr):Fl->Flow->Prop
 |.next,f=>f=.next
 |.brk,f=>f=.brk
 |.cont,f=>f=.cont
 |.ret d,f=>∃v,f=.ret v/\Cn G h ρ d v
inductive zKx (G:Gd) (tbl:List Str) (P:List Addr) (env:Env) (s:Shared) (ρ:List Addr) (r:O8 Fl) (f:Flow) (s':Shared):Prop
 |mk (ρ':List Addr) (fl:Fl) (st':St):r=.ok fl st'->Cy G s' ρ' st'.sto->Ev P s.heap ρ s'.heap ρ'->Ho G tbl P env s'.heap ρ' st'.loc->zKi G s'.heap ρ' fl f->zKx G tbl P env s ρ r f s'
inductive zHI (G:Gd) (tbl:List Str) (P:List Addr) (env:Env) (s:Shared) (ρ:List Addr) (r:O8 Fl) (x:Value) (s':Shared):Prop
 |mk (ρ':List Addr) (c:Addr) (st':St) (a:Addr):r=.exc c st'->Cy G s' ρ' st'.sto->Ev P s.heap ρ s'.heap ρ'->Ho G tbl P env s'.heap ρ' st'.loc->x=.ref a->zAJ s.heap.objs.size s'.heap env.frame a c->zHI G tbl P env s ρ r x s'
theorem C1.toS{α:Type}{G:Gd}{C:Cx}{A:Around}{P:List Addr}{env:Env}{s s':Shared}{ρ:List Addr}{st:St}{m:Mn α}{f:α->Mn Fl}{x:Value}(K:Ok G C A P env s ρ st) (q:C1 G env s ρ st (m st) x s'):zHI G C.tbl P env s ρ (Mine.Internal.bnd m f st) x s':=
 let⟨ρ',c,σ',a,e,I',x',ex,fl⟩:=q;⟨ρ',c,⟨st.loc,σ'⟩,a,by simp only[Mine.Internal.bnd,e],I',x'.nil,K.frm.keep K.inv x',ex,fl⟩
noncomputable def Zg (G:Gd) (tbl:List Str) (A:Around) (P:List Addr) (env:Env) (s:Shared) (ρ:List Addr) (st:St) (t:Sem Flow) (m:Mn Fl):Prop:=
 m st≠.bot->wpAny G.M A t (zKx G tbl P env s ρ (m st)) (zHI G tbl P env s ρ (m st)) s
structure SS (G:Gd) (C:Cx) (t:Stmt) (m:Mn Fl):Prop where
 run:∀A P env s ρ st,Ok G C A P env s ρ st->Wr env P->Zg G C.tbl A P env s ρ st (exec t env) m
structure Uh (G:Gd) (C:Cx) (t:List Stmt) (m:Mn Fl):Prop where
 run:∀A P env s ρ st,Ok G C A P env s ρ st->Wr env P->Zg G C.tbl A P env s ρ st (execs t env) m
section
variable {G:Gd}{C:Cx}{A:Around}{P:List Addr}{env:Env}{s:Shared}{ρ:List Addr}{st:St}{σ:Bm}
theorem Ok.stepS(K:Ok G C A P env s ρ st){s':Shared}{ρ':List Addr}{st':St}(I':Cy G s' ρ' st'.sto) (x:Ev P s.heap ρ s'.heap ρ') (F':Ho G C.tbl P env s'.heap ρ' st'.loc):Ok G C A P env s' ρ' st':=
 ⟨K.room,K.sees,I',F',⟨K.stk.fr,λfs e=>(K.stk.ff fs e).keepF x K.frm F'⟩,K.code,K.qual⟩
theorem Mo(I:Cy G s ρ σ){p:Addr}{h':Heap}(hs:Heap.SameBut p s.heap h') (hp:p∈P) (h0:G.h0.get? p=none) (hr:p∉ρ)
  (hn:∃o,s.heap.get? p=some o/\((∃es n,o.data=.dict es n)∨∃v,o.data=.cell v)) (t:Nat):
  Cy G {s with heap:=h',toks:=t} ρ σ/\Ev P s.heap ρ h' ρ/\Ks s.heap ρ h' ρ:=by
 have keep:∀b o,b≠p->s.heap.get? b=some o->h'.get? b=some o:=λb o n e=>(hs.2 b n).trans e
 have hz:s.heap.objs.size<=h'.objs.size:=Nat.le_of_eq hs.1.symm
 obtain⟨op,hop,hd⟩:=hn;have S:Ks s.heap ρ h' ρ:=⟨λ_ _ e=>e,λb items n1 t=>by
   obtain⟨n,ho⟩:=t;refine⟨n1,n,keep b _ (λe=>?_) ho⟩
   rw[e,hop]at ho;cases ho;rcases hd with⟨_,_,z⟩|⟨_,z⟩<;>(cases z),λb c n1 t=>by
   apply yo;intro _ k0
   obtain⟨o,ho,hc,vs,hd'⟩:=t;apply k0
   refine⟨n1,o,keep b o (λe=>?_) ho,hc,vs,hd'⟩
   rw[e,hop]at ho;cases ho;rw[hd']at hd;rcases hd with⟨_,_,z⟩|⟨_,z⟩<;>cases z⟩
 refine⟨⟨λb o e=>keep b o (λq=>by rw[q,h0]at e;cases e) (I.base b o e),I.new,I.nodup,I.len,λk a o e1 e2=>?_,I.os,I.gens⟩,⟨λ_ _ e=>e,λb o e n n2=>⟨o,keep b o (λq=>n2 (q▸hp)) e,.refl o⟩,λ_ m=>.inl m,hz⟩,S⟩
 exact(I.sto k a o e1 e2).mono S (λo ho=>keep a o (λq=>hr (q▸List.mem_of_getElem? e1)) ho) hz
theorem Ho.set_local{tbl:List Str}{loc:C3}(F:Ho G tbl P env s.heap ρ loc) (I:Cy G s ρ σ){i:Nat}{x:Str}{d:D}{v:Value}{m:Str->Option Value}{h':Heap}(hi:tbl[i]? =some x) (hx:env.kindOf x=some .local)
  (hm:s.heap.Ns env.locals m) (q:∀(i:Nat) (x:Str),tbl[i]? =some x->env.kindOf x=some .local->∀d,loc i=some d->∃v,m x=some v/\Cn G s.heap ρ d v)
  (hn:h'.Ns env.locals (λy=>if y=x then some v else m y)) (hs:Heap.SameBut env.locals s.heap h') (r:Cn G s.heap ρ d v) (t:Nat):
  Cy G {s with heap:=h',toks:=t} ρ σ/\Ev P s.heap ρ h' ρ/\Ho G tbl P env h' ρ (upd loc i d):=by
 have own:=F.own _ F.lP;apply yo;intro _ k0
 obtain⟨oL,esL,epL,hoL,hdL,rL⟩:=id hm;obtain⟨oN,esN,epN,hoN,hdN,rN⟩:=id hn;obtain⟨I',x',S⟩:=Mo (P:=P) I hs F.lP own.1 F.lrho ⟨oL,hoL,.inl ⟨esL,epL,hdL⟩⟩ t
 apply k0
 have cellne:∀y c,env.cells.lookup y=some c->c≠env.locals:=λy c e z=>by
  obtain⟨_,ov,o,ho,hd⟩:=F.cok y c e;rw[z,hoL]at ho;cases ho;rw[hdL]at hd;cases hd
 refine⟨I',x',⟨F.kind,F.glob,F.bi,⟨_,hn,λj y e k d' hd'=>?_⟩,λj y e k=>?_,λy c e=>?_,F.cinj,F.lrho,F.lP,F.own,F.tnd⟩⟩
 ·by_cases hj:j=i
  ·subst hj;rw[hi]at e;cases e;simp only[upd,if_true]at hd'
   cases hd';exact⟨v,by simp,Cn.mono S _ _ r⟩
  ·simp only[upd,hj,if_false]at hd';obtain⟨v',e1,e2⟩:=q j y e k d' hd';have hy:y≠x:=λz=>hj (Bp F.tnd (z▸e) hi)
   exact⟨v',by simp only[hy,if_false];exact e1,Cn.mono S _ _ e2⟩
 ·obtain⟨c,e1,ov,n,qq⟩:=F.cell j y e k;refine⟨c,e1,ov,n.sameBut hs (cellne y c e1),λd' hd'=>?_⟩
  have hj:j≠i:=λz=>by
   subst z;rw[hi]at e;cases e;rw[hx]at k;rcases k with k|k<;>cases k
  simp only[upd,hj,if_false]at hd';obtain⟨v',e1,e2⟩:=qq d' hd';exact⟨v',e1,Cn.mono S _ _ e2⟩
 ·obtain⟨n,ov,z⟩:=F.cok y c e;exact⟨n,ov,z.sameBut hs (cellne y c e)⟩
theorem Ho.set_cell{tbl:List Str}{loc:C3}(F:Ho G tbl P env s.heap ρ loc) (I:Cy G s ρ σ){i:Nat}{x:Str}{d:D}{v:Value}{c:Addr}{h':Heap}(hi:tbl[i]? =some x) (hx:env.kindOf x=some .cell)
  (hc:env.cells.lookup x=some c) (hP:c∈P) (hn:h'.IsCell c (some v)) (hs:Heap.SameBut c s.heap h') (r:Cn G s.heap ρ d v) (t:Nat):
  Cy G {s with heap:=h',toks:=t} ρ σ/\Ev P s.heap ρ h' ρ/\Ho G tbl P env h' ρ (upd loc i d):=by
 have own:=F.own _ hP;apply yo;intro _ k0
 obtain⟨n0,ov0,o0,ho0,hd0⟩:=F.cok x c hc;obtain⟨oN,hoN,hdN⟩:=id hn;obtain⟨I',x',S⟩:=Mo (P:=P) I hs hP own.1 n0 ⟨o0,ho0,.inr ⟨ov0,hd0⟩⟩ t
 obtain⟨m,nm,q⟩:=F.ns;apply k0
 have lne:env.locals≠c:=λz=>by
  obtain⟨oL,esL,epL,hoL,hdL,rL⟩:=nm;rw[z,ho0]at hoL;cases hoL;rw[hdL]at hd0;cases hd0
 refine⟨I',x',⟨F.kind,F.glob,F.bi,⟨m,nm.sameBut hs lne,λj y e k d' hd'=>?_⟩,λj y e k=>?_,λy c' e=>?_,F.cinj,F.lrho,F.lP,F.own,F.tnd⟩⟩
 ·have hj:j≠i:=λz=>by
   subst z;rw[hi]at e;cases e;rw[hx]at k;cases k
  simp only[upd,hj,if_false]at hd';obtain⟨v',e1,e2⟩:=q j y e k d' hd';exact⟨v',e1,Cn.mono S _ _ e2⟩
 ·by_cases hj:j=i
  ·subst hj;rw[hi]at e;cases e;refine⟨c,hc,some v,hn,λd' hd'=>?_⟩
   simp only[upd,if_true]at hd'
   cases hd';exact⟨v,rfl,Cn.mono S _ _ r⟩
  ·apply yo;intro _ k0
   obtain⟨c',e1,ov,n,qq⟩:=F.cell j y e k;apply k0
   have hy:y≠x:=λz=>hj (Bp F.tnd (z▸e) hi)
   have hcc:c'≠c:=λz=>hy (F.cinj y x c (z▸e1) hc)
   refine⟨c',e1,ov,n.sameBut hs hcc,λd' hd'=>?_⟩
   simp only[upd,hj,if_false]at hd';obtain⟨v',e1,e2⟩:=qq d' hd';exact⟨v',e1,Cn.mono S _ _ e2⟩
 ·obtain⟨n,ov,z⟩:=F.cok y c' e;by_cases hcc:c'=c
  ·subst hcc;exact⟨n,_,hn⟩
  ·exact⟨n,ov,z.sameBut hs hcc⟩
theorem Zg.bind{α β:Type}{R:Heap->List Addr->β->α->Prop}{t:Sem α}{m:Mn β}{k:α->Sem Flow}{f:β->Mn Fl}(K:Ok G C A P env s ρ st) (h1:At G A env s ρ st R t m)
  (h2:∀v s' ρ' d σ',Ok G C A P env s' ρ' ⟨st.loc,σ'⟩->Ev [] s.heap ρ s'.heap ρ'->R s'.heap ρ' d v->Zg G C.tbl A P env s' ρ' ⟨st.loc,σ'⟩ (k v) (f d)):
  Zg G C.tbl A P env s ρ st (t >>= k) (bnd m f):=λhb=>by
 refine wpAny_bind (wpAny_mono (h1 (B6 hb)) (λv s' q=>?_) λx s' q=>?_)
 ·refine H3.elim q λρ' d σ' e I' x r=>?_
  have e':bnd m f st=f d ⟨st.loc,σ'⟩:=by simp only[bnd,e]
  rw[e']at hb ⊢;refine wpAny_mono (h2 v s' ρ' d σ' (K.step I' x) x r hb) (λw s'' q=>?_) λw s'' q=>?_
  ·obtain⟨ρ'',fl,st'',e2,I'',x2,F2,r2⟩:=q;exact⟨ρ'',fl,st'',e2,I'',x.nil.trans x2,F2,r2⟩
  ·obtain⟨ρ'',c,st'',a,e2,I'',x2,F2,rfl,fl⟩:=q;exact⟨ρ'',c,st'',a,e2,I'',x.nil.trans x2,F2,rfl,fl.from x.size⟩
 ·exact C1.toS K q
theorem Zg.stand{t:Sem Flow}{m:Mn Fl}{p:Pos}{tbl:List Str}(h:Zg G tbl A P env s ρ st t m):Zg G tbl A P env s ρ st (standAt p >>= λ_=>t) m:=λhb=>wpAny_bind (wpAny_standAt (h hb))
noncomputable def Ad (m1 m2:Mn Fl):Mn Fl:=bnd m1 λfl=>match fl with
 |.next=>m2
 |f=>ret1 f
noncomputable def Di (c:Mn Bool) (m1 m2:Mn Fl):Mn Fl:=bnd c λb=>if b then m1 else m2
theorem zG0:Uh G C [] (ret1 .next):=.mk <| λA P env s ρ st K W hb=>wpAny_execs_nil ⟨ρ,.next,st,rfl,K.inv,Ev.refl,K.frm,rfl⟩
theorem zEt{t:Stmt}{ts:List Stmt}{m1 m2:Mn Fl}(h1:SS G C t m1) (h2:Uh G C ts m2):Uh G C (t::ts) (Ad m1 m2):=.mk <| λA P env s ρ st K W hb=>by
 refine wpAny_execs_cons (wpAny_mono (h1.run A P env s ρ st K W (B6 hb)) (λf s' q=>?_) λx s' q=>?_)
 ·obtain⟨ρ',fl,st',e,I',x,F',r⟩:=q;have K':=K.stepS I' x F'
  cases fl with
  |next=>
   have e':Ad m1 m2 st=m2 st':=by simp only[Ad,bnd,e]
   cases(show f=.next from r)
   rw[e']at hb ⊢;refine wpAny_mono (h2.run A P env s' ρ' st' K' W hb) (λw s'' q=>?_) λw s'' q=>?_
   ·obtain⟨ρ'',fl,st'',e2,I'',x2,F2,r2⟩:=q;exact⟨ρ'',fl,st'',e2,I'',x.trans x2,F2,r2⟩
   ·obtain⟨ρ'',c,st'',a,e2,I'',x2,F2,rfl,fl⟩:=q;exact⟨ρ'',c,st'',a,e2,I'',x.trans x2,F2,rfl,fl.from x.size⟩
  |brk=>cases(show f=.brk from r);exact⟨ρ',.brk,st',by simp only[Ad,bnd,e,ret1],I',x,F',rfl⟩
  |cont=>cases(show f=.cont from r);exact⟨ρ',.cont,st',by simp only[Ad,bnd,e,ret1],I',x,F',rfl⟩
  |ret d=>
   obtain⟨v,rfl,r⟩:=r;exact⟨ρ',.ret d,st',by simp only[Ad,bnd,e,ret1],I',x,F',v,rfl,r⟩
 ·obtain⟨ρ',c,st',a,e,I',x,F',rfl,fl⟩:=q;exact⟨ρ',c,st',a,by simp only[Ad,bnd,e],I',x,F',rfl,fl⟩
theorem Yi{e:Expr}{pos:Pos}{m:Mn D}(h:SE G C e m):SS G C (.Return (some e) pos) (bnd m λd=>ret1 (.ret d)):=.mk <| λA P env s ρ st K W=>by
 show Zg G C.tbl A P env s ρ st (do standAt pos;return .ret (←eval e env)) _
 refine Zg.stand (Zg.bind K (h.run A P env s ρ st K) λv s' ρ' d σ' K' x r hb=>?_)
 exact wpAny_pure ⟨ρ',.ret d,_,rfl,K'.inv,Ev.refl,K'.frm,v,rfl,r⟩
theorem zEc{pos:Pos}:SS G C (.Pass pos) (ret1 .next):=.mk <| λA P env s ρ st K W hb=>wpAny_Pass ⟨ρ,.next,st,rfl,K.inv,Ev.refl,K.frm,rfl⟩
theorem zB7{pos:Pos}:SS G C (.Break pos) (ret1 .brk):=.mk <| λA P env s ρ st K W hb=>wpAny_bind (wpAny_standAt (wpAny_pure ⟨ρ,.brk,st,rfl,K.inv,Ev.refl,K.frm,rfl⟩))
theorem Uo{pos:Pos}:SS G C (.Continue pos) (ret1 .cont):=.mk <| λA P env s ρ st K W hb=>wpAny_bind (wpAny_standAt (wpAny_pure ⟨ρ,.cont,st,rfl,K.inv,Ev.refl,K.frm,rfl⟩))
theorem zIQ{c:Expr}{b1 b2:List Stmt}{pos:Pos}{mc:Mn Bool}{m1 m2:Mn Fl}(hc:SB G C c mc) (h1:Uh G C b1 m1) (h2:Uh G C b2 m2):SS G C (.If c b1 b2 pos) (Di mc m1 m2):=.mk <| λA P env s ρ st K W=>by
 refine Zg.stand (Zg.bind K (hc.run A P env s ρ st K) λv s' ρ' d σ' K' x r=>?_)
 cases(show d=v from r)
 cases v with
 |true=>exact h1.run A P env s' ρ' _ K' W
 |false=>exact h2.run A P env s' ρ' _ K' W
theorem Lq{i:Nat}{x:Str}{d:D}{v:Value}(K:Ok G C A P env s ρ st) (hi:C.tbl[i]? =some x) (hx:C.names.lookup x=some .local) (r:Cn G s.heap ρ d v){Q:Unit->Shared->Prop}{E:Value->Shared->Prop}
  (h:∀s',Cy G s' ρ st.sto->Ev P s.heap ρ s'.heap ρ->Ho G C.tbl P env s'.heap ρ (upd st.loc i d)->Q () s'):wpAny G.M A (storeName env x v) Q E s:=by
 obtain⟨m,n,q⟩:=K.frm.ns;refine wpAny_storeName_local (K.sees.loc x hx) n (λh' hn hs=>?_) (by rw[K.frm.kind];rfl)
 obtain⟨I',x',F'⟩:=K.frm.set_local K.inv hi (K.sees.loc x hx) n q hn hs r (s.toks+1)
 exact h _ I' x' F'
theorem Qo{i:Nat}{x:Str}{d:D}{v:Value}(K:Ok G C A P env s ρ st) (W:Wr env P) (hi:C.tbl[i]? =some x) (hx:env.kindOf x=some .cell) (r:Cn G s.heap ρ d v){Q:Unit->Shared->Prop}{E:Value->Shared->Prop}
  (h:∀s',Cy G s' ρ st.sto->Ev P s.heap ρ s'.heap ρ->Ho G C.tbl P env s'.heap ρ (upd st.loc i d)->Q () s'):wpAny G.M A (storeName env x v) Q E s:=by
 apply yo;intro _ k0
 obtain⟨c,e1,ov,n,q⟩:=K.frm.cell i x hi (.inl hx);apply k0
 refine wpAny_storeName_cell K.frm.kind hx e1 n λh' hn hs=>?_
 obtain⟨I',x',F'⟩:=K.frm.set_cell K.inv hi hx e1 (W x c e1) hn hs r s.toks;exact h _ I' x' F'
theorem Ze{i:Nat}{x:Str}{e:Expr}{np pos:Pos}{m:Mn D}(hi:C.tbl[i]? =some x) (hx:C.names.lookup x=some .local) (h:SE G C e m)
  (hs:∀env:Env,swapsWith e (some (.Name x np)) pos.line env=pure false):SS G C (.Assign [.Name x np] e pos) (bnd m (Aj i)):=.mk <| λA P env s ρ st K W hb=>by
 refine wpAny_Assign_Name ?_ (hs env)
 refine wpAny_mono (h.run A P env s ρ st K (B6 hb)) (λv s' q=>?_) λx s' q=>?_
 ·refine H3.elim q λρ' d σ' e I' x' r=>?_
  have K':=K.step I' x';refine Lq K' hi hx r λs'' I'' x'' F''=>?_
  exact⟨ρ',.next,⟨upd st.loc i d,σ'⟩,by simp only[bnd,e,Aj],I'',x'.nil.trans x'',F'',rfl⟩
 ·exact C1.toS K q
theorem Pa{i:Nat}{x:Str}{e:Expr}{np pos:Pos}{m:Mn D}(hi:C.tbl[i]? =some x) (hx:C.names.lookup x=some .cell) (h:SE G C e m)
  (hs:∀env:Env,env.kindOf x=some .cell->swapsWith e (some (.Name x np)) pos.line env=pure false):SS G C (.Assign [.Name x np] e pos) (bnd m (Aj i)):=.mk <| λA P env s ρ st K W hb=>by
 refine wpAny_Assign_Name ?_ (hs env (K.sees.cell x hx))
 refine wpAny_mono (h.run A P env s ρ st K (B6 hb)) (λv s' q=>?_) λx s' q=>?_
 ·refine H3.elim q λρ' d σ' e I' x' r=>?_
  have K':=K.step I' x';refine Qo K' W hi (K.sees.cell x hx) r λs'' I'' x'' F''=>?_
  exact⟨ρ',.next,⟨upd st.loc i d,σ'⟩,by simp only[bnd,e,Aj],I'',x'.nil.trans x'',F'',rfl⟩
 ·exact C1.toS K q
end
inductive zLM (n:Nat) (h':Heap) (b:Addr) (o:Obj):Prop
 |mk (hn:n≤b) (hf:(∃vs,o.data=.fields vs)∧(o.cls=.type "traceback"∨∃c,o.cls=.ref c)) (o':Obj) (ho:h'.get? b=some o') (hc:o'.cls=o.cls∧o'.dict=o.dict) (hd:∃vs,o'.data=.fields vs)
inductive zL3 (G:Gd) (ρ:List Addr) (h':Heap) (b:Addr) (o:Obj):Prop
 |mk (o':Obj) (ho:h'.get? b=some o') (hs:Fu o o') (hk:G.h0.get? b≠none∨b∈ρ->o'=o)
noncomputable def Bn (G:Gd) (n:Nat) (ρ:List Addr) (h h':Heap):Prop:=
 (∀b o,h.get? b=some o->zLM n h' b o∨zL3 G ρ h' b o)/\h.objs.size<=h'.objs.size
section
variable {G:Gd}{C:Cx}{A:Around}{P:List Addr}{env:Env}{s:Shared}{ρ ρs:List Addr}{σ:Bm}{n:Nat}{hs h h' h'':Heap}{tbl:List Str}{loc:C3}
theorem Jp(o:Obj) (g:Array Value->Array Value):(Obj.mapFields g o).dict=o.dict:=by
 unfold Obj.mapFields;split<;>rfl
theorem Bn.refl:Bn G n ρ h h:=⟨λb o e=>.inr ⟨o,e,.refl o,λ_=>rfl⟩,Nat.le_refl _⟩
theorem Bn.trans(x:Bn G n ρ h h') (y:Bn G n ρ h' h''):Bn G n ρ h h'':=⟨λb o e=>by
 apply yo;intro _ k0
 rcases x.1 b o e with⟨n,⟨⟨vs,hd⟩,hc⟩,o',e',c',vs',d'⟩|⟨o',e',q,z⟩
 ·rcases y.1 b o' e' with⟨_,_,o'',e'',c'',d''⟩|⟨o'',e'',q,_⟩
  ·apply k0
   exact .inl ⟨n,⟨⟨vs,hd⟩,hc⟩,o'',e'',⟨c''.1.trans c'.1,c''.2.trans c'.2⟩,d''⟩
  ·apply k0
   exact .inl ⟨n,⟨⟨vs,hd⟩,hc⟩,o'',e'',⟨q.1.trans c'.1,q.2.2.1.trans c'.2⟩,vs',q.2.1.trans d'⟩
 ·rcases y.1 b o' e' with⟨n,⟨⟨vs,hd⟩,hc⟩,o'',e'',c'',d''⟩|⟨o'',e'',q',z'⟩
  ·apply k0
   exact .inl ⟨n,⟨⟨vs,q.2.1▸hd⟩,q.1▸hc⟩,o'',e'',⟨c''.1.trans q.1,c''.2.trans q.2.2.1⟩,d''⟩
  ·apply k0
   exact .inr ⟨o'',e'',q.trans q',λn=>(z' n).trans (z n)⟩,Nat.le_trans x.2 y.2⟩
theorem Bn.grow(g:B8 h h') (z:h.objs.size<=h'.objs.size):Bn G n ρ h h':=⟨λb o e=>.inr ⟨o,g b o e,.refl o,λ_=>rfl⟩,z⟩
theorem Bn.slots{S:List Addr}(x:Heap.SlotsOnly S h h') (f:∀b,b∈S->(G.h0.get? b=none/\b∉ρ)/\∃o es n,h.get? b=some o/\o.data=.dict es n):Bn G n ρ h h':=⟨λb o e=>by
 apply yo;intro _ k0
 by_cases m:b∈S
 ·obtain⟨⟨h0,hr⟩,o',es,n,e',hd⟩:=f b m;rw[e]at e';cases e';obtain⟨sl,e''⟩:=x.2.2 b o e;apply k0
  exact .inr ⟨_,e'',⟨rfl,rfl,rfl,.inl ⟨es,n,hd⟩⟩,λz=>z.elim (absurd h0) λm=>absurd m hr⟩
 ·apply k0
  exact .inr ⟨o,(x.2.1 b m).trans e,.refl o,λ_=>rfl⟩,Nat.le_of_eq x.1.symm⟩
theorem Bn.fields{q:Addr}{o:Obj}{vs:Array Value}{g:Array Value→Array Value}(e:h.get? q=some o) (hd:o.data=.fields vs) (hc:o.cls=.type "traceback"∨∃c,o.cls=.ref c) (hn:n≤q):
  Bn G n ρ h (h.update q (Obj.mapFields g)):=⟨λb o' e'=>by
 by_cases m:b=q
 ·subst m;rw[e]at e';cases e';have hd':=Obj.data_mapFields hd g;exact .inl ⟨hn,⟨⟨vs,hd⟩,hc⟩,_,Heap.get?_update_self _ e (Obj.isFreed_of_fields hd'),⟨Obj.cls_mapFields ..,Jp ..⟩,_,hd'⟩
 ·exact .inr ⟨o',(Heap.get?_update_other h _ (Ne.symm m)).trans e',.refl _,λ_=>rfl⟩,by rw[Heap.size_after_update];exact Nat.le_refl _⟩
theorem Bn.stb(x:Bn G n ρ h h'):Ks h ρ h' ρ:=⟨λ_ _ e=>e,λa items n1 t=>by
  obtain⟨n,e⟩:=t;rcases x.1 a _ e with⟨_,⟨⟨vs,hd⟩,_⟩,_⟩|⟨o',e',q,_⟩
  ·cases hd
  ·rw[q.eq (λ_ _ z=>by cases z)]at e';exact⟨n1,n,e'⟩,λa c n1 t=>by
  obtain⟨o,e,hc,vs,hd⟩:=t;rcases x.1 a o e with⟨_,_,o',e',c',d'⟩|⟨o',e',q,_⟩
  ·exact⟨n1,o',e',⟨c'.1.trans hc.1,c'.2.trans hc.2⟩,d'⟩
  ·exact⟨n1,o',e',⟨q.1.trans hc.1,q.2.2.1.trans hc.2⟩,vs,q.2.1.trans hd⟩⟩
theorem Bn.ns(x:Bn G n ρ h h'){L:Addr}{m:Str->Option Value}(n:h.Ns L m):h'.Ns L m:=by
 apply yo;intro _ k0
 obtain⟨o,es,ep,e,hd,r⟩:=n;rcases x.1 L o e with⟨_,⟨⟨vs,hd'⟩,_⟩,_⟩|⟨o',e',q,_⟩
 ·rw[hd]at hd';cases hd'
 ·apply k0
  exact⟨o',es,ep,e',q.2.1.trans hd,r⟩
theorem Bn.cell(x:Bn G n ρ h h'){c:Addr}{ov:Option Value}(n:h.IsCell c ov):h'.IsCell c ov:=by
 apply yo;intro _ k0
 obtain⟨o,e,hd⟩:=n;rcases x.1 c o e with⟨_,⟨⟨vs,hd'⟩,_⟩,_⟩|⟨o',e',q,_⟩
 ·rw[hd]at hd';cases hd'
 ·apply k0
  exact⟨o',e',q.2.1.trans hd⟩
theorem Bn.inv(x:Bn G n ρ s.heap h') (I:Cy G s ρ σ) (hb:∀b,n<=b->G.h0.get? b=none) (t:Nat):Cy G {s with heap:=h',toks:=t} ρ σ where
 base b o e:=by
  rcases x.1 b o (I.base b o e)with⟨n,_⟩|⟨o',e',q,z⟩
  ·rw[hb b n]at e;cases e
  ·rw[z (.inl (by rw[e];intro z;cases z))]at e';exact e'
 new:=I.new
 nodup:=I.nodup
 len:=I.len
 sto k a p e1 e2:=by
  have r:=I.sto k a p e1 e2
  cases p with
  |list ds=>
   obtain⟨vs,⟨n,e⟩,r⟩:=r;rcases x.1 a _ e with⟨_,⟨⟨vs,hd⟩,_⟩,_⟩|⟨o',e',q,_⟩
   ·cases hd
   ·rw[q.eq (λ_ _ z=>by cases z)]at e'
    exact⟨vs,⟨n,e'⟩,B7.mono x.stb _ _ r⟩
  |dict kvs=>
   apply yo;intro _ k0
   obtain⟨xs,⟨o,es,ep,ho,hx,hd,he,hi,hn⟩,hs,e,r⟩:=r;apply k0
   rcases x.1 a _ ho with⟨_,⟨⟨vs,hd'⟩,_⟩,_⟩|⟨o',e',_,q⟩
   ·rw[hd]at hd';cases hd'
   ·rw[q (.inr (List.mem_of_getElem? e1))]at e';have r':=λy m=>(r y m).2.mono x.stb (r y m).1
    exact⟨xs,⟨o,es,ep,e',hx,hd,he,λy m=>(r' y m).2.is,hn⟩,hs,e,r'⟩
  |priv=>
   apply yo;intro _ k0
   obtain⟨u,v,e⟩:=r;apply k0
   rcases x.1 a _ e with⟨_,⟨⟨vs,hd⟩,_⟩,_⟩|⟨o',e',q,_⟩
   ·cases hd
   ·rw[q.eq (λ_ _ z=>by cases z)]at e'
    exact⟨u,v,e'⟩
  |ctab PP l c q k=>
   have old:∀ps,s.heap.get? a=some (zI2 ps)->h'.get? a=some (zI2 ps):=λps e=>by
    rcases x.1 a _ e with⟨_,⟨_,hc⟩,_⟩|⟨o',e',_,q⟩
    ·rcases hc with hc|⟨c,hc⟩<;>cases hc
    ·rw[q (.inr (List.mem_of_getElem? e1))]at e';exact e'
   cases k with
   |none=>exact⟨r.1,old _ r.2⟩
   |some k=>obtain⟨e0,c',e,ho⟩:=r;exact⟨e0,c',e,old _ ho⟩
  |code q=>
   obtain⟨o,vs,t,e,hc,r⟩:=r;rcases x.1 a _ e with⟨_,⟨_,hc'⟩,_⟩|⟨o',e',_,q⟩
   ·rw[hc]at hc';rcases hc' with hc'|⟨c,hc'⟩
    ·simp at hc'
    ·cases hc'
   ·rw[q (.inr (List.mem_of_getElem? e1))]at e';exact⟨o,vs,t,e',hc,r⟩
 os:=I.os
 gens:=I.gens
theorem Bn.frm(x:Bn G n ρ h h') (F:Ho G tbl P env h ρ loc):Ho G tbl P env h' ρ loc where
 kind:=F.kind
 glob:=F.glob
 bi:=F.bi
 ns:=by
  obtain⟨m,n,q⟩:=F.ns;exact⟨m,x.ns n,λi y e k d hd=>let⟨v,e1,e2⟩:=q i y e k d hd;⟨v,e1,Cn.mono x.stb d v e2⟩⟩
 cell i y e k:=by
  obtain⟨c,e1,ov,n,q⟩:=F.cell i y e k;exact⟨c,e1,ov,x.cell n,λd hd=>let⟨v,e1,e2⟩:=q d hd;⟨v,e1,Cn.mono x.stb d v e2⟩⟩
 cok y c e:=by
  obtain⟨n,ov,z⟩:=F.cok y c e;exact⟨n,ov,x.cell z⟩
 cinj:=F.cinj
 lrho:=F.lrho
 lP:=F.lP
 own:=F.own
 tnd:=F.tnd
theorem Bn.ff(x:Bn G n ρ h h'){fs:List Env}(f:FF G h ρ fs):FF G h' ρ fs:=λe m=>by
 apply yo;intro _ k0
 obtain⟨hk,L,o,es,n,hf,h0,hr,ho,hd⟩:=f e m;rcases x.1 L o ho with⟨_,⟨⟨vs,hd'⟩,_⟩,_⟩|⟨o',e',q,_⟩
 ·rw[hd]at hd';cases hd'
 ·apply k0
  exact⟨hk,L,o',es,n,hf,h0,hr,e',q.2.1.trans hd⟩
theorem Bn.stk(x:Bn G n ρ h h') (S:Sj G A env h ρ):Sj G A env h' ρ:=⟨S.fr,λfs e=>x.ff (S.ff fs e)⟩
theorem Bn.ev(x:Bn G hs.objs.size ρ h h') (y:Ev P hs ρs h ρ):Ev P hs ρs h' ρ where
 pre:=y.pre
 keep b o e n1 n2:=by
  obtain⟨o',e',q⟩:=y.keep b o e n1 n2;rcases x.1 b o' e' with⟨n,_⟩|⟨o'',e'',q',_⟩
  ·exact absurd (Heap.lt_size e) (Nat.not_lt.mpr n)
  ·exact⟨o'',e'',q.trans q'⟩
 newp:=y.newp
 size:=Nat.le_trans y.size x.2
end
inductive Nz (n:Nat) (h:Heap) (x:Value) (a c:Addr):Prop
 |mk:n<=a->(o:Obj)->(vs:Array Value)->(T:Addr)->(oT:Obj)->(ts:Array Value)->h.get? a=some o->zAt o c->o.data=.fields vs->5<vs.size->vs[1]? =some (.ref T)->T≠a->n<=T->
  h.get? T=some oT→oT.cls=.type "traceback"→oT.data=.fields ts→ts[3]? =some x→Nz n h x a c
theorem Nz.fly{n:Nat}{h:Heap}{x:Value}{a c:Addr}{f:Option Addr}(F:Nz n h x a c):zAJ n h f a c:=by
 obtain⟨h1,o,vs,T,oT,ts,e1,e2,e3,e4,e5,e6,e7,e8,e9,e10,e11⟩:=F;exact⟨h1,o,vs,e1,e2,e3,e4,.inr ⟨T,oT,ts,e5,e6,e7,e8,e9,e10,x,e11⟩⟩
section
variable {G:Gd}{C:Cx}{A:Around}{P:List Addr}{env:Env}{s:Shared}{ρ ρs:List Addr}{σ:Bm}{n:Nat}{hs:Heap}
theorem We{E:Value->Shared->Prop}{Q:Value->Shared->Prop}(S:Sj G A env s.heap ρ)
  (h:∀L h',env.frame=some L->Bn G n ρ s.heap h'->(∀b o,s.heap.get? b=some o->(∀es n,o.data≠.dict es n)->h'.get? b=some o)->Q (.ref L) {s with heap:=h'}):wpAny G.M A (PySem.frameOf env) Q E s:=by
 apply yo;intro _ k0
 obtain⟨fenv,outer,L,hA,hf,he⟩:=S.fr;apply k0
 refine wpAny_bind (wpAny_frameEnvs hA ?_)
 have hdw:((fenv::outer).dropWhile λx=>x.frame !=env.frame)=fenv::outer:=by simp[List.dropWhile,hf,he]
 rw[hdw];have hF:=S.ff _ hA;refine wpAny_bind (wpAny_bind (wpAny_readyFrames_fun hF.fun λh₁ hs₁=>wpAny_pure ?_))
 rw[hf];have inS:∀b,b∈(fenv::outer).filterMap (·.frame)->(G.h0.get? b=none/\b∉ρ)/\∃o es n,s.heap.get? b=some o/\o.data=.dict es n:=λb m=>by
  apply yo;intro _ k0
  obtain⟨e,me,eb⟩:=List.mem_filterMap.mp m;obtain⟨_,L',o,es,n,hf',h0,hr,ho,hd⟩:=hF e me;apply k0
  rw[eb]at hf';cases hf';exact⟨⟨h0,hr⟩,o,es,n,ho,hd⟩
 refine wpAny_pure (h L h₁ he (Bn.slots hs₁ inS) λb o e hn=>?_)
 refine(hs₁.2.1 b λm=>?_).trans e
 obtain⟨_,o',es,n,e',hd⟩:=inS b m;rw[e]at e';cases e';exact hn es n hd
theorem Ls{E:Value->Shared->Prop}{Q:Unit->Shared->Prop}{a c:Addr}(S:Sj G A env s.heap ρ) (F:zAJ n s.heap env.frame a c) (hlt:n<=s.heap.objs.size)
  (h:∀L h',env.frame=some L->Bn G n ρ s.heap h'->Nz n h' (rawInt L) a c->Q () {s with heap:=h'}):wpAny G.M A (noteFrame (.ref a) env) Q E s:=by
 apply yo;intro _ k0
 obtain⟨fenv,outer,L,hA,hf,he⟩:=id S.fr;obtain⟨hna,o,vs,ho,hc,hd,hsz,tb⟩:=F;apply k0
 unfold noteFrame;rw[he];have rest:∀(h₁:Heap) (head:Value) (vs₁:Array Value) (o₁:Obj),Bn G n ρ s.heap h₁->h₁.get? a=some o₁->zAt o₁ c->o₁.data=.fields vs₁->5<vs₁.size->
   wpAny G.M A (PySem.frameOf env >>= λfr=>entryPlaceOf L (head !=.none) >>= λpl=>EntryCells.newEntry head fr .none (rawInt L) .none pl >>= λb=>setField (.ref a) 1 b) Q E {s with heap:=h₁}:=by
  intro h₁ head vs₁ o₁ N1 ho₁ hc₁ hd₁ hsz₁;refine wpAny_bind (We (n:=n) (s:={s with heap:=h₁}) (N1.stk S) λL' h₂ hL' N2 ex=>?_)
  refine wpAny_bind (wpAny_entryPlaceOf λpl hpl=>?_)
  refine wpAny_bind (wpAny_newObj_type ?_ (hpl.sizeOk5 _ _ _ _ _))
  have ho₂:h₂.get? a=some o₁:=ex a o₁ ho₁ (λ_ _ z=>by rw[hd₁]at z;cases z)
  have e₃:=Heap.get?_push_of_some (h:=h₂) {cls:=.type "traceback",dict:=none,data:=.fields ([head,.ref L',.none,rawInt L,.none]++(if pl.isEmpty then List.replicate 6 Value.none else pl)).toArray} ho₂;refine wpAny_setField e₃ hd₁ (by exact Cz λZ=>A8 [_] [A5 x0 (.n 1),A7 (.n 5) x0] rT Z hsz₁) ?_
  have hTa:h₂.objs.size≠a:=Nat.ne_of_gt (Heap.lt_size ho₂)
  have hd₃:=Obj.data_mapFields hd₁ (·.setIfInBounds 1 (Value.ref h₂.objs.size));have e₄:=Heap.get?_update_self (Obj.mapFields (·.setIfInBounds 1 (Value.ref h₂.objs.size))) e₃ (Obj.isFreed_of_fields hd₃);have eT:=(Heap.get?_update_other (h₂.push {cls:=.type "traceback",dict:=none,data:=.fields ([head,.ref L',.none,rawInt L,.none]++(if pl.isEmpty then List.replicate 6 Value.none else pl)).toArray})
   (Obj.mapFields (·.setIfInBounds 1 (Value.ref h₂.objs.size))) (Ne.symm hTa)).trans (Heap.get?_push_size h₂ rfl)
  have hnT:n<=h₂.objs.size:=Nat.le_trans hlt (Nat.le_trans N1.2 N2.2)
  refine h L _ he ((N1.trans N2).trans ((Bn.grow (B8.push _ _) B5).trans (Bn.fields e₃ hd₁ (.inr ⟨c,hc₁.1⟩) hna))) ?_
  exact⟨hna,_,_,h₂.objs.size,_,_,e₄,⟨(Obj.cls_mapFields ..).trans hc₁.1,(Jp ..).trans hc₁.2⟩,hd₃,by simp;exact Cz λZ=>A8 [_] [A5 x0 (.n 5),A7 (.n 5) x0] rT Z hsz₁,by simp[show 1<vs₁.size by exact Cz λZ=>A8 [_] [A5 x0 (.n 1),A7 (.n 5) x0] rT Z hsz₁],hTa,hnT,eT,rfl,rfl,by simp⟩
 rcases tb with tb|⟨T,oT,ts,t1,t2,t3,t4,t5,t6,x,t7⟩
 ·refine wpAny_bind (wpAny_field ho hd tb ?_)
  rw[if_neg (by decide)];exact rest s.heap .none vs o .refl ho hc hd hsz
 ·refine wpAny_bind (wpAny_field ho hd t1 ?_)
  rw[if_pos (show(Value.ref T !=Value.none)=true from by simp)]
  refine wpAny_bind (wpAny_field t4 t6 t7 ?_)
  have hT3:3<ts.size:=(Array.getElem?_eq_some_iff.mp t7).1
  by_cases hx:(x==rawInt L)=true
  ·rw[if_pos hx];have hx':x=rawInt L:=beq_iff_eq.mp hx
   subst hx';exact wpAny_pure (h L s.heap he .refl ⟨hna,o,vs,T,oT,ts,ho,hc,hd,hsz,t1,t2,t3,t4,t5,t6,t7⟩)
  ·rw[if_neg hx];refine wpAny_bind (wpAny_setField t4 t6 hT3 ?_)
   exact rest _ (.ref T) vs o (Bn.fields t4 t6 (.inl t5) t3) ((Heap.get?_update_other _ _ t2).trans ho) hc hd hsz
theorem Eg{E:Value->Shared->Prop}{Q:Unit->Shared->Prop}{a c:Addr}{x:Value}{fr:Option Addr}(F:Nz n s.heap x a c)
  (h:∀h',Bn G n ρ s.heap h'->Nz n h' (fr.elim .none λf=>rawInt f) a c->Q () {s with heap:=h'}):wpAny G.M A (setFlight (.ref a) fr) Q E s:=by
 obtain⟨hna,o,vs,T,oT,ts,ho,hc,hd,hsz,t1,t2,t3,t4,t5,t6,t7⟩:=F;have hT3:3<ts.size:=(Array.getElem?_eq_some_iff.mp t7).1
 refine wpAny_bind (wpAny_field ho hd t1 ?_)
 rw[if_pos (show(Value.ref T !=Value.none)=true from by simp)]
 refine wpAny_setField t4 t6 hT3 ?_
 have hd₃:=Obj.data_mapFields t6 (·.setIfInBounds 3 (fr.elim Value.none λf=>rawInt f))
 refine h _ (Bn.fields t4 t6 (.inl t5) t3) ⟨hna,o,vs,T,_,_,(Heap.get?_update_other _ _ t2).trans ho,hc,hd,hsz,t1,t2,t3,
  Heap.get?_update_self _ t4 (Obj.isFreed_of_fields hd₃),(Obj.cls_mapFields ..).trans t5,hd₃,by simp[hT3]⟩
theorem Qh{E:Value->Shared->Prop}{Q:Unit->Shared->Prop}{a c:Addr}(S:Sj G A env s.heap ρ) (F:zAJ n s.heap env.frame a c) (hlt:n<=s.heap.objs.size)
  (h:∀h',Bn G n ρ s.heap h'->Nz n h' .none a c->Q () {s with heap:=h'}):wpAny G.M A (leaving env (.ref a)) Q E s:=by
 refine wpAny_bind (Ls S F hlt λL h' hL N T=>?_)
 exact Eg (s:={s with heap:=h'}) (fr:=none) T λh'' N' T'=>h h'' (N.trans N') T'
variable {tbl:List Str}{st':St}
theorem U5{R:Result->Shared->Prop}{a c:Addr}(S:Sj G A env s.heap ρ) (F:zAJ hs.objs.size s.heap env.frame a c) (I:Cy G s ρ st'.sto) (x:Ev P hs ρs s.heap ρ) (Fm:Ho G tbl P env s.heap ρ st'.loc) (hb:∀b,hs.objs.size<=b->G.h0.get? b=none)
  (h:∀L s',Cy G s' ρ st'.sto->Ev P hs ρs s'.heap ρ->Ho G tbl P env s'.heap ρ st'.loc->Sj G A env s'.heap ρ->env.frame=some L->Nz hs.objs.size s'.heap (rawInt L) a c->R (.error (.ref a)) s'):
  notedBy G.M A env (λe s'=>R (.error e) s') (.ref a) s:=
 Ls S F x.size λL h' hL N T=>h L _ (N.inv I hb s.toks) (N.ev x) (N.frm Fm) (N.stk S) hL T
theorem zFH{E:Value->Shared->Prop}{L a c:Addr}(S:Sj G A env s.heap ρ) (hL:env.frame=some L) (T:Nz hs.objs.size s.heap (rawInt L) a c) (I:Cy G s ρ st'.sto) (x:Ev P hs ρs s.heap ρ) (Fm:Ho G tbl P env s.heap ρ st'.loc) (hb:∀b,hs.objs.size<=b->G.h0.get? b=none)
  (h:∀s',Cy G s' ρ st'.sto->Ev P hs ρs s'.heap ρ->Ho G tbl P env s'.heap ρ st'.loc->zAJ hs.objs.size s'.heap env.frame a c->E (.ref a) s'):cameBackBy G.M A env E (.ref a) s:=by
 obtain⟨hna,o,vs,T',oT,ts,ho,hc,hd,hsz,t1,t2,t3,t4,t5,t6,t7⟩:=id T;refine wpAny_bind (wpAny_field ho hd t1 ?_)
 rw[if_neg (by simp)];refine Eg (fr:=env.frame) T λh' N T=>h _ (N.inv I hb s.toks) (N.ev x) (N.frm Fm) T.fly
end
noncomputable def Cj:C3->List Nat->List D->C3
 |loc,p::ps,d::ds=>Cj (upd loc p d) ps ds
 |loc,_,_=>loc
noncomputable def Bh:C3:=λ_=>none
noncomputable def Dp (ps:List Nat) (body:Mn Fl):List D->Mn D:=λds st=>
 if ds.length=ps.length then
  match body ⟨Cj Bh ps ds,st.sto⟩with
  |.ok (.ret d) st'=>.ok d ⟨st.loc,st'.sto⟩
  |.ok _ st'=>.ok .none ⟨st.loc,st'.sto⟩
  |.exc c st'=>.exc c ⟨st.loc,st'.sto⟩
  |.bot=>.bot
 else .bot
noncomputable def zDA (G:Gd) (A:Around) (h:Heap) (ρ:List Addr):Prop:=(∃fs,A.frames=some fs)/\∀fs,A.frames=some fs->FF G h ρ fs
noncomputable def SF (G:Gd) (n:Nat) (a:Addr) (F:List D->Mn D):Prop:=
 ∀A env s ρ st ds vs,Pl n A->Cy G s ρ st.sto->zDA G A s.heap ρ->B7 G s.heap ρ ds vs->At G A env s ρ st (RV G) (call (.ref a) vs) (F ds)
noncomputable def Yc (G:Gd) (n:Nat) (a:Addr) (F:List D->Mn D) (s:Shared) (ρ:List Addr) (σ:Bm):Prop:=
 ∀A env loc ds vs,Pl n A->Cy G s ρ σ->zDA G A s.heap ρ->B7 G s.heap ρ ds vs->At G A env s ρ ⟨loc,σ⟩ (RV G) (call (.ref a) vs) (F ds)
theorem SF.at{G:Gd}{n:Nat}{a:Addr}{F:List D->Mn D}(h:SF G n a F) (s:Shared) (ρ:List Addr) (σ:Bm):Yc G n a F s ρ σ:=λA env loc ds vs=>h A env s ρ ⟨loc,σ⟩ ds vs
theorem Fv:∀(names:List (Str×NameKind)) (n:Nat) (acc:List (Str×Addr)) (x:Str),((x,NameKind.cell)∈names∨(acc.lookup x).isSome=true)->((cellsFrom n names acc).lookup x).isSome=true
 |[],n,acc,x,h=>by rcases h with h|h;cases h;exact h
 |(y,k)::r,n,acc,x,h=>by
  unfold cellsFrom;split
  ·refine Fv r _ _ x ?_
   rcases h with h|h
   ·rcases List.mem_cons.mp h with e|m
    ·cases e;right;simp[List.lookup]
    ·exact .inl m
   ·right
    simp only[List.lookup];split
    ·rfl
    ·exact h
  ·rename_i hk;refine Fv r _ _ x ?_
   rcases h with h|h
   ·rcases List.mem_cons.mp h with e|m
    ·cases e;simp at hk
    ·exact .inl m
   ·exact .inr h
noncomputable def P1 (G:Gd) (tbl:List Str) (kindOf:Str->Option NameKind) (h:Heap) (ρ:List Addr) (m cm:Str->Option Value) (loc:C3):Prop:=
 ∀(i:Nat) (x:Str),tbl[i]? =some x->∀d,loc i=some d->(kindOf x=some .local->∃v,m x=some v/\Cn G h ρ d v)/\((kindOf x=some .cell∨kindOf x=some .free)->∃v,cm x=some v/\Cn G h ρ d v)
theorem Vh{G:Gd}{tbl:List Str}{kindOf:Str->Option NameKind}{h:Heap}{ρ:List Addr}(tnd:tbl.Nodup){is:List Nat}{xs:List Str}(hh:C2 (λ(i:Nat) x=>tbl[i]? =some x) is xs):∀(ds:List D) (vs:List Value) (m cm:Str->Option Value) (loc:C3),B7 G h ρ ds vs->ds.length=is.length->P1 G tbl kindOf h ρ m cm loc->
  P1 G tbl kindOf h ρ (bindL kindOf (xs.zip vs) m) (bindC kindOf (xs.zip vs) cm) (Cj loc is ds):=by
 induction hh with
 |nil=>
  intro ds vs m cm loc r hl M
  cases ds with
  |nil=>exact M
  |cons _ _=>simp at hl
 | @cons i x is xs hx hxs ih=>
  intro ds vs m cm loc r hl M
  cases ds with
  |nil=>simp at hl
  |cons d ds=>
   obtain⟨v,vr,rfl,r1,r2⟩:=r;refine ih ds vr _ _ (upd loc i d) r2 (by simpa using hl) λj y hy d' hd'=>?_
   by_cases hj:j=i
   ·subst hj;rw[hx]at hy;cases hy;simp only[upd,if_true]at hd'
    cases hd';refine⟨λk=>⟨v,by simp[k],r1⟩,λk=>⟨v,?_,r1⟩⟩
    have:¬kindOf x=some .local:=λz=>by rw[z]at k;rcases k with k|k<;>cases k
    simp[this]
   ·simp only[upd,hj,if_false]at hd';have hne:y≠x:=λz=>hj (Bp tnd (z▸hy) hx)
    obtain⟨q1,q2⟩:=M j y hy d' hd';refine⟨λk=>?_,λk=>?_⟩
    ·obtain⟨v',e1,e2⟩:=q1 k;refine⟨v',?_,e2⟩
     split
     ·simp[hne,e1]
     ·exact e1
    ·obtain⟨v',e1,e2⟩:=q2 k;refine⟨v',?_,e2⟩
     split
     ·exact e1
     ·simp[hne,e1]
structure zGi (G:Gd) (a:Addr) (fd:FuncData) (body:List Stmt) (xs:List Str):Prop where
 obj:∃o,G.h0.get? a=some o/\o.data=.func fd
 body:fd.body=.stmts body
 glob:fd.globals=mainGlobals
 clo:fd.closure=[]
 bi:fd.builtins=builtinsNs
 code:G.h0.CodeRec fd.code fd.qualname
 lim:G.h0.NoLimit
 kind:fd.scope.kind=.function
 co:fd.scope.isCoroutine=false
 gen:fd.scope.isGenerator=false
 bind:∀vs:List Value,vs.length=xs.length->bindArgs fd ⟨vs,[]⟩=pure (xs.zip vs)
 par:∀x,x∈xs->fd.scope.names.lookup x=some .local∨fd.scope.names.lookup x=some .cell
 nofree:∀x,x∈fd.scope.names->x.2≠.free
theorem Zw{G:Gd}{tbl:List Str}{kindOf:Str->Option NameKind}{h:Heap}{ρ:List Addr}(tnd:tbl.Nodup):∀(is:List Nat) (xs:List Str) (ds:List D) (vs:List Value) (m cm:Str->Option Value) (loc:C3),
  C2 (λ(i:Nat) x=>tbl[i]? =some x) is xs->B7 G h ρ ds vs->ds.length=is.length->P1 G tbl kindOf h ρ m cm loc->
  P1 G tbl kindOf h ρ (bindL kindOf (xs.zip vs) m) (bindC kindOf (xs.zip vs) cm) (Cj loc is ds):=λis xs ds vs m cm loc hh r hl M=>Vh tnd hh ds vs m cm loc r hl M
theorem Sl{h h':Heap}(g:B8 h h'){c:Value}{q:Str}(x:h.CodeRec c q):h'.CodeRec c q:=by
 apply yo;intro _ k0
 obtain⟨c,oc,vs,tq,hc,hoc,hdc,hq⟩:=x;apply k0
 exact⟨c,oc,vs,tq,hc,g _ _ hoc,hdc,hq⟩
theorem Pr{xs:List Str}{vs:List Value}:∀p,p∈xs.zip vs->p.1∈xs:=λp m=>(List.of_mem_zip m).1
theorem zE3{G:Gd}{a:Addr}{fd:FuncData}{body:List Stmt}{xs:List Str}{is:List Nat}{tbl:List Str}{n:Nat}{m:Mn Fl}(Fi:zGi G a fd body xs) (tnd:tbl.Nodup)
  (hi:C2 (λ(i:Nat) x=>tbl[i]? =some x) is xs) (hb:Uh G ⟨fd.scope.names,tbl,n,false,fd.code,fd.qualname++".<locals>."⟩ body m):SF G (n+1) a (Dp is m):=by
 intro A env₀ s ρ st ds vs R I B r hbot;have hlen:ds.length=is.length:=by
  cases h:decide (ds.length=is.length)with
  |true=>exact of_decide_eq_true h
  |false=>exact absurd (by unfold Dp;rw[if_neg (of_decide_eq_false h)]) hbot
 have hvl:vs.length=xs.length:=by rw[r.all2.length,hlen,hi.length]
 obtain⟨o,ho,hdata⟩:=Fi.obj;have g0:B8 G.h0 s.heap:=I.base
 refine wpAny_call (codeAny_call_cells (fd:=fd) (binds:=xs.zip vs) (by have:=R.depth;exact Cz λZ=>A8 [_,_] [A5 (.n 1000) x0,A5 (.a x0 (.a x1 (.n 1))) (.n 900),A5 (.n 0) x1] rT Z this (lq5 _)) (I.base _ _ ho) hdata (Fi.lim.keeps g0) (Sl g0 Fi.code) Fi.body (Fi.bind vs hvl) Fi.clo
  (λp m=>?_) (λs₁ X=>?_) Fi.co Fi.gen Fi.kind)
 ·rcases Fi.par p.1 (Pr p m)with h|h
  ·exact .inl h
  ·exact .inr ⟨h,Fv _ _ _ _ (.inl (mem_of_lookup h))⟩
 generalize hE:callEnvC fd s.heap.objs.size a=env at X ⊢
 have eloc:env.locals=s.heap.objs.size:=by rw[←hE];rfl
 have escope:env.scope=fd.scope:=by rw[←hE];rfl
 have ekind:∀x,env.kindOf x=fd.scope.names.lookup x:=λx=>by unfold Env.kindOf;rw[escope]
 have eframe:env.frame=some env.locals:=by rw[←hE];rfl
 have ecells:env.cells=cellsFrom (s.heap.objs.size+1) fd.scope.names []:=by rw[←hE];rfl
 obtain⟨h₁,tk,hs₁⟩:=X.toInCall.same;have g1:B8 s.heap s₁.heap:=X.toInCall.keep
 have z1:s.heap.objs.size<=s₁.heap.objs.size:=by
  obtain⟨oL,_,_,hoL,_⟩:=X.toInCall.ns;have:=Heap.lt_size hoL
  rw[eloc]at this;exact Nat.le_of_lt this
 have I₁:Cy G s₁ ρ st.sto:=by
  have:=I.grow (h':=h₁) (by rw[hs₁]at g1;exact g1) (by rw[hs₁]at z1;exact z1) tk
  rw[hs₁];exact this
 have hcell_size:∀x c,env.cells.lookup x=some c->s.heap.objs.size<c:=λx c e=>eloc▸X.above x c (mem_of_lookup e)
 have hM:P1 G tbl env.kindOf s₁.heap ρ (bindL env.kindOf (xs.zip vs) λ_=>none) (bindC env.kindOf (xs.zip vs) λ_=>none) (Cj Bh is ds):=
  Zw tnd is xs ds vs _ _ _ hi (B7.mono g1.stb _ _ r) hlen λi x _ d hd=>by cases hd
 have Wp:Wr env (env.locals::env.cells.filterMap λp=>env.cells.lookup p.1):=λx c e=>lq4 _ (List.mem_filterMap.mpr ⟨(x,c),mem_of_lookup e,e⟩)
 have Pp:∀p,p∈(env.locals::env.cells.filterMap λp=>env.cells.lookup p.1)->s.heap.objs.size<=p/\(p=env.locals∨∃x,env.cells.lookup x=some p):=λp mp=>by
  rcases List.mem_cons.mp mp with rfl|mp
  ·exact⟨by rw[eloc];exact Nat.le_refl _,.inl rfl⟩
  ·apply yo;intro _ k0
   obtain⟨⟨x,c⟩,mc,e⟩:=List.mem_filterMap.mp mp;apply k0
   exact⟨Nat.le_of_lt (hcell_size x p e),.inr ⟨x,e⟩⟩
 generalize hP:(env.locals::env.cells.filterMap λp=>env.cells.lookup p.1)=P at Wp Pp
 have Fm:Ho G tbl P env s₁.heap ρ (Cj Bh is ds):={
  kind:=by rw[escope];exact Fi.kind
  glob:=by rw[←hE];exact Fi.glob
  bi:=by rw[←hE];exact Fi.bi
  ns:=⟨_,X.toInCall.ns,λi x e k d hd=>(hM i x e d hd).1 k⟩
  cell:=λi x e k=>by
   have hk:(x,NameKind.cell)∈fd.scope.names:=by
    rcases k with k|k
    ·rw[ekind]at k;exact mem_of_lookup k
    ·rw[ekind]at k;exact absurd rfl (Fi.nofree _ (mem_of_lookup k))
   obtain⟨c,hc⟩:=Option.isSome_iff_exists.mp (Fv fd.scope.names (s.heap.objs.size+1) [] x (.inl hk))
   rw[←ecells]at hc;exact⟨c,hc,_,X.cell x c hc,λd hd=>(hM i x e d hd).2 k⟩
  cok:=λx c e=>⟨λmm=>Nat.lt_asymm (I.mem_lt mm) (hcell_size x c e),_,X.cell x c e⟩
  cinj:=λx y c e1 e2=>name_of_addr X.apart (mem_of_lookup e1) (mem_of_lookup e2)
  lrho:=by rw[eloc];exact I.size_notin
  lP:=by rw[←hP];exact lq1
  own:=λp mp=>⟨I.h0_le (Pp p mp).1,(Pp p mp).2⟩
  tnd:=tnd}
 obtain⟨fs,hfs⟩:=B.1;have hfr:(A.deeper env).frames=some (env::fs):=Around.frames_deeper hfs
 have hff:FF G s₁.heap ρ (env::fs):=λe me=>by
  rcases List.mem_cons.mp me with rfl|me
  ·apply yo;intro _ k0
   obtain⟨mm,n,_⟩:=Fm.ns;obtain⟨oL,es,ep,hoL,hdL,_⟩:=n;apply k0
   exact⟨by rw[escope,Fi.kind];decide,e.locals,oL,es,ep,eframe,by rw[eloc];exact I.h0_size,Fm.lrho,hoL,hdL⟩
  ·exact(B.2 fs hfs).keep (B8.ev g1 z1) e me
 have K:Ok G ⟨fd.scope.names,tbl,n,false,fd.code,fd.qualname++".<locals>."⟩ (A.deeper env) P env s₁ ρ ⟨Cj Bh is ds,st.sto⟩:={
  room:=⟨λ_=>R.hd,by have:=R.depth;show A.depth+1+n<=900;exact Aw λZ=>A8 [_,_] [A7 (.n 900) (.a (.a x0 (.n 1)) x1),A5 (.a x0 (.a x1 (.n 1))) (.n 900)] rT Z this,by have:=R.units;show A.units+3+10*n<=9000;exact Aw λZ=>A8 [_,_] [A7 (.n 9000) (.a (.a x0 (.n 3)) (.m 10 x1)),A5 (.a x0 (.m 10 (.a x1 (.n 1)))) (.n 9000)] rT Z this⟩
  sees:=⟨λx h=>(ekind x).trans h,λx h=>(ekind x).trans h,λx h=>.inr ((ekind x).trans h),λx h=>(ekind x).trans h⟩
  inv:=I₁
  frm:=Fm
  stk:=⟨⟨env,fs,env.locals,hfr,eframe,eframe⟩,λfs' e=>by rw[hfr]at e;cases e;exact hff⟩
  code:=.inr (by rw[←hE];rfl)
  qual:=.inr (by rw[←hE];rfl)}
 have hnb:m ⟨Cj Bh is ds,st.sto⟩≠.bot:=λz=>hbot (by unfold Dp;rw[if_pos hlen,z])
 have back:∀{s':Shared}{ρ':List Addr},Ev P s₁.heap ρ s'.heap ρ'->Ev [] s.heap ρ s'.heap ρ':=λx=>
  ((B8.ev g1 z1).trans x).less λp mp=>.inr (Pp p mp).1
 refine wpAny_mono (hb.run (A.deeper env) P env s₁ ρ _ K Wp hnb) (λf s' q=>?_) λx s' q=>?_
 ·obtain⟨ρ',fl,st',e,I',x,F',rr⟩:=q
  cases fl with
  |next=>cases(show f=.next from rr);exact⟨ρ',.none,st'.sto,by unfold Dp;rw[if_pos hlen,e],I',back x,rfl⟩
  |brk=>cases(show f=.brk from rr);exact⟨ρ',.none,st'.sto,by unfold Dp;rw[if_pos hlen,e],I',back x,rfl⟩
  |cont=>cases(show f=.cont from rr);exact⟨ρ',.none,st'.sto,by unfold Dp;rw[if_pos hlen,e],I',back x,rfl⟩
  |ret d=>
   obtain⟨v,rfl,rr⟩:=rr;exact⟨ρ',d,st'.sto,by unfold Dp;rw[if_pos hlen,e],I',back x,rr⟩
 ·obtain⟨ρ',c,st',a',e,I',x,F',rfl,fl⟩:=q;have K':=K.stepS I' x F';refine Qh (n:=s₁.heap.objs.size) K'.stk fl x.size λh'' N T=>?_
  refine⟨ρ',c,st'.sto,a',by unfold Dp;rw[if_pos hlen,e],N.inv I' (λb z=>I₁.h0_le z) s'.toks,back (N.ev x),rfl,?_⟩
  exact T.fly.from z1
noncomputable def D8 (G:Gd) (x:Str) (v:Value):Prop:=∃mg,G.h0.Ns mainGlobals mg/\mg x=some v
noncomputable def Dj (G:Gd) (x:Str) (v:Value):Prop:=∃mg mb,G.h0.Ns mainGlobals mg/\mg x=none/\G.h0.Ns builtinsNs mb/\mb x=some v
section
variable {G:Gd}{C:Cx}{A:Around}{P:List Addr}{env:Env}{s:Shared}{ρ:List Addr}{st:St}
theorem Fd{x:Str}{v:Value}{pos:Pos}(K:Ok G C A P env s ρ st) (hg:D8 G x v) (hn:C.names.lookup x=some .globalImplicit) (hd:(x==("__debug__":Str))=false){Q:Value→Shared→Prop}{E:Value→Shared→Prop}(h:Q v s):
  wpAny G.M A (eval (.Name x pos) env) Q E s:=by
 obtain⟨mg,n,e⟩:=hg;refine Calls.Name_function_global K.frm.kind (K.sees.glob x hn) (Calls.loadGlobal_global (mg:=mg) ?_ e h) hd
 rw[K.frm.glob];exact n.keeps K.inv.base
theorem F0{x:Str}{v:Value}{pos:Pos}(K:Ok G C A P env s ρ st) (hg:Dj G x v) (hn:C.names.lookup x=some .globalImplicit) (hd:(x==("__debug__":Str))=false){Q:Value→Shared→Prop}{E:Value→Shared→Prop}(h:Q v s):
  wpAny G.M A (eval (.Name x pos) env) Q E s:=by
 obtain⟨mg,mb,n,e,n',e'⟩:=hg;refine Calls.Name_function_global K.frm.kind (K.sees.glob x hn) (Calls.loadGlobal_builtin (mg:=mg) (mb:=mb) ?_ e ?_ e' h) hd
 ·rw[K.frm.glob];exact n.keeps K.inv.base
 ·rw[K.frm.bi];exact n'.keeps K.inv.base
theorem V9{x:Str}{i:Int}{t:Tok}{pos:Pos}(hg:D8 G x (.int i t)) (hn:C.names.lookup x=some .globalImplicit) (hd:(x==("__debug__":Str))=false):SE G C (.Name x pos) (ret1 (.int i)):=.mk <| λA P env s ρ st K=>
 At.leaf (λ_=>Fd K hg hn hd ⟨_,rfl,B8.same0,⟨_,rfl⟩⟩) K
theorem zGY:SA G C [] (ret1 []):=.mk <| λA P env s ρ st pos K=>At.pure K (show B7 _ _ _ _ _ from rfl)
theorem zEG{e:Expr}{es:List Expr}{m:Mn D}{ms:Mn (List D)}(he:SE G C e m) (hs:SA G C es ms) (hst:∀env,starEach (e::es) env=(false,eval e env)::starEach es env):
  SA G C (e::es) (bnd m λd=>bnd ms λds=>ret1 (d::ds)):=.mk <| λA P env s ρ st pos K=>by
 rw[hst];show At G A env s ρ st (zLC G) (eval e env >>= λv=>pure [v] >>= λhere=>holding here (spliced (backTo pos (starEach es env))) >>= λr=>pure (here++r)) _
 refine At.bind K (he.run A P env s ρ st K) λv s' ρ' d σ' K' x r=>?_
 refine At.ofEq (t':=holding [v] (spliced (backTo pos (starEach es env))) >>= λr=>pure ([v]++r)) rfl ?_
 refine At.bind K' (hs.run A P env s' ρ' _ pos K').hold λvs s'' ρ'' ds σ'' K'' x2 r2=>?_
 refine At.pure K'' ?_
 show B7 _ _ _ _ _
 exact⟨v,vs,rfl,Cn.mono (x2.stb K'.inv .nil) _ _ r,r2⟩
theorem Ok.bel(K:Ok G C A P env s ρ st):zDA G A s.heap ρ:=⟨let⟨f,o,_,h,_⟩:=K.stk.fr;⟨f::o,h⟩,K.stk.ff⟩
theorem zDX{f:Str}{a:Addr}{n:Nat}{F:List D→Mn D}{e:Expr}{es:List Expr}{ms:Mn (List D)}{np pos:Pos}(hg:D8 G f (.ref a)) (hn:C.names.lookup f=some .globalImplicit) (hd:(f==("__debug__":Str))=false)
  (hfd:∃o fd,G.h0.get? a=some o/\o.data=.func fd) (hF:SF G n a F) (hC:C.inh=false) (hl:n<=C.lvl) (hs:SA G C (e::es) ms) (hst:∀env,starEach (e::es) env=(false,eval e env)::starEach es env):
  SE G C (.Call (.Name f np) (e::es) [] pos) (bnd ms F):=.mk <| λA P env s ρ st K hb=>by
 show wpAny G.M A (eval (.Name f np) env >>= λfv=>callWith pos fv [] (backTo pos (starEach (e::es) env)) []) _ _ s
 refine wpAny_bind (Fd K hg hn hd ?_)
 obtain⟨o,fd,ho,hfdd⟩:=hfd;refine Calls.callWith_function (o:=o) (fd:=fd) ?_
 have hev:backTo pos (starEach (e::es) env)=(false,eval e env)::backTo pos (starEach es env):=by rw[hst];rfl
 have h1:=hs.run A P env s ρ st pos K (B6 hb);rw[hev]at h1 ⊢;refine Calls.evalArgs_plain (wpAny_mono h1 (λvs s' q=>?_) λx s' q=>?_)
 ·refine H3.elim q λρ' ds σ' e' I' x' r=>?_
  refine⟨⟨I'.base _ _ ho,hfdd⟩,?_⟩
  have K':=K.step I' x';have e2:bnd ms F st=F ds ⟨st.loc,σ'⟩:=by simp only[bnd,e']
  rw[e2]at hb ⊢;refine wpAny_mono (hF A env s' ρ' ⟨st.loc,σ'⟩ ds vs ((K.room.room hC).le hl) I' K'.bel r hb) (λw s'' q=>?_) λw s'' q=>?_
  ·exact H3.tr q x'
  ·exact C1.tr q x'
 ·exact C1.bnd q
noncomputable def BF (G:Gd) (id:String) (F:List D->Mn D):Prop:=
 ∀C A P env s ρ st ds vs,C.inh=false->Ok G C A P env s ρ st->B7 G s.heap ρ ds vs->At G A env s ρ st (RV G) (call (.builtin id) vs) (F ds)
theorem zCr{f:Str}{id:String}{F:List D→Mn D}{e:Expr}{es:List Expr}{ms:Mn (List D)}{np pos:Pos}(hg:Dj G f (.builtin id)) (hn:C.names.lookup f=some .globalImplicit) (hd:(f==("__debug__":Str))=false)
  (hC:C.inh=false) (hF:BF G id F) (hs:SA G C (e::es) ms) (hst:∀env,starEach (e::es) env=(false,eval e env)::starEach es env) (hpl:∀env,(backTo pos (starEach es env)).any (·.1)=false):
  SE G C (.Call (.Name f np) (e::es) [] pos) (bnd ms F):=.mk <| λA P env s ρ st K hb=>by
 show wpAny G.M A (eval (.Name f np) env >>= λfv=>callWith pos fv [] (backTo pos (starEach (e::es) env)) []) _ _ s
 refine wpAny_bind (F0 K hg hn hd ?_)
 have hev:backTo pos (starEach (e::es) env)=(false,eval e env)::backTo pos (starEach es env):=by rw[hst];rfl
 have h1:=hs.run A P env s ρ st pos K (B6 hb);rw[hev]at h1 ⊢;refine Calls.callWith_builtin (by show(false||_)=false;rw[Bool.false_or];exact hpl env) (Calls.evalArgs_plain (wpAny_mono h1 (λvs s' q=>?_) λx s' q=>?_))
 ·refine H3.elim q λρ' ds σ' e' I' x' r=>?_
  have K':=K.step I' x';have e2:bnd ms F st=F ds ⟨st.loc,σ'⟩:=by simp only[bnd,e']
  rw[e2]at hb ⊢;refine wpAny_mono (hF C A P env s' ρ' ⟨st.loc,σ'⟩ ds vs hC K' r hb) (λw s'' q=>?_) λw s'' q=>?_
  ·exact H3.tr q x'
  ·exact C1.tr q x'
 ·exact C1.bnd q
end
structure zGI (G:Gd) (I:Addr) (S:List Addr) (tg:Expr->Prop) (g:Bm->Prop) (T:List D->Heap->List Addr->Bm->Prop) (Md:Value->List D->Heap->List Addr->Bm->Prop):Prop where
 own:∀rem h ρ σ,T rem h ρ σ->∀q,q∈S->Up G h ρ σ q
 ownM:∀v rem h ρ σ,Md v rem h ρ σ->∀q,q∈S->Up G h ρ σ q
 keep:∀(P:List Addr) rem s ρ σ s' ρ' σ',T rem s.heap ρ σ->Cy G s ρ σ->Cy G s' ρ' σ'->Ev P s.heap ρ s'.heap ρ'->NT s.heap P->g σ'->T rem s'.heap ρ' σ'
 next:∀(A:Around) s ρ σ rem (Q:Option Value->Shared->Prop) (E:Value->Shared->Prop),A.handled=none->Cy G s ρ σ->T rem s.heap ρ σ->
  (rem=[]->∀h' tk,Hs S s.heap h'->Q none {s with heap:=h',toks:=tk})->
  (∀d rest,rem=d::rest->∀v h' tk,Hs S s.heap h'->Cn G h' ρ d v->Md v rest h' ρ σ->Q (some v) {s with heap:=h',toks:=tk})->wpAny G.M A (pyNext (.ref I)) Q E s
 go:∀(A:Around) s ρ σ tgt v rest (Q:Unit->Shared->Prop) (E:Value->Shared->Prop),tg tgt->Cy G s ρ σ->Md v rest s.heap ρ σ->
  (∀h',Hs S s.heap h'->T rest h' ρ σ->Q () {s with heap:=h'})->wpAny G.M A (letOwnedTupleGo tgt (.ref I) v) Q E s
noncomputable def Mz (G:Gd) (I:Addr) (T:List D->Heap->List Addr->Bm->Prop):Prop:=
 ∀(A:Around) s ρ σ rem (Q:Value->Shared->Prop) (E:Value->Shared->Prop),A.handled=none->T rem s.heap ρ σ->Q (.ref I) s->wpAny G.M A (pyIter (.ref I)) Q E s
structure ST (G:Gd) (C:Cx) (b:Bool) (t:Expr) (f:D->C3->Option C3):Prop where
 run:∀A P env s ρ st d v loc' (Q:Unit->Shared->Prop) (E:Value->Shared->Prop),Ok G C A P env s ρ st->(b=true->Wr env P)->Cn G s.heap ρ d v->f d st.loc=some loc'->
  (∀s',Cy G s' ρ st.sto->Ev P s.heap ρ s'.heap ρ->Ho G C.tbl P env s'.heap ρ loc'->Q () s')->wpAny G.M A (assign t env v) Q E s
open Classical in
noncomputable def D9 (tgt:D->C3->Option C3) (g:Bm->Prop) (body:Mn Fl):List D->Mn Fl
 |[]=>λst=>if g st.sto then .ok .next st else .bot
 |d::rest=>λst=>if g st.sto then
   match tgt d st.loc with
   |none=>.bot
   |some loc'=>match body ⟨loc',st.sto⟩with
    |.ok .next st'=>D9 tgt g body rest st'
    |.ok .cont st'=>D9 tgt g body rest st'
    |.ok .brk st'=>.ok .next st'
    |.ok (.ret d) st'=>.ok (.ret d) st'
    |.exc c st'=>.exc c st'
    |.bot=>.bot
  else .bot
section
variable {tgt:D->C3->Option C3}{g:Bm->Prop}{body:Mn Fl}{d:D}{rest:List D}{st:St}
open Classical in
theorem P2:D9 tgt g body [] st=if g st.sto then .ok .next st else .bot:=rfl
open Classical in
theorem Dl:D9 tgt g body (d::rest) st=if g st.sto then
   match tgt d st.loc with
   |none=>.bot
   |some loc'=>match body ⟨loc',st.sto⟩with
    |.ok .next st'=>D9 tgt g body rest st'
    |.ok .cont st'=>D9 tgt g body rest st'
    |.ok .brk st'=>.ok .next st'
    |.ok (.ret d) st'=>.ok (.ret d) st'
    |.exc c st'=>.exc c st'
    |.bot=>.bot
  else .bot:=rfl
end
inductive zFV (G:Gd) (tbl:List Str) (P:List Addr) (env:Env) (hs:Heap) (ρs:List Addr) (r:O8 Fl) (f:Flow) (s':Shared):Prop
 |mk (ρ':List Addr) (fl:Fl) (st':St):r=.ok fl st'->Cy G s' ρ' st'.sto->Ev P hs ρs s'.heap ρ'->Ho G tbl P env s'.heap ρ' st'.loc->zKi G s'.heap ρ' fl f->zFV G tbl P env hs ρs r f s'
inductive zFb (G:Gd) (tbl:List Str) (A:Around) (P:List Addr) (env:Env) (hs:Heap) (ρs:List Addr) (r:O8 Fl) (x:Value) (s':Shared):Prop
 |mk (ρ':List Addr) (c:Addr) (st':St) (a L:Addr):r=.exc c st'->Cy G s' ρ' st'.sto->Ev P hs ρs s'.heap ρ'->Ho G tbl P env s'.heap ρ' st'.loc->Sj G A env s'.heap ρ'->x=.ref a->env.frame=some L->Nz hs.objs.size s'.heap (rawInt L) a c->zFb G tbl A P env hs ρs r x s'
noncomputable def zFx (G:Gd) (tbl:List Str) (A:Around) (P:List Addr) (env:Env) (hs:Heap) (ρs:List Addr) (r:O8 Fl):Result->Shared->Prop
 |.ok f,s'=>zFV G tbl P env hs ρs r f s'
 |.error x,s'=>zFb G tbl A P env hs ρs r x s'
section
variable {G:Gd}{C:Cx}{A:Around}{P:List Addr}{env:Env}
theorem zHy{I:Addr}{S:List Addr}{tg:Expr->Prop}{g:Bm->Prop}{T:List D->Heap->List Addr->Bm->Prop}{Md:Value->List D->Heap->List Addr->Bm->Prop}(X:zGI G I S tg g T Md)
  {target:Expr}{tf:D->C3->Option C3}{body:List Stmt}{m:Mn Fl}(hC:C.inh=false) (ht:tg target) (hT:ST G C true target tf) (hB:Uh G C body m) (W:Wr env P){hs:Heap}{ρs:List Addr}(hb0:∀b,hs.objs.size<=b->G.h0.get? b=none):
  ∀(ds:List D) (s:Shared) (ρ:List Addr) (st:St),Ok G C A P env s ρ st->T ds s.heap ρ st.sto->Ev P hs ρs s.heap ρ->(∀q,q∈S->hs.objs.size<=q∨q∈ρs)->D9 tf g m ds st≠.bot->
   codeAny G.M A (.forLoop target (.ref I) body [] env) (zFx G C.tbl A P env hs ρs (D9 tf g m ds st)) s:=by
 intro ds
 induction ds with
 |nil=>
  intro s ρ st K hTT x hS hbot;have hg:g st.sto:=by
   by_cases h:g st.sto
   ·exact h
   ·exact absurd (by(first|rw[P2,if_neg h]|rw[Dl,if_neg h])) hbot
  refine codeAny_of_tree ?_
  show wpAny _ A ((forTurn target (.ref I) body [] env).onRaise (λx=>do noteFrame x env;theTreesLotGoes x)) _ _ s
  refine wpAny_noted ?_
  simp only[forTurn];refine wpAny_bind (wpAny_standAt (wpAny_bind (wpAny_onRaise (X.next A s ρ st.sto [] _ _ (K.room.hd hC) K.inv hTT (λ_ h' tk ho=>?_) (λd rest e=>by cases e)))))
  have K':=K.only ho (X.own _ _ _ _ hTT) tk;refine wpAny_pure (And.intro rfl (codeAny_block (wpAny_execs_nil ⟨ρ,.next,st,?_,K'.inv,x.only ho hS,K'.frm,rfl⟩)))
  (first|rw[P2,if_pos hg]|rw[Dl,if_pos hg])
 |cons d rest ih=>
  intro s ρ st K hTT x hS hbot;have hg:g st.sto:=by
   by_cases h:g st.sto
   ·exact h
   ·exact absurd (by(first|rw[P2,if_neg h]|rw[Dl,if_neg h])) hbot
  refine codeAny_of_tree ?_
  show wpAny _ A ((forTurn target (.ref I) body [] env).onRaise (λx=>do noteFrame x env;theTreesLotGoes x)) _ _ s
  refine wpAny_noted ?_
  simp only[forTurn];refine wpAny_bind (wpAny_standAt (wpAny_bind (wpAny_onRaise (X.next A s ρ st.sto (d::rest) _ _ (K.room.hd hC) K.inv hTT (λe=>by cases e) (λd' rest' e v h' tk ho r hM=>?_)))))
  cases e;have K₁:=K.only ho (X.own _ _ _ _ hTT) tk;refine wpAny_bind (X.go A _ ρ st.sto target v rest _ _ ht K₁.inv hM λh₂ ho₂ hT₂=>?_)
  have K₂:=K₁.only ho₂ (X.ownM _ _ _ _ _ hM) tk;have x₂:Ev P hs ρs h₂ ρ:=(x.only ho hS).only ho₂ hS
  have r₂:Cn G h₂ ρ d v:=Cn.mono (ho₂.stb (X.ownM _ _ _ _ _ hM)) d v r
  cases e1:tf d st.loc with
  |none=>exact absurd (by(rw[Dl,if_pos hg,e1])) hbot
  |some loc'=>
   refine wpAny_bind (hT.run A P env {s with heap:=h₂,toks:=tk} ρ st d v loc' _ _ K₂ (λ_=>W) r₂ e1 λs₃ I₃ x₃ F₃=>?_)
   have K₃:Ok G C A P env s₃ ρ ⟨loc',st.sto⟩:=K₂.stepS (st':=⟨loc',st.sto⟩) I₃ x₃ F₃
   have hnb:m ⟨loc',st.sto⟩≠.bot:=λz=>hbot (by(rw[Dl,if_pos hg,e1];dsimp only;rw[z]))
   have T₃:T rest s₃.heap ρ st.sto:=X.keep P rest {s with heap:=h₂,toks:=tk} ρ st.sto s₃ ρ st.sto hT₂ K₂.inv I₃ x₃ K₂.frm.nt hg
   refine wpAny_bind (wpAny_mono (hB.run A P env s₃ ρ _ K₃ W hnb) (λf s₄ q=>?_) λe s₄ q=>?_)
   ·obtain⟨ρ₄,fl,st₄,e2,I₄,x₄,F₄,r₄⟩:=q;have K₄:=K₃.stepS I₄ x₄ F₄;have xx:Ev P hs ρs s₄.heap ρ₄:=(x₂.trans x₃).trans x₄
    have hS':∀q,q∈S->hs.objs.size<=q∨q∈ρs:=hS
    have again:∀(_:D9 tf g m (d::rest) st=D9 tf g m rest st₄),codeAny G.M A (.forLoop target (.ref I) body [] env) (zFx G C.tbl A P env hs ρs (D9 tf g m (d::rest) st)) s₄:=λe3=>by
     rw[e3]at hbot ⊢;have hg₄:g st₄.sto:=by
      by_cases h:g st₄.sto
      ·exact h
      ·exact absurd (by cases rest<;>(first|rw[P2,if_neg h]|rw[Dl,if_neg h])) hbot
     exact ih s₄ ρ₄ st₄ K₄ (X.keep P rest s₃ ρ st.sto s₄ ρ₄ st₄.sto T₃ K₃.inv I₄ x₄ K₃.frm.nt hg₄) xx hS hbot
    cases fl with
    |next=>
     cases(show f=.next from r₄)
     exact wpAny_pure (And.intro rfl (again (by(rw[Dl,if_pos hg,e1];dsimp only;rw[e2]))))
    |cont=>
     cases(show f=.cont from r₄)
     exact wpAny_pure (And.intro rfl (again (by(rw[Dl,if_pos hg,e1];dsimp only;rw[e2]))))
    |brk=>
     cases(show f=.brk from r₄)
     exact wpAny_pure ⟨ρ₄,.next,st₄,by(rw[Dl,if_pos hg,e1];dsimp only;rw[e2]),I₄,xx,F₄,rfl⟩
    |ret d'=>
     obtain⟨v',rfl,r₄⟩:=r₄;exact wpAny_pure ⟨ρ₄,.ret d',st₄,by(rw[Dl,if_pos hg,e1];dsimp only;rw[e2]),I₄,xx,F₄,v',rfl,r₄⟩
   ·obtain⟨ρ₄,c,st₄,a,e2,I₄,x₄,F₄,rfl,fl⟩:=q;have K₄:=K₃.stepS I₄ x₄ F₄;have xx:Ev P hs ρs s₄.heap ρ₄:=(x₂.trans x₃).trans x₄
    refine U5 K₄.stk (fl.from (x₂.trans x₃).size) I₄ xx F₄ hb0 λL s₅ I₅ x₅ F₅ S₅ hL fT=>?_
    exact⟨ρ₄,c,st₄,a,L,by(rw[Dl,if_pos hg,e1];dsimp only;rw[e2]),I₅,x₅,F₅,S₅,rfl,hL,fT⟩
structure Ix where
 ds:List D
 g:Bm->Prop
inductive zBy (G:Gd) (s:Shared) (ρ:List Addr) (st:St) (tg:Expr->Prop) (r:O8 Ix) (it:Value) (s₂:Shared):Prop
 |mk (ρ':List Addr) (src:Ix) (σ':Bm) (I:Addr) (S:List Addr) (T:List D->Heap->List Addr->Bm->Prop) (Md:Value->List D->Heap->List Addr->Bm->Prop):r=.ok src ⟨st.loc,σ'⟩->Cy G s₂ ρ' σ'->
  Ev [] s.heap ρ s₂.heap ρ'->it=.ref I->zGI G I S tg src.g T Md->Mz G I T->T src.ds s₂.heap ρ' σ'->(∀q,q∈S->s.heap.objs.size<=q)->zBy G s ρ st tg r it s₂
structure SI (G:Gd) (C:Cx) (e:Expr) (tg:Expr->Prop) (m:Mn Ix):Prop where
 run:∀A P env s ρ st,Ok G C A P env s ρ st->m st≠.bot->wpAny G.M A (eval e env) (λx s₁=>wpAny G.M A (pyIter x) (zBy G s ρ st tg (m st)) (C1 G env s ρ st (m st)) s₁) (C1 G env s ρ st (m st)) s
theorem zGL{target iter:Expr}{body:List Stmt}{pos:Pos}{tg:Expr->Prop}{mi:Mn Ix}{tf:D->C3->Option C3}{m:Mn Fl}(hC:C.inh=false) (hI:SI G C iter tg mi) (ht:tg target) (hT:ST G C true target tf) (hB:Uh G C body m)
  (hs:∀env x,foldedSetIterable iter env x=pure x):SS G C (.For target iter body [] pos) (bnd mi λsrc=>D9 tf src.g m src.ds):=.mk <| λA P env s ρ st K W hb=>by
 refine wpAny_For ?_ (hs env)
 refine wpAny_mono (hI.run A P env s ρ st K (B6 hb)) (λx s₁ h₁=>wpAny_mono h₁ (λit s₂ q=>?_) λx s₂ q=>?_) λx s₂ q=>?_
 ·obtain⟨ρ',src,σ',I,S,T,Md,e,I',x,rfl,X,_,hT0,hS⟩:=q;have e':bnd mi (λsrc=>D9 tf src.g m src.ds) st=D9 tf src.g m src.ds ⟨st.loc,σ'⟩:=by simp only[bnd,e]
  rw[e']at hb ⊢;have K':=K.step I' x;refine codeAny_mono (zHy X hC ht hT hB W (hs:=s.heap) (ρs:=ρ) (λb z=>K.inv.h0_le z) src.ds s₂ ρ' ⟨st.loc,σ'⟩ K' hT0 x.nil (λq m=>.inl (hS q m)) hb) λr s' hr=>?_
  cases r with
  |ok f=>obtain⟨ρ'',fl,st'',e2,I'',x'',F'',r''⟩:=hr;exact⟨ρ'',fl,st'',e2,I'',x'',F'',r''⟩
  |error ex=>
   obtain⟨ρ'',c,st'',a,L,e2,I'',x'',F'',S'',rfl,hL,fT⟩:=hr;exact zFH S'' hL fT I'' x'' F'' (λb z=>K.inv.h0_le z) λs₃ I₃ x₃ F₃ fl=>⟨ρ'',c,st'',a,e2,I₃,x₃,F₃,rfl,fl⟩
 ·exact C1.toS K q
 ·exact C1.toS K q
theorem zDF{i:Nat}{x:Str}{pos:Pos}{b:Bool}(hi:C.tbl[i]? =some x) (hx:C.names.lookup x=some .local):ST G C b (.Name x pos) (λd loc=>some (upd loc i d)):=.mk <| λA P env s ρ st d v loc' Q E K W r e h=>by
 cases e;exact wpAny_assign_Name (Lq K hi hx r h)
theorem zBa{i:Nat}{x:Str}{pos:Pos}(hi:C.tbl[i]? =some x) (hx:C.names.lookup x=some .cell):ST G C true (.Name x pos) (λd loc=>some (upd loc i d)):=.mk <| λA P env s ρ st d v loc' Q E K W r e h=>by
 apply yo;intro _ k0
 cases e;apply k0
 exact wpAny_assign_Name (Qo K (W rfl) hi (K.sees.cell x hx) r h)
structure zGQ (G:Gd) (C:Cx) (b:Bool) (ts:List Expr) (f:List D->C3->Option C3):Prop where
 run:∀A P env s ρ st ds vs loc' (Q:Unit->Shared->Prop) (E:Value->Shared->Prop),Ok G C A P env s ρ st->(b=true->Wr env P)->B7 G s.heap ρ ds vs->f ds st.loc=some loc'->
  (∀s',Cy G s' ρ st.sto->Ev P s.heap ρ s'.heap ρ->Ho G C.tbl P env s'.heap ρ loc'->Q () s')->wpAny G.M A (assignInOrder ((assignEach ts env).map (·.2)) vs) Q E s
noncomputable def Op:List D->C3->Option C3
 |[],loc=>some loc
 |_,_=>none
noncomputable def Iv (f:D->C3->Option C3) (g:List D->C3->Option C3):List D->C3->Option C3
 |d::ds,loc=>(f d loc).bind (g ds)
 |[],_=>none
theorem zEP{b:Bool}:zGQ G C b [] Op:=.mk <| λA P env s ρ st ds vs loc' Q E K W r e h=>by
 apply yo;intro _ k0
 cases ds with
 |nil=>
  subst r
  cases(show some st.loc=some loc' from e)
  apply k0
  exact wpAny_pure (h s K.inv Ev.refl K.frm)
 |cons _ _=>cases(show none=some loc' from e)
theorem zAh{b:Bool}{t:Expr}{ts:List Expr}{f:D->C3->Option C3}{g:List D->C3->Option C3}(h1:ST G C b t f) (h2:zGQ G C b ts g) (hst:∀env,assignEach (t::ts) env=(false,assign t env)::assignEach ts env):
  zGQ G C b (t::ts) (Iv f g):=.mk <| λA P env s ρ st ds vs loc' Q E K W r e h=>by
 cases ds with
 |nil=>cases(show none=some loc' from e)
 |cons d ds=>
  obtain⟨v,vr,rfl,r1,r2⟩:=r;obtain⟨loc₁,e1,e2⟩:=Option.bind_eq_some_iff.mp e;rw[hst];show wpAny G.M A (holding vr (assign t env v) >>= λ_=>assignInOrder ((assignEach ts env).map (·.2)) vr) Q E s
  refine wpAny_bind (wpAny_holding (h1.run A P env s ρ st d v loc₁ _ _ K W r1 e1 λs₁ I₁ x₁ F₁=>?_))
  have K₁:Ok G C A P env s₁ ρ ⟨loc₁,st.sto⟩:=K.stepS (st':=⟨loc₁,st.sto⟩) I₁ x₁ F₁
  exact h2.run A P env s₁ ρ ⟨loc₁,st.sto⟩ ds vr loc' Q E K₁ W (B7.mono (x₁.stb K.inv K.frm.nt) _ _ r2) e2 λs₂ I₂ x₂ F₂=>h s₂ I₂ (x₁.trans x₂) F₂
noncomputable def Sf (n:Nat) (f:List D->C3->Option C3):D->C3->Option C3
 |.tup ds,loc=>if ds.length=n then f ds loc else none
 |_,_=>none
theorem Ff{α:Type}{M:Model}{A:Around}{s:Shared}{t:Sem α}{Q:α->Shared->Prop}{E:Value->Shared->Prop}(h:wpAny M A t (λa s'=>s.heap.objs.size<=s'.heap.objs.size->Q a s') E s):wpAny M A t Q E s:=
 wpAny_mono (L3 h) (λ_ _ q=>q.2 q.1) λ_ _ q=>q.2
theorem Pg{s:Shared}{h':Heap}(x:Heap.ExtBut s.heap.objs.size s.heap h'):B8 s.heap h':=λb o e=>x b o (Nat.ne_of_lt (Heap.lt_size e)) e
theorem zBM{b:Bool}{ts:List Expr}{k n:Nat}{pos:Pos}{f:List D->C3->Option C3}(hC:C.inh=false) (h1:zGQ G C b ts f) (hn:∀env,(assignEach ts env).length=n) (hst:∀env,(assignEach ts env).findIdx? (·.1)=none):
  ST G C b (.Tuple ts k pos) (Sf n f):=.mk <| λA P env s ρ st d v loc' Q E K W r e h=>by
 cases d with
 |tup ds=>
  unfold Sf at e;dsimp only at e;split at e
  ·rename_i hl;obtain⟨a,vs,rfl,hna,⟨nn,ho⟩,r⟩:=r;have hlen:vs.size=ds.length:=by have:=r.all2.length;simpa using this
   refine wpAny_bind (wpAny_standAt ?_)
   unfold unpack;rw[hst env,show(assignEach ts env).length=vs.size by rw[hn,hlen,hl]]
   refine wpAny_bind (wpAny_holding (Ff (wpAny_unpackItems_tuple (K.room.hd hC) (items:=vs) ⟨_,ho,rfl,nn,rfl⟩ λh' hx z=>?_)))
   have g:=Pg hx;have K':=K.grow g z s.toks;exact h1.run A P env {s with heap:=h'} ρ st ds vs.toList loc' Q E K' W (B7.mono g.stb _ _ r) e λs₂ I₂ x₂ F₂=>h s₂ I₂ ((g.ev z).trans x₂) F₂
  ·cases e
 |_=>unfold Sf at e;dsimp only at e;cases e
end
section
variable {G:Gd}{C:Cx}{A:Around}{P:List Addr}{env:Env}{s:Shared}{ρ:List Addr}{σ:Bm}{st:St}
noncomputable def Qa (T:String):Bool:=!["enumerate","zip","dict_itemiterator","dict_reverseitemiterator","odict_iterator","itertools.zip_longest","itertools.pairwise"].contains T
theorem Jt{I:Addr}{o:Obj}{T:String}{vs:Array Value}{tgt:Expr}{v:Value}{Q:Unit->Shared->Prop}{E:Value->Shared->Prop}(ho:s.heap.get? I=some o) (hc:o.cls=.type T) (hd:o.data=.fields vs) (hT:Qa T=true) (h:Q () s):
  wpAny G.M A (letOwnedTupleGo tgt (.ref I) v) Q E s:=by
 have key:∀a:Addr,wpAny G.M A (do
   let o ←load I
   match o.cls,o.data with
   |.type n,.fields vs=>
    if["enumerate","zip","dict_itemiterator","dict_reverseitemiterator","odict_iterator","itertools.zip_longest","itertools.pairwise"].contains n&&vs[0]? ==some (rawInt a)then
     rule "for.unpacks-the-owned-tuple"
     updateField I 0 .none
   |_,_=>pure ()) Q E s:=λa=>by
  refine wpAny_bind (wpAny_load ho ?_)
  simp only[hc,hd];simp only[Qa,Bool.not_eq_true']at hT;simp only[hT,Bool.false_and,Bool.false_eq_true,if_false];exact wpAny_pure h
 cases tgt<;>(try exact wpAny_pure h)<;>(cases v<;>(first|exact wpAny_pure h|exact key _))
theorem Ro(I:Cy G s ρ σ){T:String}{vs:Array Value}(hT:T≠"tuple") (t:Nat):Sq G (s.heap.push {cls:=.type T,data:=.fields vs}) ρ s.heap.objs.size:=
 ⟨I.h0_size,I.size_notin,_,T,vs,Heap.get?_push_size _ rfl,rfl,hT,rfl⟩
theorem Kd{α:Type}{l:List α}{i:Nat}{d:α}{r:List α}(h:d::r=l.drop i):l[i]? =some d/\r=l.drop (i+1):=by
 have h1:l[i]? =some d:=by
  have:(l.drop i)[0]? =some d:=by rw[←h];rfl
  simpa using this
 refine⟨h1,?_⟩
 have:(l.drop i).drop 1=r:=by rw[←h];rfl
 simp only[←this,List.drop_drop]
theorem Lr{α:Type}{l:List α}{i:Nat}(h:[]=l.drop i):l.length<=i:=by
 have:=congrArg List.length h
 simp at this
 exact Aw λZ=>A8 [_,_,_] [A7 x1 x0,Gl (.n 0) x2,A5 x0 (.a x2 x1)] rT Z this (Ax _ _)
noncomputable def Sr (G:Gd) (I:Addr) (k:Nat) (ds:List D):List D->Heap->List Addr->Bm->Prop:=λrem h ρ σ=>
 Sq G h ρ I/\σ[k]? =some (.list ds)/\∃a i,ρ[k]? =some a/\h.IsListIter I a i/\rem=ds.drop i
theorem zAS{I:Addr}{k:Nat}{ds:List D}:zGI G I [I] (λ_=>True) (λσ=>σ[k]? =some (.list ds)) (Sr G I k ds) (λ_=>Sr G I k ds) where
 own rem h ρ σ t q m:=by rw[lq0 m];exact .inl (.inl t.1)
 ownM v rem h ρ σ t q m:=by rw[lq0 m];exact .inl (.inl t.1)
 keep P rem s ρ σ s' ρ' σ' t I0 I' x N g:=by
  apply yo;intro _ k0
  obtain⟨it,e,a,i,e1,⟨o,ho,hc,hd⟩,e3⟩:=t;obtain⟨it',z⟩:=it.keep x N;apply k0
  exact⟨it',g,a,i,x.pre k a e1,⟨o,z.trans ho,hc,hd⟩,e3⟩
 next A s ρ σ rem Q E hh I0 t h1 h2:=by
  apply yo;intro _ k0
  obtain⟨it,e,a,i,e1,e2,e3⟩:=t;obtain⟨vs,hl,r⟩:=I0.sto k a (.list ds) e1 e;apply k0
  have hne:a≠I:=λz=>it.2.1 (z▸List.mem_of_getElem? e1)
  cases rem with
  |nil=>
   have hi:vs[i]? =none:=by
    have:=r.all2.length
    have h3:=Lr e3;simp at this
    simp;exact Aw λZ=>A8 [_,_,_] [A7 x1 x0,B9 x0 x2,A5 x2 x1] rT Z this h3
   refine Ff (wpAny_pyNext_list_end hh e2 hl.list hi λh' x z=>?_)
   exact h1 rfl h' s.toks (Nr (λb o n e=>x b o n e) z it.notPrv)
  |cons d rest=>
   obtain⟨hd,hr⟩:=Kd e3;obtain⟨v,hv,rv⟩:=r.all2.get i d hd;have hv':vs[i]? =some v:=by simpa using hv
   refine wpAny_pyNext_list_item e2 hl.list hv' λh' hit' hs'=>?_
   have ho:Hs [I] s.heap h':=Nr (λb o n e=>(hs'.2 b n).trans e) (Nat.le_of_eq hs'.1.symm) it.notPrv
   have S:Ks s.heap ρ h' ρ:=ho.stb (σ:=σ) λq m=>by rw[lq0 m];exact .inl (.inl it)
   apply yo;intro _ k0
   obtain⟨o',ho',hc',hd'⟩:=id hit';apply k0
   exact h2 d rest rfl v h' s.toks ho (Cn.mono S _ _ rv) ⟨⟨it.1,it.2.1,o',_,_,ho',hc',by decide,hd'⟩,e,a,i+1,e1,hit',hr⟩
 go A s ρ σ tgt v rest Q E _ I0 t h:=by
  apply yo;intro _ k0
  obtain⟨it,e,a,i,e1,e2,e3⟩:=id t;obtain⟨o,ho,hc,hd⟩:=e2;apply k0
  exact Jt ho hc hd (by decide) (h s.heap Mq t)
theorem Zi{I:Addr}{k:Nat}{ds:List D}:Mz G I (Sr G I k ds):=λA s ρ σ rem Q E hh t h=>by
 apply yo;intro _ k0
 obtain⟨it,e,a,i,e1,e2,e3⟩:=t;apply k0
 exact wpAny_pyIter_listiter e2 h
noncomputable def zC4 (G:Gd) (I t:Addr) (vs:Array Value) (ds:List D):List D->Heap->List Addr->Bm->Prop:=λrem h ρ σ=>
 Sq G h ρ I/\t∉ρ/\N5 h t vs/\B7 G h ρ ds vs.toList/\∃i,h.IsTupleIter I t i/\rem=ds.drop i
theorem zEM{I t:Addr}{vs:Array Value}{ds:List D}:zGI G I [I] (λ_=>True) (λ_=>True) (zC4 G I t vs ds) (λ_=>zC4 G I t vs ds) where
 own rem h ρ σ t q m:=by rw[lq0 m];exact .inl (.inl t.1)
 ownM v rem h ρ σ t q m:=by rw[lq0 m];exact .inl (.inl t.1)
 keep P rem s ρ σ s' ρ' σ' tt I0 I' x N g:=by
  apply yo;intro _ k0
  obtain⟨it,n,ht,r,i,⟨o,ho,hc,hd⟩,e3⟩:=tt;obtain⟨it',z⟩:=it.keep x N;apply k0
  have S:=x.stb I0 N;obtain⟨n',ht'⟩:=S.tup t vs n ht;exact⟨it',n',ht',B7.mono S _ _ r,i,⟨o,z.trans ho,hc,hd⟩,e3⟩
 next A s ρ σ rem Q E hh I0 tt h1 h2:=by
  apply yo;intro _ k0
  obtain⟨it,n,ht,r,i,e2,e3⟩:=tt;apply k0
  have htt:s.heap.IsTuple t vs:=let⟨n,e⟩:=ht;⟨_,e,rfl,n,rfl⟩
  cases rem with
  |nil=>
   have hi:vs[i]? =none:=by
    have:=r.all2.length
    have h3:=Lr e3;simp at this
    simp;exact Aw λZ=>A8 [_,_,_] [A7 x1 x0,B9 x0 x2,A5 x2 x1] rT Z this h3
   refine Ff (wpAny_pyNext_tuple_end hh e2 htt hi λh' x z=>?_)
   exact h1 rfl h' s.toks (Nr (λb o n e=>x b o n e) z it.notPrv)
  |cons d rest=>
   obtain⟨hd,hr⟩:=Kd e3;obtain⟨v,hv,rv⟩:=r.all2.get i d hd;have hv':vs[i]? =some v:=by simpa using hv
   refine wpAny_pyNext_tuple_item e2 htt hv' λh' hit' hs'=>?_
   have ho:Hs [I] s.heap h':=Nr (λb o n e=>(hs'.2 b n).trans e) (Nat.le_of_eq hs'.1.symm) it.notPrv
   have S:Ks s.heap ρ h' ρ:=ho.stb (σ:=σ) λq m=>by rw[lq0 m];exact .inl (.inl it)
   apply yo;intro _ k0
   obtain⟨n',ht'⟩:=S.tup t vs n ht;obtain⟨o',ho',hc',hd'⟩:=id hit';apply k0
   exact h2 d rest rfl v h' s.toks ho (Cn.mono S _ _ rv) ⟨⟨it.1,it.2.1,o',_,_,ho',hc',by decide,hd'⟩,n',ht',B7.mono S _ _ r,i+1,hit',hr⟩
 go A s ρ σ tgt v rest Q E _ I0 tt h:=by
  apply yo;intro _ k0
  obtain⟨it,n,ht,r,i,⟨o,ho,hc,hd⟩,e3⟩:=id tt;apply k0
  exact Jt ho hc hd (by decide) (h s.heap Mq tt)
theorem zBW{I t:Addr}{vs:Array Value}{ds:List D}:Mz G I (zC4 G I t vs ds):=λA s ρ σ rem Q E hh tt h=>by
 apply yo;intro _ k0
 obtain⟨it,n,ht,r,i,e2,e3⟩:=tt;apply k0
 refine(Walks.tuple (prog:=G.prog) (w:=G.w) (A:=A) hh I t (λz=>?_) vs).self i s Q E ⟨e2,let⟨nn,e⟩:=ht;⟨_,e,rfl,nn,rfl⟩⟩ h
 obtain⟨_,_,o,T,vs',ho,hc,hT,hd⟩:=it;obtain⟨nn,ho'⟩:=ht;rw[z,ho]at ho';cases ho';cases hd
noncomputable def G6 (a step:Int) (n:Nat):List D:=(List.range n).map λ(j:Nat)=>D.int (a+j*step)
theorem Z3{a step:Int}:G6 a step 0=[]:=rfl
theorem Yh{a step:Int}{n:Nat}:G6 a step (n+1)=.int a::G6 (a+step) step n:=by
 simp only[G6,List.range_succ_eq_map,List.map_cons,List.map_map];refine congr (congrArg List.cons ?_) ?_
 ·simp
 ·refine List.map_congr_left λj _=>?_
  simp only[Function.comp];congr 1
  have:((j.succ:Nat):Int)=(j:Int)+1:=by exact Ur (λZ=>A4 [_] [A7 (.a x0 (.n 1)) (.a x0 (.n 1))] rT Z) (λZ=>A4 [_] [A7 (.a x0 (.n 1)) (.a x0 (.n 1))] rT Z)
  rw[this,Int.add_mul];exact Ur (λZ=>A4 [_,_,_] [A7 (.a x0 (.a x1 (.m 1 x2))) (.a (.a x0 x2) x1)] rT Z) (λZ=>A4 [_,_,_] [A7 (.a (.a x0 x2) x1) (.a x0 (.a x1 (.m 1 x2)))] rT Z)
noncomputable def zAp (G:Gd) (I:Addr) (step:Int):List D->Heap->List Addr->Bm->Prop:=λrem h ρ σ=>Sq G h ρ I/\∃(x:Int) (n:Nat),IsRangeIter h I x n step/\rem=G6 x step n
theorem zDl{I:Addr}{step:Int}:zGI G I [I] (λ_=>True) (λ_=>True) (zAp G I step) (λ_=>zAp G I step) where
 own rem h ρ σ t q m:=by rw[lq0 m];exact .inl (.inl t.1)
 ownM v rem h ρ σ t q m:=by rw[lq0 m];exact .inl (.inl t.1)
 keep P rem s ρ σ s' ρ' σ' tt I0 I' x N g:=by
  obtain⟨it,y,n,hr,e3⟩:=tt;obtain⟨it',z⟩:=it.keep x N;exact⟨it',y,n,z.trans hr,e3⟩
 next A s ρ σ rem Q E hh I0 tt h1 h2:=by
  apply yo;intro _ k0
  obtain⟨it,y,n,hr,e3⟩:=tt;apply k0
  cases n with
  |zero=>
   rw[Z3]at e3;subst e3;refine Ff (wpAny_pyNext_range_end hh hr (by simp) λh' x z=>?_)
   exact h1 rfl h' s.toks (Nr (λb o n e=>x b o n e) z it.notPrv)
  |succ n=>
   rw[Yh]at e3;subst e3;refine wpAny_pyNext_range_item hr (by exact C4 λZ=>A4 [(↑n)] [A5 (.a x0 (.n 1)) (.n 0),A5 (.n 0) x0] rT Z (Hd _)) λh' hit' hs'=>?_
   have ho:Hs [I] s.heap h':=Nr (λb o n e=>(hs'.2 b n).trans e) (Nat.le_of_eq hs'.1.symm) it.notPrv
   refine h2 _ _ rfl _ h' (s.toks+1) ho (by exact⟨_,rfl⟩) ⟨⟨it.1,it.2.1,_,_,_,hit',rfl,by decide,rfl⟩,y+step,n,?_,rfl⟩
   have:(((n+1:Nat):Int) - 1)=(n:Int):=by exact Ur (λZ=>A4 [_] [A7 (.s (.a x0 (.n 1)) (.n 1)) x0] rT Z) (λZ=>A4 [_] [A7 x0 (.s (.a x0 (.n 1)) (.n 1))] rT Z)
   rw[this]at hit';exact hit'
 go A s ρ σ tgt v rest Q E _ I0 tt h:=by
  apply yo;intro _ k0
  obtain⟨it,y,n,hr,e3⟩:=id tt;apply k0
  exact Jt hr rfl rfl (by decide) (h s.heap Mq tt)
theorem zAb{I:Addr}{step:Int}:Mz G I (zAp G I step):=λA s ρ σ rem Q E hh tt h=>by
 apply yo;intro _ k0
 obtain⟨it,y,n,hr,e3⟩:=tt;apply k0
 refine(Walks.range (prog:=G.prog) (w:=G.w) (A:=A) hh I y step n).self 0 s Q E ?_ h
 simpa using hr
noncomputable def Dy:D->Mn Ix
 |.ref k=>λst=>match st.sto[k]? with
  |some (.list ds)=>.ok ⟨ds,λσ=>σ[k]? =some (.list ds)⟩ st
  |_=>.bot
 |.tup ds=>ret1 ⟨ds,λ_=>True⟩
 |_=>botM
noncomputable def zFh (G:Gd) (A:Around) (env:Env) (s:Shared) (ρ:List Addr) (st:St) (tg:Expr->Prop) (v:Value) (m:Mn Ix):Prop:=
 m st≠.bot->wpAny G.M A (pyIter v) (zBy G s ρ st tg (m st)) (C1 G env s ρ st (m st)) s
theorem zG5{d:D}{v:Value}(K:Ok G C A P env s ρ st) (r:Cn G s.heap ρ d v):zFh G A env s ρ st (λ_=>True) v (Dy d):=λhb=>by
 cases d with
 |ref k=>
  obtain⟨a,rfl,e1⟩:=r
  cases e:st.sto[k]? with
  |none=>exact absurd (by unfold Dy;simp only[e]) hb
  |some o=>
   cases o with
   |list ds=>
    obtain⟨vs,hl,rr⟩:=K.inv.sto k a (.list ds) e1 e;refine wpAny_pyIter_list hl.list ?_
    have g:=B8.push s.heap {cls:=.type "list_iterator",data:=.fields #[.ref a,.int 0 0]};exact⟨ρ,⟨ds,λσ=>σ[k]? =some (.list ds)⟩,st.sto,s.heap.objs.size,[s.heap.objs.size],Sr G s.heap.objs.size k ds,λ_=>Sr G s.heap.objs.size k ds,by unfold Dy;simp only[e],K.inv.grow g B5 s.toks,g.ev B5,rfl,zAS,Zi,
     ⟨Ro K.inv (by decide) 0,e,a,0,e1,⟨_,Heap.get?_push_size _ rfl,rfl,rfl⟩,rfl⟩,λq m=>by rw[lq0 m];exact Nat.le_refl _⟩
   |_=>exact absurd (by unfold Dy;simp only[e]) hb
 |tup ds=>
  obtain⟨a,vs,rfl,n,ht,rr⟩:=r;have htt:s.heap.IsTuple a vs:=let⟨n,e⟩:=ht;⟨_,e,rfl,n,rfl⟩
  refine wpAny_pyIter_tuple htt ?_
  have g:=B8.push s.heap {cls:=.type "tuple_iterator",data:=.fields #[.ref a,.int 0 0]};have S:Ks s.heap ρ _ ρ:=g.stb
  obtain⟨n',ht'⟩:=S.tup a vs n ht;exact⟨ρ,⟨ds,λ_=>True⟩,st.sto,s.heap.objs.size,[s.heap.objs.size],zC4 G s.heap.objs.size a vs ds,λ_=>zC4 G s.heap.objs.size a vs ds,rfl,K.inv.grow g B5 s.toks,g.ev B5,rfl,zEM,zBW,
   ⟨Ro K.inv (by decide) 0,n',ht',B7.mono S _ _ rr,0,⟨_,Heap.get?_push_size _ rfl,rfl,rfl⟩,rfl⟩,λq m=>by rw[lq0 m];exact Nat.le_refl _⟩
 |_=>exact absurd rfl hb
theorem zI0{e:Expr}{tg:Expr->Prop}{m:Mn D}{f:D->Mn Ix}(h:SE G C e m) (hf:∀A P env s ρ st d v,Ok G C A P env s ρ st->Cn G s.heap ρ d v->zFh G A env s ρ st tg v (f d)):SI G C e tg (bnd m f):=.mk <| λA P env s ρ st K hb=>by
 refine wpAny_mono (h.run A P env s ρ st K (B6 hb)) (λv s' q=>?_) λx s' q=>?_
 ·refine H3.elim q λρ' d σ' e I' x r=>?_
  have e':bnd m f st=f d ⟨st.loc,σ'⟩:=by simp only[bnd,e]
  rw[e']at hb ⊢;refine wpAny_mono (hf A P env s' ρ' _ d v (K.step I' x) r hb) (λit s'' q=>?_) λw s'' q=>?_
  ·obtain⟨ρ'',src,σ'',I,S,T,Md,e2,I'',x2,rfl,X,X',T0,hS⟩:=q;exact⟨ρ'',src,σ'',I,S,T,Md,e2,I'',x.trans x2,rfl,X,X',T0,λq m=>Nat.le_trans x.size (hS q m)⟩
  ·exact C1.tr q x
 ·exact C1.bnd q
theorem zHX{e:Expr}{m:Mn D}(h:SE G C e m):SI G C e (λ_=>True) (bnd m Dy):=zI0 h λA P env s ρ st d v K r=>zG5 K r
end
noncomputable def Da (env:Env):List (Str×NameKind)->List (Str×Addr)->List (Str×Addr)
 |[],acc=>acc
 |(x,k)::r,acc=>if k== .free then(match env.cells.lookup x with
   |some c=>Da env r ((x,c)::acc)
   |none=>Da env r acc)else Da env r acc
theorem X8{env:Env}{x:Str}{k:NameKind}{r:List (Str×NameKind)}{acc:List (Str×Addr)}{c:Addr}(hk:(k==NameKind.free)=true) (hc:env.cells.lookup x=some c):Da env ((x,k)::r) acc=Da env r ((x,c)::acc):=by
 show(if(k==NameKind.free)=true then(match env.cells.lookup x with|some c=>Da env r ((x,c)::acc)|none=>Da env r acc)else Da env r acc)=_
 rw[if_pos hk,hc]
theorem Sa{env:Env}{x:Str}{k:NameKind}{r:List (Str×NameKind)}{acc:List (Str×Addr)}(h:(k==NameKind.free)=true->env.cells.lookup x=none):Da env ((x,k)::r) acc=Da env r acc:=by
 show(if(k==NameKind.free)=true then(match env.cells.lookup x with|some c=>Da env r ((x,c)::acc)|none=>Da env r acc)else Da env r acc)=_
 by_cases hk:(k==NameKind.free)=true
 ·rw[if_pos hk,h hk]
 ·rw[if_neg hk]
theorem Ue{P:Prop}{env:Env}{x:Str}{k:NameKind}{r:List (Str×NameKind)}{acc:List (Str×Addr)}(w1:∀c,env.cells.lookup x=some c->Da env ((x,k)::r) acc=Da env r ((x,c)::acc)->P) (w2:(k=.free->env.cells.lookup x=none)->Da env ((x,k)::r) acc=Da env r acc->P):P:=by
 by_cases hk:(k==NameKind.free)=true
 ·cases hc:env.cells.lookup x with
  |none=>exact w2 (λ_=>hc) (Sa λ_=>hc)
  |some c=>exact w1 c hc (X8 hk hc)
 ·exact w2 (λz=>absurd (by rw[z];rfl) hk) (Sa λz=>absurd z hk)
theorem Kl(env:Env) (f:Str×NameKind->List (Str×Addr)->Sem (ForInStep (List (Str×Addr))))
  (hf:∀x k cs,f (x,k) cs=if k== .free then(do let a ←cellOf env x;pure (.yield ((x,a)::cs)))else pure (.yield cs)):∀(names:List (Str×NameKind)) (acc:List (Str×Addr)),(∀x,(x,NameKind.free)∈names->(env.cells.lookup x).isSome=true)->
  (forIn names acc f:Sem (List (Str×Addr)))=pure (Da env names acc)
 |[],acc,_=>rfl
 |(x,k)::r,acc,h=>by
  simp only[List.forIn_cons,hf];have ih:=λacc=>Kl env f hf r acc λy m=>h y (lq4 _ m)
  cases hk:k==NameKind.free with
  |true=>
   have hk':k=.free:=beq_iff_eq.mp hk
   obtain⟨c,hc⟩:=Option.isSome_iff_exists.mp (h x (by rw[hk'];exact lq1))
   rw[X8 hk hc];simp only[if_true,hc,cellOf,hk];exact ih ((x,c)::acc)
  |false=>
   rw[Sa λz=>by rw[hk]at z;cases z]
   simp only[hk,Bool.false_eq_true,if_false];exact ih acc
theorem Pv{scope:Scope}{env:Env}(h:∀x,(x,NameKind.free)∈scope.names->(env.cells.lookup x).isSome=true):closureFor scope env=pure (Da env scope.names []):=by
 dsimp only[closureFor]
 rw[Kl env _ (λx k cs=>by cases hk:k==NameKind.free<;>simp[hk]) scope.names [] h]
 rfl
theorem Ms(env:Env):∀(names:List (Str×NameKind)) (acc:List (Str×Addr)),(∀p,p∈acc->env.cells.lookup p.1=some p.2)->∀p,p∈Da env names acc->env.cells.lookup p.1=some p.2
 |[],acc,h,p,m=>h p m
 |(x,k)::r,acc,h,p,m=>Ue (λc hc e=>Ms env r _ (λq mq=>by
   rcases List.mem_cons.mp mq with rfl|mq
   ·exact hc
   ·exact h q mq) p (e▸m)) λ_ e=>Ms env r acc h p (e▸m)
theorem Mm(env:Env):∀(names:List (Str×NameKind)) (acc:List (Str×Addr)) (x:Str) (c:Addr),env.cells.lookup x=some c->((x,NameKind.free)∈names∨(x,c)∈acc)->(x,c)∈Da env names acc
 |[],acc,x,c,_,h=>h.elim (λz=>nomatch z) id
 |(y,k)::r,acc,x,c,e,h=>Ue (x:=y) (k:=k) (r:=r) (acc:=acc) (env:=env) (λc' hc' e1=>by
   rw[e1];refine Mm env r _ x c e ?_
   rcases h with h|h
   ·rcases List.mem_cons.mp h with z|z
    ·cases z;rw[e]at hc';cases hc';exact .inr lq1
    ·exact .inl z
   ·exact .inr (lq4 _ h)) λhn e1=>by
   rw[e1];refine Mm env r _ x c e ?_
   rcases h with h|h
   ·rcases List.mem_cons.mp h with z|z
    ·cases z;rw[hn rfl]at e;cases e
    ·exact .inl z
   ·exact .inr h
theorem Fx{α:Type}:∀(l:List (Str×α)) (x:Str) (c:α),(x,c)∈l->(l.lookup x).isSome=true
 |[],_,_,h=>nomatch h
 |p::r,x,c,h=>by
  simp only[List.lookup];split
  ·rfl
  ·rcases List.mem_cons.mp h with e|m
   ·rename_i q;rw[←e]at q;simp at q
   ·exact Fx r x c m
theorem Gj{env:Env}{names:List (Str×NameKind)}{x:Str}{c:Addr}(h:(Da env names []).lookup x=some c):env.cells.lookup x=some c:=
 Ms env names [] (λ_ m=>nomatch m) (x,c) (mem_of_lookup h)
theorem Zm{env:Env}{names:List (Str×NameKind)}{x:Str}{c:Addr}(hm:(x,NameKind.free)∈names) (h:env.cells.lookup x=some c):(Da env names []).lookup x=some c:=by
 obtain⟨c',e⟩:=Option.isSome_iff_exists.mp (Fx _ _ _ (Mm env names [] x c h (.inl hm)))
 have:=Gj e
 rw[h]at this;cases this;exact e
theorem Jq{α β:Type}(f:Str×α->Str×β) (hf:∀p,(f p).1=p.1):∀(l:List (Str×α)) (x:Str),(l.map f).lookup x=(l.lookup x).map λk=>(f (x,k)).2
 |[],_=>rfl
 |(y,k)::r,x=>by
  have hk:=hf (y,k);rw[List.map_cons];rw[show f (y,k)=((f (y,k)).1,(f (y,k)).2)from rfl,hk]
  simp only[List.lookup]
  cases e:x==y with
  |true=>simp only;rw[beq_iff_eq.mp e];rfl
  |false=>simp only;exact Jq f hf r x
theorem Oz{scope:Scope}{env:Env}(x:Str):(relabel scope env).names.lookup x=(scope.names.lookup x).map λk=>if(k==NameKind.free&&env.scope.kind== .function&&env.kindOf x==some .cell)then NameKind.cell else k:=by
 show(scope.names.map _).lookup x=_
 rw[Jq _ (λp=>by dsimp only;split<;>rfl)]
 cases scope.names.lookup x with
 |none=>rfl
 |some k=>simp only[Option.map_some];congr 1;split<;>rfl
open Classical in
noncomputable def Fy (tgt:D->C3->Option C3) (g:Bm->Prop) (test:Mn Bool) (elt:Mn D):List D->List D->Mn (List D)
 |[],acc=>λst=>if g st.sto then .ok acc st else .bot
 |d::rest,acc=>λst=>if g st.sto then
   match tgt d st.loc with
   |none=>.bot
   |some loc'=>match test ⟨loc',st.sto⟩with
    |.ok true st'=>(match elt st' with
     |.ok x st''=>Fy tgt g test elt rest (acc++[x]) st''
     |.exc c st''=>.exc c st''
     |.bot=>.bot)
    |.ok false st'=>Fy tgt g test elt rest acc st'
    |.exc c st'=>.exc c st'
    |.bot=>.bot
  else .bot
section
variable {tgt:D->C3->Option C3}{g:Bm->Prop}{test:Mn Bool}{elt:Mn D}{d:D}{rest acc:List D}{st:St}
open Classical in
theorem Ip:Fy tgt g test elt [] acc st=if g st.sto then .ok acc st else .bot:=rfl
open Classical in
theorem Dc:Fy tgt g test elt (d::rest) acc st=if g st.sto then
   match tgt d st.loc with
   |none=>.bot
   |some loc'=>match test ⟨loc',st.sto⟩with
    |.ok true st'=>(match elt st' with
     |.ok x st''=>Fy tgt g test elt rest (acc++[x]) st''
     |.exc c st''=>.exc c st''
     |.bot=>.bot)
    |.ok false st'=>Fy tgt g test elt rest acc st'
    |.exc c st'=>.exc c st'
    |.bot=>.bot
  else .bot:=rfl
end
structure Rl (G:Gd) (C:Cx) (ifs:List Expr) (m:Mn Bool):Prop where
 run:∀A P env s ρ st,Ok G C A P env s ρ st->
 At G A env s ρ st RB (forIn ifs true λc r=>if r=true then do let ok ←isTrue c env (eval c env);pure (ForInStep.yield ok)else pure (ForInStep.yield r)) m
theorem zFQ{G:Gd}{C:Cx}:Rl G C [] (ret1 true):=.mk <| λA P env s ρ st K=>At.pure K rfl
theorem zEL{G:Gd}{C:Cx}{c:Expr}{m:Mn Bool}(h:SB G C c m):Rl G C [c] m:=.mk <| λA P env s ρ st K hb=>wpAny_tests_one (h.run A P env s ρ st K hb)
noncomputable def Il (is:List Nat) (loc:C3):C3:=λi=>if is.contains i then none else loc i
section
variable {G:Gd}{C C':Cx}{A:Around}{P:List Addr}{env:Env}
inductive zFc (G:Gd) (tbl:List Str) (cenv:Env) (hs:Heap) (ρs:List Addr) (q:Addr) (r:O8 (List D)) (s':Shared):Prop
 |mk (ρ':List Addr) (xs:List D) (st':St) (vs:Array Value):r=.ok xs st'->Cy G s' ρ' st'.sto->Ev [cenv.locals] hs ρs s'.heap ρ'->Ho G tbl [cenv.locals] cenv s'.heap ρ' st'.loc->q∉ρ'->Jj s'.heap q vs->B7 G s'.heap ρ' xs vs.toList->zFc G tbl cenv hs ρs q r s'
inductive zFw (G:Gd) (tbl:List Str) (A:Around) (cenv:Env) (hs:Heap) (ρs:List Addr) (r:O8 (List D)) (x:Value) (s':Shared):Prop
 |mk (ρ':List Addr) (c:Addr) (st':St) (a L:Addr):r=.exc c st'->Cy G s' ρ' st'.sto->Ev [cenv.locals] hs ρs s'.heap ρ'->Ho G tbl [cenv.locals] cenv s'.heap ρ' st'.loc->Sj G A cenv s'.heap ρ'->x=.ref a->cenv.frame=some L->Nz hs.objs.size s'.heap (rawInt L) a c->zFw G tbl A cenv hs ρs r x s'
noncomputable def zGA (G:Gd) (tbl:List Str) (A:Around) (cenv:Env) (hs:Heap) (ρs:List Addr) (q:Addr) (r:O8 (List D)):Result->Shared->Prop
 |.ok _,s'=>zFc G tbl cenv hs ρs q r s'
 |.error x,s'=>zFw G tbl A cenv hs ρs r x s'
theorem zDK{I:Addr}{S:List Addr}{tg:Expr->Prop}{g:Bm->Prop}{T:List D->Heap->List Addr->Bm->Prop}{Md:Value->List D->Heap->List Addr->Bm->Prop}(X:zGI G I S tg g T Md)
  {elt target iter:Expr}{ifs:List Expr}{scope:Scope}{pos:Pos}{tf:D->C3->Option C3}{mt:Mn Bool}{me:Mn D}{cenv:Env}{q:Addr}
  (hC:C'.inh=false) (ht:tg target) (hT:ST G C' false target tf) (hTs:Rl G C' ifs mt) (hE:SE G C' elt me){hs:Heap}{ρs:List Addr}(hb0:∀b,hs.objs.size<=b->G.h0.get? b=none) (hq:hs.objs.size<=q) (hS:∀q',q'∈S->hs.objs.size<=q'∨q'∈ρs) (hqS:q∉S) (hqC:q≠cenv.locals):
  ∀(ds acc:List D) (s:Shared) (ρ:List Addr) (st:St) (vs:Array Value),Ok G C' A [cenv.locals] cenv s ρ st->T ds s.heap ρ st.sto->Ev [cenv.locals] hs ρs s.heap ρ->q∉ρ->Jj s.heap q vs->B7 G s.heap ρ acc vs.toList->
   acc.length+ds.length<=sizeLine->Fy tf g mt me ds acc st≠.bot->
   codeAny G.M A (.compLoop (.ListComp elt [⟨target,iter,ifs,0⟩] scope pos) 0 (.ref I) (.ref q) cenv) (zGA G C'.tbl A cenv hs ρs q (Fy tf g mt me ds acc st)) s:=by
 intro ds
 induction ds with
 |nil=>
  intro acc s ρ st vs K hTT x hqr hl r hz hbot;have hg:g st.sto:=by
   by_cases h:g st.sto
   ·exact h
   ·exact absurd (by(first|rw[Ip,if_neg h]|rw[Dc,if_neg h])) hbot
  refine codeAny_of_tree ?_
  show wpAny _ A ((compTurn (.ListComp elt [⟨target,iter,ifs,0⟩] scope pos) 0 (.ref I) (.ref q) cenv).onRaise (λx=>do noteFrame x cenv;theTreesLotGoes x)) _ _ s
  refine wpAny_noted ?_
  rw[compTurn_list];refine wpAny_bind (wpAny_standAt (wpAny_bind (X.next A s ρ st.sto [] _ _ (K.room.hd hC) K.inv hTT (λ_ h' tk ho=>?_) (λd rest e=>by cases e))))
  have K':=K.only ho (X.own _ _ _ _ hTT) tk;have Sb:=ho.stb (X.own _ _ _ _ hTT);obtain⟨n,hl⟩:=hl;exact wpAny_pure ⟨ρ,acc,st,vs,by(first|rw[Ip,if_pos hg]|rw[Dc,if_pos hg]),K'.inv,x.only ho hS,K'.frm,hqr,⟨n,ho.1 q _ hqS hl⟩,B7.mono Sb _ _ r⟩
 |cons d rest ih=>
  intro acc s ρ st vs K hTT x hqr hl r hz hbot;have hg:g st.sto:=by
   by_cases h:g st.sto
   ·exact h
   ·exact absurd (by(first|rw[Ip,if_neg h]|rw[Dc,if_neg h])) hbot
  refine codeAny_of_tree ?_
  show wpAny _ A ((compTurn (.ListComp elt [⟨target,iter,ifs,0⟩] scope pos) 0 (.ref I) (.ref q) cenv).onRaise (λx=>do noteFrame x cenv;theTreesLotGoes x)) _ _ s
  refine wpAny_noted ?_
  rw[compTurn_list];refine wpAny_bind (wpAny_standAt (wpAny_bind (X.next A s ρ st.sto (d::rest) _ _ (K.room.hd hC) K.inv hTT (λe=>by cases e) (λd' rest' e v h' tk ho rv hM=>?_))))
  cases e;have K₁:=K.only ho (X.own _ _ _ _ hTT) tk;refine wpAny_bind (X.go A _ ρ st.sto target v rest _ _ ht K₁.inv hM λh₂ ho₂ hT₂=>?_)
  have K₂:=K₁.only ho₂ (X.ownM _ _ _ _ _ hM) tk;have x₂:Ev [cenv.locals] hs ρs h₂ ρ:=(x.only ho hS).only ho₂ hS
  have rv₂:Cn G h₂ ρ d v:=Cn.mono (ho₂.stb (X.ownM _ _ _ _ _ hM)) d v rv
  have hl₂:Jj h₂ q vs:=let⟨n,e⟩:=hl;⟨n,ho₂.1 q _ hqS (ho.1 q _ hqS e)⟩
  have r₂:B7 G h₂ ρ acc vs.toList:=B7.mono (ho₂.stb (X.ownM _ _ _ _ _ hM)) _ _ (B7.mono (ho.stb (X.own _ _ _ _ hTT)) _ _ r)
  have keepq:∀{h h':Heap}{ρ₁ ρ₂:List Addr},Ev [cenv.locals] h ρ₁ h' ρ₂->q∉ρ₁->Jj h q vs->q∉ρ₂/\Jj h' q vs:=λxx nq ⟨n,e⟩=>by
   obtain⟨o',e',sm⟩:=xx.keep q _ e nq (λm=>hqC (lq0 m))
   rw[sm.eq (λ_ _ z=>by cases z)]at e'
   exact⟨xx.notin e nq,n,e'⟩
  cases e1:tf d st.loc with
  |none=>exact absurd (by(rw[Dc,if_pos hg,e1])) hbot
  |some loc'=>
   refine wpAny_bind (hT.run A [cenv.locals] cenv {s with heap:=h₂,toks:=tk} ρ st d v loc' _ _ K₂ (λz=>by cases z) rv₂ e1 λs₃ I₃ x₃ F₃=>?_)
   have K₃:Ok G C' A [cenv.locals] cenv s₃ ρ ⟨loc',st.sto⟩:=K₂.stepS (st':=⟨loc',st.sto⟩) I₃ x₃ F₃
   obtain⟨hqr₃,hl₃⟩:=keepq x₃ hqr hl₂;have r₃:B7 G s₃.heap ρ acc vs.toList:=B7.mono (x₃.stb K₂.inv K₂.frm.nt) _ _ r₂
   have T₃:T rest s₃.heap ρ st.sto:=X.keep _ rest {s with heap:=h₂,toks:=tk} ρ st.sto s₃ ρ st.sto hT₂ K₂.inv I₃ x₃ K₂.frm.nt hg
   have hnb:mt ⟨loc',st.sto⟩≠.bot:=λz=>hbot (by(rw[Dc,if_pos hg,e1];dsimp only;rw[z]))
   have exf:∀{s₄:Shared}{ρ₄:List Addr}{c:Addr}{st₄:St}{a:Addr},Ok G C' A [cenv.locals] cenv s₄ ρ₄ st₄->Ev [cenv.locals] hs ρs s₄.heap ρ₄->zAJ hs.objs.size s₄.heap cenv.frame a c->Fy tf g mt me (d::rest) acc st=.exc c st₄->
     notedBy G.M A cenv (λe s'=>zGA G C'.tbl A cenv hs ρs q (Fy tf g mt me (d::rest) acc st) (.error e) s') (.ref a) s₄:=λK₄ x₄ fl e2=>
    U5 K₄.stk fl K₄.inv x₄ K₄.frm hb0 λL s₅ I₅ x₅ F₅ S₅ hL fT=>⟨_,_,_,_,L,e2,I₅,x₅,F₅,S₅,rfl,hL,fT⟩
   refine wpAny_bind (wpAny_mono (hTs.run A [cenv.locals] cenv s₃ ρ _ K₃ hnb) (λok s₄ qq=>?_) λe s₄ qq=>?_)
   ·obtain⟨ρ₄,b,σ₄,e2,I₄,x₄,rb⟩:=qq
    cases(show b=ok from rb)
    have K₄:=K₃.step I₄ x₄;obtain⟨hqr₄,hl₄⟩:=keepq x₄.nil hqr₃ hl₃;have r₄:B7 G s₄.heap ρ₄ acc vs.toList:=B7.mono (x₄.stb K₃.inv .nil) _ _ r₃
    have xx₄:Ev [cenv.locals] hs ρs s₄.heap ρ₄:=(x₂.trans x₃).trans x₄.nil
    cases ok with
    |false=>
     have e3:Fy tf g mt me (d::rest) acc st=Fy tf g mt me rest acc ⟨loc',σ₄⟩:=by(rw[Dc,if_pos hg,e1];dsimp only;rw[e2])
     rw[e3]at hbot ⊢;have hg₄:g σ₄:=by
      by_cases h:g σ₄
      ·exact h
      ·exact absurd (by cases rest<;>(first|rw[Ip,if_neg h]|rw[Dc,if_neg h])) hbot
     exact wpAny_pure (And.intro rfl (ih acc s₄ ρ₄ ⟨loc',σ₄⟩ vs K₄ (X.keep [] rest s₃ ρ st.sto s₄ ρ₄ σ₄ T₃ K₃.inv I₄ x₄ .nil hg₄) xx₄ hqr₄ hl₄ r₄ (by simp at hz;exact Aw λZ=>A8 [_,_,_] [A7 x2 (.a x0 x1),A5 (.a x0 (.a x1 (.n 1))) x2] rT Z hz) hbot))
    |true=>
     have hnb2:me ⟨loc',σ₄⟩≠.bot:=λz=>hbot (by(rw[Dc,if_pos hg,e1];dsimp only;rw[e2];dsimp only;rw[z]))
     refine wpAny_bind (wpAny_bind (wpAny_mono (hE.run A [cenv.locals] cenv s₄ ρ₄ _ K₄ hnb2) (λy s₅ qq=>?_) λe s₅ qq=>?_))
     ·obtain⟨ρ₅,dy,σ₅,e4,I₅,x₅,ry⟩:=qq;have K₅:=K₄.step I₅ x₅;obtain⟨hqr₅,hl₅⟩:=keepq x₅.nil hqr₄ hl₄;have r₅:B7 G s₅.heap ρ₅ acc vs.toList:=B7.mono (x₅.stb K₄.inv .nil) _ _ r₄
      have xx₅:Ev [cenv.locals] hs ρs s₅.heap ρ₅:=xx₄.trans x₅.nil
      have e3:Fy tf g mt me (d::rest) acc st=Fy tf g mt me rest (acc++[dy]) ⟨loc',σ₅⟩:=by(rw[Dc,if_pos hg,e1];dsimp only;rw[e2];dsimp only;rw[e4])
      rw[e3]at hbot ⊢;have hg₅:g σ₅:=by
       by_cases h:g σ₅
       ·exact h
       ·exact absurd (by cases rest<;>(first|rw[Ip,if_neg h]|rw[Dc,if_neg h])) hbot
      have hsz:vs.size<=sizeLine:=by
       have:=r.all2.length
       simp at this hz
       exact Aw λZ=>A8 [_,_,_,_] [A7 x0 x1,A5 (.a x2 (.a x3 (.n 1))) x0,B9 x1 x2,A5 (.n 0) x3] rT Z hz this (lq5 _)
      obtain⟨n₅,hl₅'⟩:=id hl₅;refine wpAny_bind ?_
      refine call_meets slot_list_append hl₅.list.typeIs entry_list_append (args_list_append _ _) (S:=λ_ R s=>s.heap.get? q=some (G2 vs n₅)/\R (.ok (.ret .none)) {s with heap:=s.heap.update q (Obj.mapSeq (·.push y))}) ?_ ⟨hl₅',?_⟩
      ·refine .of_wp λprog w A R s h=>?_
       show wpAny _ _ (updateSeq q (·.push y) >>= λ_=>ret .none) _ _ s
       exact wpAny_bind (wpAny_updateSeq h.1 rfl (wpAny_pure ⟨.none,rfl,h.2⟩))
      have hnew:(s₅.heap.update q (Obj.mapSeq (·.push y))).get? q=some (G2 (vs.push y) (n₅+1)):=by
       rw[Heap.get?_update_self _ hl₅' rfl];simp[Obj.mapSeq]
      have hsame:Heap.SameBut q s₅.heap (s₅.heap.update q (Obj.mapSeq (·.push y))):=Heap.SameBut.update ..
      have ho6:Hs [q] s₅.heap (s₅.heap.update q (Obj.mapSeq (·.push y))):=Nr (λb o n e=>(hsame.2 b n).trans e) (Nat.le_of_eq hsame.1.symm) (λ⟨u,v,z⟩=>by rw[hl₅']at z;exact Im (Option.some.inj z).symm)
      have own6:∀q',q'∈[q]->Up G s₅.heap ρ₅ σ₅ q':=λq' m=>by rw[lq0 m];exact .inl (.inr ⟨hb0 q hq,hqr₅,vs,hl₅⟩)
      have K₆:=K₅.only ho6 own6 s₅.toks;have S₆:=ho6.stb own6;have T₅:T rest s₅.heap ρ₅ σ₅:=X.keep [] rest s₃ ρ st.sto s₅ ρ₅ σ₅ T₃ K₃.inv I₅ (x₄.trans x₅) .nil hg₅
      have x6:Ev [q] s₅.heap ρ₅ (s₅.heap.update q (Obj.mapSeq (·.push y))) ρ₅:=⟨λ_ _ e=>e,λb o e _ n=>⟨o,ho6.1 b o n e,.refl o⟩,λ_ m=>.inl m,ho6.2.1⟩
      have nt6:NT s₅.heap [q]:=λp m=>by rw[lq0 m];exact⟨_,hl₅',.inr (.inr ⟨_,_,rfl⟩)⟩
      have T₆:=X.keep [q] rest s₅ ρ₅ σ₅ _ ρ₅ σ₅ T₅ I₅ K₆.inv x6 nt6 hg₅;refine wpAny_pure (wpAny_pure (And.intro rfl (ih (acc++[dy]) _ ρ₅ ⟨loc',σ₅⟩ (vs.push y) K₆ T₆ (xx₅.only ho6 (λq' m=>.inl (by rw[lq0 m];exact hq))) hqr₅ ⟨_,hnew⟩ ?_ (by simp at hz ⊢; exact Aw λZ=>A8 [_,_,_] [A7 x2 (.a (.a x0 (.n 1)) x1),A5 (.a x0 (.a x1 (.n 1))) x2] rT Z hz) hbot)))
      simp only[Array.toList_push];exact B7.of_all2 ((B7.mono S₆ _ _ r₅).all2.append (.cons (Cn.mono S₆ _ _ ry) .nil))
     ·apply yo;intro _ k0
      obtain⟨ρ₅,c,σ₅,a,e4,I₅,x₅,rfl,fl⟩:=qq;apply k0
      exact exf (K₄.step I₅ x₅) (xx₄.trans x₅.nil) (fl.from xx₄.size) (by(rw[Dc,if_pos hg,e1];dsimp only;rw[e2];dsimp only;rw[e4]))
   ·obtain⟨ρ₄,c,σ₄,a,e2,I₄,x₄,rfl,fl⟩:=qq;exact exf (K₃.step I₄ x₄) ((x₂.trans x₃).trans x₄.nil) (fl.from (x₂.trans x₃).size) (by(rw[Dc,if_pos hg,e1];dsimp only;rw[e2]))
end
open Classical in
noncomputable def Dq (cls:List Nat) (tf:D->C3->Option C3) (mt:Mn Bool) (me:Mn D) (src:Ix):Mn D:=λst=>
 if src.ds.length<=sizeLine then
  match Fy tf src.g mt me src.ds [] ⟨Il cls st.loc,st.sto⟩with
  |.ok xs st'=>.ok (.ref st'.sto.length) ⟨st.loc,st'.sto++[.list xs]⟩
  |.exc c st'=>.exc c ⟨st.loc,st'.sto⟩
  |.bot=>.bot
 else .bot
structure Pf (C:Cx) (scope:Scope) (cls:List Nat):Prop where
 kind:scope.kind=.function
 nocell:∀x,x∈scope.names->x.2≠.cell
 nl:∀x,x∈scope.names->x.2=.local->scope.names.lookup x.1=some .local
 free:∀x,x∈scope.names->x.2=.free->(C.names.lookup x.1=some .cell∨C.names.lookup x.1=some .free)/\x.1∈C.tbl
 cls:∀(i:Nat) x,C.tbl[i]? =some x->scope.names.lookup x=some .local->cls.contains i=true
section
variable {G:Gd}{C:Cx}{A:Around}{P:List Addr}{env:Env}{s:Shared}{ρ:List Addr}{st:St}
theorem Rc{elt target iter:Expr}{ifs:List Expr}{scope:Scope}{pos cpos:Pos}{cls:List Nat}{tg:Expr->Prop}{mi:Mn Ix}{tf:D->C3->Option C3}{mt:Mn Bool}{me:Mn D}
  (hC:C.inh=false) (hS:Pf C scope cls) (hI:SI G C iter tg mi) (ht:tg target) (hT:ST G ⟨scope.names,C.tbl,C.lvl,C.inh,C.code,C.qual⟩ false target tf) (hTs:Rl G ⟨scope.names,C.tbl,C.lvl,C.inh,C.code,C.qual⟩ ifs mt) (hE:SE G ⟨scope.names,C.tbl,C.lvl,C.inh,C.code,C.qual⟩ elt me)
  (hs:∀env x,foldedSetIterable iter env x=pure x) (K:Ok G C A P env s ρ st) (hb:bnd mi (Dq cls tf mt me) st≠.bot){use:Option (Value->Sem Unit)}{Q:Value->Shared->Prop}{E:Value->Shared->Prop}
  (hQ:∀(s':Shared) (ρ':List Addr) (d:D) (σ':Bm) (v:Value) (C0:Addr),bnd mi (Dq cls tf mt me) st=.ok d ⟨st.loc,σ'⟩->Cy G s' ρ' σ'->Ev [] s.heap ρ s'.heap ρ'->Cn G s'.heap ρ' d v->s.heap.objs.size<=C0->C0∉ρ'->(∃m,s'.heap.Ns C0 m)->
   match use with
   |none=>∀h',Heap.SameBut C0 s'.heap h'->Q v {s' with heap:=h'}
   |some u=>wpAny G.M A (u v) (λ_ s''=>∃m,s''.heap.Ns C0 m/\∀h',Heap.SameBut C0 s''.heap h'->Q .none {s'' with heap:=h'}) E s')
  (hX:∀x s',C1 G env s ρ st (bnd mi (Dq cls tf mt me) st) x s'->E x s'):
  wpAny G.M A (comprehension (.ListComp elt [⟨target,iter,ifs,0⟩] scope pos) scope env cpos (newList []) false (eval iter env) use) Q E s:=by
 have hclos:closureFor scope env=pure (Da env scope.names []):=Pv λx m=>by
  apply yo;intro _ k0
  obtain⟨hk,mt⟩:=hS.free (x,.free) m rfl
  obtain⟨i,hi,e⟩:=List.getElem_of_mem mt;apply k0
  have hk':env.kindOf x=some .cell∨env.kindOf x=some .free:=hk.elim (λh=>.inl (K.sees.cell x h)) (K.sees.free x)
  obtain⟨c,hc,_⟩:=K.frm.cell i x (by rw[List.getElem?_eq_getElem hi,e]) hk'
  rw[hc];rfl
 refine wpAny_comprehension_free rfl (hs env) hclos hS.kind hS.nl ?_
 refine wpAny_mono (hI.run A P env s ρ st K (B6 hb)) (λx s₁ h₁=>wpAny_mono h₁ (λit s₂ q=>?_) λx s₂ q=>?_) λx s₂ q=>?_
 rotate_left
 ·exact hX _ _ (C1.bnd q)
 ·exact hX _ _ (C1.bnd q)
 obtain⟨ρ₂,src,σ₂,Ia,S,T,Md,e,I₂,x₂,rfl,X,Xs,hT0,hSn⟩:=q;have e':bnd mi (Dq cls tf mt me) st=Dq cls tf mt me src ⟨st.loc,σ₂⟩:=by simp only[bnd,e]
 have K₂:=K.step I₂ x₂;have hlen:src.ds.length<=sizeLine:=by
  by_cases h:src.ds.length<=sizeLine
  ·exact h
  ·exact absurd (by rw[e'];(unfold Dq;rw[if_neg h])) hb
 have hnb:Fy tf src.g mt me src.ds [] ⟨Il cls st.loc,σ₂⟩≠.bot:=λz=>hb (by rw[e'];(unfold Dq;rw[if_pos hlen,z]))
 refine wpAny_newObj_type ?_ (by size_fits)
 refine wpAny_newFunctionEnv hS.nocell (λx m=>nomatch m) (λh₄ hn₄ hs₄=>?_) hS.kind
 generalize hq0:s₂.heap.objs.size=q at*
 have hC0:(s₂.heap.push {cls:=.type "list",data:=.seq #[]}).objs.size=q+1:=by rw[Heap.size_push,hq0]
 rw[hC0]at hn₄ hs₄ ⊢;generalize hC1:q+1=C0 at*
 have hqC:q<C0:=hC1▸Nat.lt_succ_self q
 have g₄:B8 s₂.heap h₄:=λb o ho=>by
  have hb:b<q:=hq0▸Heap.lt_size ho
  exact(hs₄.2 b (Nat.ne_of_lt (Nat.lt_trans hb hqC))).trans (Heap.get?_push_of_some _ (Heap.get?_push_of_some _ ho))
 have z₄:s₂.heap.objs.size<=h₄.objs.size:=by rw[hs₄.1,Heap.size_push,Heap.size_push];exact Nat.le_add_right _ 2
 have hlq:Jj h₄ q #[]:=by
  refine⟨0,(hs₄.2 q (Nat.ne_of_lt hqC)).trans (Heap.get?_push_of_some _ ?_)⟩
  rw[←hq0];exact Heap.get?_push_size _ rfl
 have I₄:Cy G {s₂ with heap:=h₄} ρ₂ σ₂:=I₂.grow g₄ z₄ s₂.toks
 have x₄:Ev [] s₂.heap ρ₂ h₄ ρ₂:=g₄.ev z₄
 have lt₂:∀{a:Addr},a∈ρ₂->a<q:=λm=>hq0▸I₂.mem_lt m
 have hC0n:C0∉ρ₂:=λm=>Nat.lt_asymm (lt₂ m) hqC
 have hqn:q∉ρ₂:=λm=>Nat.lt_irrefl _ (lt₂ m)
 generalize hE0:newEnv scope C0 env.globals (Da env scope.names []) env.qual none .none (some env) builtinsNs=ce
 have hcl0:ce.locals=C0:=by rw[←hE0];rfl
 generalize hcenv:({ce with scope:=relabel scope env}:Env)=cenv
 have eloc:cenv.locals=C0:=by rw[←hcenv];exact hcl0
 have ekind:∀x,cenv.kindOf x=(scope.names.lookup x).map λk=>if(k==NameKind.free&&env.scope.kind== .function&&env.kindOf x==some .cell)then NameKind.cell else k:=λx=>by
  rw[←hcenv];exact Oz x
 have ecells:cenv.cells=Da env scope.names []:=by rw[←hcenv,←hE0];rfl
 have eframe:cenv.frame=env.frame:=by rw[←hcenv,←hE0];rfl
 have ecode:cenv.code=env.code:=by rw[←hcenv,←hE0];rfl
 have equal:cenv.qual=env.qual:=by rw[←hcenv,←hE0];rfl
 have kfree:∀x,cenv.kindOf x=some .cell∨cenv.kindOf x=some .free->scope.names.lookup x=some .free:=λx h=>by
  rw[ekind]at h
  cases q:scope.names.lookup x with
  |none=>rw[q]at h;rcases h with h|h<;>cases h
  |some k=>
   rw[q]at h
   cases k with
   |free=>rfl
   |cell=>exact absurd rfl (hS.nocell _ (mem_of_lookup q))
   |_=>rcases h with h|h<;>cases h
 have kloc:∀x,cenv.kindOf x=some .local->scope.names.lookup x=some .local:=λx h=>by
  rw[ekind]at h
  cases q:scope.names.lookup x with
  |none=>rw[q]at h;cases h
  |some k=>
   rw[q]at h;simp only[Option.map_some]at h;split at h
   ·cases h
   ·exact h
 have F₄:Ho G C.tbl [cenv.locals] cenv h₄ ρ₂ (Il cls st.loc):={
  kind:=by rw[←hcenv];exact hS.kind
  glob:=by rw[←hcenv,←hE0];exact K.frm.glob
  bi:=by rw[←hcenv,←hE0];exact K.frm.bi
  ns:=⟨_,by rw[eloc];exact hn₄,λi x e k d hd=>by
   have:=hS.cls i x e (kloc x k)
   simp only[Il,this,if_true]at hd;cases hd⟩
  cell:=λi x e k=>by
   have kf:=kfree x k;have ko:=(hS.free (x,.free) (mem_of_lookup kf) rfl).1;have hk':env.kindOf x=some .cell∨env.kindOf x=some .free:=ko.elim (λh=>.inl (K.sees.cell x h)) (K.sees.free x)
   apply yo;intro _ k0
   obtain⟨c,hc,ov,n,qq⟩:=(K₂.frm.keep K₂.inv x₄).cell i x e hk';apply k0
   refine⟨c,by rw[ecells];exact Zm (mem_of_lookup kf) hc,ov,n,λd hd=>qq d ?_⟩
   simp only[Il]at hd;split at hd
   ·cases hd
   ·exact hd
  cok:=λx c e=>by rw[ecells]at e;exact(K₂.frm.keep K₂.inv x₄).cok x c (Gj e)
  cinj:=λx y c e1 e2=>by rw[ecells]at e1 e2;exact K.frm.cinj x y c (Gj e1) (Gj e2)
  lrho:=by rw[eloc];exact hC0n
  lP:=List.mem_singleton.mpr rfl
  own:=λp m=>⟨by rw[lq0 m,eloc];exact I₂.h0_le (by rw[hq0];exact Nat.le_of_lt hqC),.inl (lq0 m)⟩
  tnd:=K.frm.tnd}
 have K₄:Ok G ⟨scope.names,C.tbl,C.lvl,C.inh,C.code,C.qual⟩ A [cenv.locals] cenv {s₂ with heap:=h₄} ρ₂ ⟨Il cls st.loc,σ₂⟩:={
  room:=⟨K.room.hd,K.room.depth,K.room.units⟩
  sees:={
   loc:=λx h=>by rw[ekind,h];rfl
   cell:=λx h=>absurd rfl (hS.nocell _ (mem_of_lookup h))
   free:=λx h=>by
    rw[ekind,h];simp only[Option.map_some];split
    ·exact .inl rfl
    ·exact .inr rfl
   glob:=λx h=>by rw[ekind,h];rfl}
  inv:=I₄
  frm:=F₄
  stk:=⟨let⟨fe,o,L,h1,h2,h3⟩:=K.stk.fr;⟨fe,o,L,h1,h2,eframe.trans h3⟩,(K₂.stk.step x₄).ff⟩
  code:=K.code.imp id ecode.trans
  qual:=K.qual.imp id equal.trans}
 have T₄:T src.ds h₄ ρ₂ σ₂:=X.keep [] src.ds s₂ ρ₂ σ₂ {s₂ with heap:=h₄} ρ₂ σ₂ hT0 I₂ I₄ x₄ .nil (by
  by_cases h:src.g σ₂
  ·exact h
  ·exact absurd (by cases src.ds<;>(first|rw[Ip,if_neg h]|rw[Dc,if_neg h])) hnb)
 have b0:∀b,s.heap.objs.size<=b->G.h0.get? b=none:=λb z=>K.inv.h0_le z
 have hsq:s.heap.objs.size<=q:=hq0▸x₂.size
 have hqS:q∉S:=λm=>by
  rcases X.own _ _ _ _ hT0 q m with(⟨_,_,o,_,_,ho,_⟩|⟨_,_,vs,n,ho⟩)|⟨k,ek,_⟩
  ·exact absurd (Heap.lt_size ho) (by rw[hq0];exact Nat.lt_irrefl _)
  ·exact absurd (Heap.lt_size ho) (by rw[hq0];exact Nat.lt_irrefl _)
  ·exact hqn (List.mem_of_getElem? ek)
 have xs₄:Ev [cenv.locals] s.heap ρ h₄ ρ₂:=(x₂.trans x₄).nil
 have loop:codeAny G.M A (.compLoop (.ListComp elt [⟨target,iter,ifs,0⟩] scope pos) 0 (.ref Ia) (.ref q) cenv) (compPost G.M A E use Q (.ref q) ce.locals) {s₂ with heap:=h₄}:=by
  refine codeAny_mono (zDK (C':=⟨scope.names,C.tbl,C.lvl,C.inh,C.code,C.qual⟩) X hC ht hT hTs hE (hs:=s.heap) (ρs:=ρ) b0 hsq (λq' m=>.inl (hSn q' m)) hqS (by rw[eloc];exact Nat.ne_of_lt hqC) src.ds [] _ ρ₂ ⟨Il cls st.loc,σ₂⟩ #[] K₄ T₄ xs₄ hqn hlq (show B7 _ _ _ _ _ from rfl) (by simpa using hlen) hnb) λr s' hr=>?_
  rw[hcl0];have hC0s:s.heap.objs.size<=C0:=Nat.le_trans hsq (Nat.le_of_lt hqC)
  cases r with
  |ok f=>
   obtain⟨ρ',xs,st',vs,e3,I',x',F',hq',hl',r'⟩:=hr;obtain⟨n',hl''⟩:=id hl';obtain⟨mm,nm,_⟩:=F'.ns;rw[eloc]at nm;have ad:=I'.adopt (q:=q) (p:=.list xs) (b0 q hsq) hq' (λo ho=>by rw[hl'']at ho;cases ho;exact⟨by simp,λc z=>by cases z⟩)
    (λS=>⟨vs,hl',B7.mono S _ _ r'⟩) s'.toks
   have ev:Ev [] s.heap ρ s'.heap (ρ'++[q]):=J8 (x'.less λp m=>.inr (by rw[lq0 m,eloc];exact hC0s)) hsq
   have rel:Cn G s'.heap (ρ'++[q]) (.ref st'.sto.length) (.ref q):=by
    exact⟨q,rfl,by rw[←I'.len];simp⟩
   have hn0:C0∉ρ'++[q]:=λm=>by
    rcases List.mem_append.mp m with m|m
    ·exact(eloc▸F'.lrho) m
    ·exact Nat.ne_of_gt hqC (lq0 m)
   have fin:=hQ s' (ρ'++[q]) (.ref st'.sto.length) (st'.sto++[.list xs]) (.ref q) C0 (by rw[e'];(unfold Dq;rw[if_pos hlen,e3])) ad.1 ev rel hC0s hn0 ⟨mm,nm⟩
   cases use with
   |none=>exact⟨mm,nm,fin⟩
   |some u=>exact fin
  |error x=>
   obtain⟨ρ',c,st',a,L,e3,I',x',F',S',rfl,hL,fT⟩:=hr;obtain⟨mm,nm,_⟩:=F'.ns;rw[eloc]at nm;have main:∃m,s'.heap.Ns C0 m∧∀h',Heap.SameBut C0 s'.heap h'→∀cenv:Env,cenv.locals=C0→wpAny G.M A (passOn "comprehension.variables-let-go" (.ref a) cenv:Sem Value) (λ_ _=>False) E {s' with heap:=h'}:=by
    refine⟨mm,nm,λh' hsb cenv' _=>?_⟩
    apply yo;intro _ k0
    obtain⟨oC,es,ep,hoC,hdC,_⟩:=id nm;obtain⟨I'',x'',S''⟩:=Mo (P:=[C0]) I' hsb (List.mem_singleton.mpr rfl) (b0 C0 hC0s) (eloc▸F'.lrho) ⟨oC,hoC,.inl ⟨es,ep,hdC⟩⟩ s'.toks
    obtain⟨hna,o,vs,T',oT,ts,ho,hc,hd,hsz,t1,t2,t3,t4,t5,t6,t7⟩:=fT;apply k0
    have ne:∀(b:Addr) (ob:Obj) (vs:Array Value),s'.heap.get? b=some ob->ob.data=.fields vs->b≠C0:=λb ob vs e hd z=>by
     rw[z,hoC]at e;cases e;rw[hdC]at hd;cases hd
    have ho':h'.get? a=some o:=(hsb.2 a (ne a o vs ho hd)).trans ho
    have fT':Nz s.heap.objs.size h' (rawInt L) a c:=⟨hna,o,vs,T',oT,ts,ho',hc,hd,hsz,t1,t2,t3,(hsb.2 T' (ne T' oT ts t4 t6)).trans t4,t5,t6,t7⟩
    refine wpAny_bind (wpAny_field (s:={s' with heap:=h'}) ho' hd t1 ?_)
    rw[if_neg (by simp)];refine wpAny_bind (Eg (ρ:=ρ') (s:={s' with heap:=h'}) (G:=G) (fr:=cenv'.frame) fT' λh'' N T=>?_)
    refine wpAny_throw (hX _ _ ?_)
    have xall:Ev [] s.heap ρ h' ρ':=(x'.trans (eloc.symm▸x'')).less λp m=>.inr (by rw[lq0 m,eloc];exact hC0s)
    exact⟨ρ',c,st'.sto,a,by rw[e'];(unfold Dq;rw[if_pos hlen,e3]),N.inv I'' b0 s'.toks,N.ev xall,rfl,T.fly⟩
   cases use<;>exact main
 refine codeAny_compStart_list loop (Xs A {s₂ with heap:=h₄} ρ₂ σ₂ src.ds _ _ (K.room.hd hC) T₄ loop)
theorem Y2{elt target iter:Expr}{ifs:List Expr}{scope:Scope}{pos:Pos}{cls:List Nat}{tg:Expr->Prop}{mi:Mn Ix}{tf:D->C3->Option C3}{mt:Mn Bool}{me:Mn D}
  (hC:C.inh=false) (hS:Pf C scope cls) (hI:SI G C iter tg mi) (ht:tg target) (hT:ST G ⟨scope.names,C.tbl,C.lvl,C.inh,C.code,C.qual⟩ false target tf) (hTs:Rl G ⟨scope.names,C.tbl,C.lvl,C.inh,C.code,C.qual⟩ ifs mt) (hE:SE G ⟨scope.names,C.tbl,C.lvl,C.inh,C.code,C.qual⟩ elt me)
  (hs:∀env x,foldedSetIterable iter env x=pure x):SE G C (.ListComp elt [⟨target,iter,ifs,0⟩] scope pos) (bnd mi (Dq cls tf mt me)):=.mk <| λA P env s ρ st K hb=>by
 refine Rc hC hS hI ht hT hTs hE hs K hb (λs' ρ' d σ' v C0 e I' x r hC0 hn ⟨m,nm⟩=>?_) λ_ _ z=>z
 intro h' hsb;apply yo;intro _ k0
 obtain⟨oC,es,ep,hoC,hdC,_⟩:=id nm;obtain⟨I'',x'',S''⟩:=Mo (P:=[C0]) I' hsb (List.mem_singleton.mpr rfl) (K.inv.h0_le hC0) hn ⟨oC,hoC,.inl ⟨es,ep,hdC⟩⟩ s'.toks
 apply k0
 exact⟨ρ',d,σ',e,I'',(x.nil.trans x'').less λp m=>.inr (by rw[lq0 m];exact hC0),Cn.mono S'' _ _ r⟩
theorem Og{i:Nat}{x:Str}{np:Pos}{elt target iter:Expr}{ifs:List Expr}{scope:Scope}{cpos pos:Pos}{cls:List Nat}{tg:Expr->Prop}{mi:Mn Ix}{tf:D->C3->Option C3}{mt:Mn Bool}{me:Mn D}
  (hi:C.tbl[i]? =some x) (hx:C.names.lookup x=some .local)
  (hC:C.inh=false) (hS:Pf C scope cls) (hI:SI G C iter tg mi) (ht:tg target) (hT:ST G ⟨scope.names,C.tbl,C.lvl,C.inh,C.code,C.qual⟩ false target tf) (hTs:Rl G ⟨scope.names,C.tbl,C.lvl,C.inh,C.code,C.qual⟩ ifs mt) (hE:SE G ⟨scope.names,C.tbl,C.lvl,C.inh,C.code,C.qual⟩ elt me)
  (hs:∀env x,foldedSetIterable iter env x=pure x)
  (hsw:∀env:Env,env.kindOf x=some .local->env.blockKind=.function->swapsWith (.ListComp elt [⟨target,iter,ifs,0⟩] scope cpos) (some (.Name x np)) pos.line env=pure true):
  SS G C (.Assign [.Name x np] (.ListComp elt [⟨target,iter,ifs,0⟩] scope cpos) pos) (bnd (bnd mi (Dq cls tf mt me)) (Aj i)):=.mk <| λA P env s ρ st K W hb=>by
 have hbk:env.blockKind=.function:=by unfold Env.blockKind;rw[K.frm.kind];rfl
 simp only[exec_Assign_Name_used (env:=env) x np _ pos (hsw env (K.sees.loc x hx) hbk)]
 refine wpAny_bind (wpAny_standAt ?_)
 refine wpAny_bind (wpAny_bind ?_)
 refine Rc hC hS hI ht hT hTs hE hs K (B6 hb) (λs' ρ' d σ' v C0 e I' x' r hC0 hn ⟨m,nm⟩=>?_) λex s' z=>?_
 ·have K':=K.step I' x';obtain⟨oC,es,ep,hoC,hdC,rC⟩:=id nm;have hCP:C0∉P:=λm=>by
   rcases(K.frm.own C0 m).2 with z|⟨y,z⟩
   ·obtain⟨_,n,_⟩:=K.frm.ns;exact absurd n.lt (by rw[←z];exact Nat.not_lt.mpr hC0)
   ·obtain⟨_,ov,o,ho,_⟩:=K.frm.cok y C0 z;exact absurd (Heap.lt_size ho) (Nat.not_lt.mpr hC0)
  refine wpAny_assign_Name (Lq K' hi hx r λs'' I'' x'' F''=>⟨m,So x'' nm hn hCP,λh' hsb=>?_⟩)
  have nm'':=So x'' nm hn hCP;apply yo;intro _ k0
  obtain⟨oC',es',ep',hoC',hdC',_⟩:=id nm'';obtain⟨I3,x3,S3⟩:=Mo (P:=C0::P) I'' hsb lq1 (K.inv.h0_le hC0) hn ⟨oC',hoC',.inl ⟨es',ep',hdC'⟩⟩ s''.toks
  apply k0
  have ev:Ev P s.heap ρ h' ρ':=((x'.nil.trans (x''.more λp m=>lq4 _ m)).trans x3).less λp m=>by
   rcases List.mem_cons.mp m with rfl|m
   ·exact .inr hC0
   ·exact .inl m
  have F3:Ho G C.tbl P env h' ρ' (upd st.loc i d):=by
   refine⟨F''.kind,F''.glob,F''.bi,?_,λj y e k=>?_,λy c e=>?_,F''.cinj,F''.lrho,F''.lP,F''.own,F''.tnd⟩
   ·obtain⟨m,n,q⟩:=F''.ns;exact⟨m,n.sameBut hsb (λz=>hCP (z▸F''.lP)),λj y e k d hd=>let⟨v,e1,e2⟩:=q j y e k d hd;⟨v,e1,Cn.mono S3 _ _ e2⟩⟩
   ·apply yo;intro _ k0
    obtain⟨c,e1,ov,n,q⟩:=F''.cell j y e k;apply k0
    exact⟨c,e1,ov,n.sameBut hsb (λz=>hCP (z▸W y c e1)),λd hd=>let⟨v,e1,e2⟩:=q d hd;⟨v,e1,Cn.mono S3 _ _ e2⟩⟩
   ·apply yo;intro _ k0
    obtain⟨n,ov,z⟩:=F''.cok y c e;apply k0
    exact⟨n,ov,z.sameBut hsb (λz=>hCP (z▸W y c e))⟩
  exact wpAny_pure (wpAny_pure ⟨ρ',.next,⟨upd st.loc i d,σ'⟩,by rw[bnd,e];rfl,I3,ev,F3,rfl⟩)
 ·obtain⟨ρ',c,σ',a,e,I',x',rfl,fl⟩:=z;exact⟨ρ',c,⟨st.loc,σ'⟩,a,by rw[bnd,e],I',x'.nil,K.frm.keep K.inv x',rfl,fl⟩
end
noncomputable def As:D->Mn Bool
 |.bool b=>ret1 b
 |.int i=>ret1 (i !=0)
 |.none=>ret1 false
 |.str x=>if x.length<=sizeLine then ret1 (x.length !=0)else botM
 |_=>botM
theorem C6{α:Type}{c:Prop} [Decidable c] {f g:Mn α}{st:St}(h:c):(if c then f else g) st=f st:=by rw[if_pos h]
theorem K8{α:Type}{c:Prop} [Decidable c] {f g:Mn α}{st:St}(h:¬c):(if c then f else g) st=g st:=by rw[if_neg h]
noncomputable def E8 (m:Mn Bool):Mn Bool:=bnd m λb=>ret1 (!b)
noncomputable def Fa (m n:Mn Bool):Mn Bool:=bnd m λb=>if b then n else ret1 false
noncomputable def Hp (m n:Mn Bool):Mn Bool:=bnd m λb=>if b then ret1 true else n
noncomputable def Q2 (m n:Mn D):Mn D:=bnd m λd=>bnd (As d) λb=>if b then n else ret1 d
noncomputable def zIF (m n:Mn D):Mn D:=bnd m λd=>bnd (As d) λb=>if b then ret1 d else n
noncomputable def Zk (m:Mn D):Mn D:=bnd m λd=>bnd (As d) λb=>ret1 (.bool (!b))
section
variable {G:Gd}{C:Cx}{A:Around}{P:List Addr}{env:Env}{s:Shared}{ρ:List Addr}{st:St}
theorem Fe{d:D}{v:Value}(K:Ok G C A P env s ρ st) (r:Cn G s.heap ρ d v):At G A env s ρ st RB (truthy v) (As d):=by
 refine At.leaf (λhb=>?_) K
 cases d with
 |bool b=>cases r;exact wpAny_truthy_bool ⟨b,rfl,B8.same0,rfl⟩
 |int i=>obtain⟨t,rfl⟩:=r;exact PySem.P.truthy_int ⟨_,rfl,B8.same0,rfl⟩
 |none=>cases r;exact truthy_none ⟨_,rfl,B8.same0,rfl⟩
 |str x=>
  obtain⟨t,rfl⟩:=r;have hz:x.length<=sizeLine:=by
   by_cases h:x.length<=sizeLine
   ·exact h
   ·exact absurd (K8 h) hb
  refine PySem.P.truthy_str (by rw[sizeLine_eq]at hz;omega) ⟨x.length !=0,C6 hz,B8.same,?_⟩
  show(x.length !=0)=((x.length:Int) !=0)
  cases h:x.length with
  |zero=>rfl
  |succ n=>simp[bne];exactλZ=>A4 [_] [B9 (.a x0 (.n 1)) (.n 0),A5 (.n 0) x0] rT Z (Hd _)
 |_=>exact absurd rfl hb
theorem zCN{e:Expr}{m:Mn D}(h:SE G C e m) (he:∀env whole,isTrue e env whole=(do let v ←whole;standAt e.pos;holding [v] (truthy v))):SB G C e (bnd m As):=.mk <| λA P env s ρ st K=>by
 rw[he];refine At.bind K (h.run A P env s ρ st K) λv s' ρ' d σ' K' x r=>?_
 exact At.stand (At.hold (Fe K' r))
theorem zGd{e:Expr}{pos:Pos}{m:Mn Bool}(h:SB G C e m):SB G C (.UnaryOp .Not e pos) (E8 m):=.mk <| λA P env s ρ st K=>by
 exact At.map (h.run A P env s ρ st K) λ_ _ d v r=>by cases r;rfl
structure zDy (G:Gd) (C:Cx) (op:BoolOp) (es:List Expr) (m:Mn Bool):Prop where
 run:∀A P env s ρ st,Ok G C A P env s ρ st->At G A env s ρ st RB (allTrue op es env) m
theorem zAZ{e:Expr}{m:Mn Bool}(h:SB G C e m):zDy G C .And [e] m:=.mk <| λA P env s ρ st K hb=>by
 refine wpAny_bind (wpAny_mono (h.run A P env s ρ st K hb) (λb s' q=>?_) λ_ _ q=>q)
 cases b<;>exact wpAny_pure q
theorem zET{e:Expr}{m:Mn Bool}(h:SB G C e m):zDy G C .Or [e] m:=.mk <| λA P env s ρ st K hb=>by
 refine wpAny_bind (wpAny_mono (h.run A P env s ρ st K hb) (λb s' q=>?_) λ_ _ q=>q)
 cases b<;>exact wpAny_pure q
theorem zDN{e:Expr}{es:List Expr}{m n:Mn Bool}(h:SB G C e m) (h2:zDy G C .And es n):zDy G C .And (e::es) (Fa m n):=.mk <| λA P env s ρ st K=>by
 refine At.bind K (h.run A P env s ρ st K) λv s' ρ' d σ' K' x r=>?_
 cases(show d=v from r)
 cases v with
 |false=>exact At.pure K' rfl
 |true=>exact h2.run A P env s' ρ' _ K'
theorem zHs{e:Expr}{es:List Expr}{m n:Mn Bool}(h:SB G C e m) (h2:zDy G C .Or es n):zDy G C .Or (e::es) (Hp m n):=.mk <| λA P env s ρ st K=>by
 refine At.bind K (h.run A P env s ρ st K) λv s' ρ' d σ' K' x r=>?_
 cases(show d=v from r)
 cases v with
 |false=>exact h2.run A P env s' ρ' _ K'
 |true=>exact At.pure K' rfl
theorem zFM{op:BoolOp}{es:List Expr}{pos:Pos}{m:Mn Bool}(h:zDy G C op es m):SB G C (.BoolOp op es pos) m:=.mk <| λA P env s ρ st K=>h.run A P env s ρ st K
structure zFf (G:Gd) (C:Cx) (op:BoolOp) (es:List Expr) (m:Mn D):Prop where
 run:∀A P env s ρ st pos,Ok G C A P env s ρ st->At G A env s ρ st (RV G) (boolOp pos op (evalEach es env)) m
theorem zDz{op:BoolOp}{e:Expr}{m:Mn D}(h:SE G C e m):zFf G C op [e] m:=.mk <| λA P env s ρ st pos K=>h.run A P env s ρ st K
theorem zDt{e e':Expr}{es:List Expr}{m n:Mn D}(h:SE G C e m) (h2:zFf G C .And (e'::es) n):zFf G C .And (e::e'::es) (Q2 m n):=.mk <| λA P env s ρ st pos K=>by
 refine At.bind K (h.run A P env s ρ st K) λv s' ρ' d σ' K' x r=>?_
 refine At.stand (At.bind K' (At.hold (Fe K' r)) λt s'' ρ'' b σ'' K'' x2 rb=>?_)
 cases(show b=t from rb)
 cases t with
 |false=>exact At.pure K'' (Cn.mono (x2.stb K'.inv .nil) _ _ r)
 |true=>exact h2.run A P env s'' ρ'' _ pos K''
theorem zHJ{e e':Expr}{es:List Expr}{m n:Mn D}(h:SE G C e m) (h2:zFf G C .Or (e'::es) n):zFf G C .Or (e::e'::es) (zIF m n):=.mk <| λA P env s ρ st pos K=>by
 refine At.bind K (h.run A P env s ρ st K) λv s' ρ' d σ' K' x r=>?_
 refine At.stand (At.bind K' (At.hold (Fe K' r)) λt s'' ρ'' b σ'' K'' x2 rb=>?_)
 cases(show b=t from rb)
 cases t with
 |false=>exact h2.run A P env s'' ρ'' _ pos K''
 |true=>exact At.pure K'' (Cn.mono (x2.stb K'.inv .nil) _ _ r)
theorem Y9{op:BoolOp}{es:List Expr}{pos:Pos}{m:Mn D}(h:zFf G C op es m):SE G C (.BoolOp op es pos) m:=.mk <| λA P env s ρ st K=>h.run A P env s ρ st pos K
theorem zH8{e:Expr}{pos:Pos}{m:Mn D}(h:SE G C e m):SE G C (.UnaryOp .Not e pos) (Zk m):=.mk <| λA P env s ρ st K=>by
 refine At.bind K (h.run A P env s ρ st K) λv s' ρ' d σ' K' x r=>?_
 refine At.stand (At.hold (λhb=>?_))
 refine not_of (wpAny_mono (Fe K' r (B6 hb)) (λc s'' q=>?_) λex s'' q=>?_)
 ·refine H3.elim q λρ'' b σ'' e I'' x'' rb=>?_
  cases(show b=c from rb)
  exact⟨ρ'',.bool (!c),σ'',by simp only[bnd,e,ret1],I'',x'',rfl⟩
 ·exact C1.bnd q
theorem Vv{α β:Type}{R:Heap->List Addr->β->α->Prop}{t:Sem α}{m:Mn β}{vs ks:List Value}(h:At G A env s ρ st R t m):At G A env s ρ st R (release vs ks >>= λ_=>t) m:=λhb=>wpAny_bind (wpAny_release' (h hb))
noncomputable def Ed (G:Gd) (op:CmpOp) (f:D->D->Mn D):Prop:=
 ∀C A P env s ρ st d1 d2 v1 v2,Ok G C A P env s ρ st->Cn G s.heap ρ d1 v1->Cn G s.heap ρ d2 v2->At G A env s ρ st (RV G) (compareOp op v1 v2) (f d1 d2)
theorem zHt{l r:Expr}{op:CmpOp}{pos:Pos}{m1 m2:Mn D}{f:D->D->Mn D}(ho:Ed G op f) (h1:SE G C l m1) (h2:SE G C r m2) (hm:behindInMarks op r=false):
  SE G C (.Compare l [op] [r] pos) (bnd m1 λa=>bnd m2 λb=>f a b):=.mk <| λA P env s ρ st K=>by
 show At G A env s ρ st (RV G) (eval l env >>= λa=>holding [a] (markedBehindIn op r (eval r env)) >>= λb=>standAt pos >>= λ_=>operate [a,b] (compareOp op a b)) _
 rw[markedBehindIn_of_false hm];refine At.bind K (h1.run A P env s ρ st K) λv s' ρ' d σ' K' x r1=>?_
 refine At.bind K' (h2.run A P env s' ρ' _ K').hold λv2 s'' ρ'' d2 σ'' K'' x2 r2=>?_
 exact At.stand (At.operate (ho C A P env s'' ρ'' _ d d2 v v2 K'' (Cn.mono (x2.stb K'.inv .nil) _ _ r1) r2))
theorem zGP{l r:Expr}{op:CmpOp}{pos:Pos}{m1 m2:Mn D}{f:D->D->Mn D}(ho:Ed G op f) (h1:SE G C l m1) (h2:SE G C r m2) (hm:behindInMarks op r=false):
  SB G C (.Compare l [op] [r] pos) (bnd m1 λa=>bnd m2 λb=>bnd (f a b) As):=.mk <| λA P env s ρ st K=>by
 show At G A env s ρ st RB (eval l env >>= λa=>holding [a] (markedBehindIn op r (eval r env)) >>= λb=>standAt pos >>= λ_=>operate [a,b] (compareOp op a b) >>= λc=>holding [c] (truthy c)) _
 rw[markedBehindIn_of_false hm];refine At.bind K (h1.run A P env s ρ st K) λv s' ρ' d σ' K' x r1=>?_
 refine At.bind K' (h2.run A P env s' ρ' _ K').hold λv2 s'' ρ'' d2 σ'' K'' x2 r2=>?_
 refine At.stand (At.bind K'' (At.operate (ho C A P env s'' ρ'' _ d d2 v v2 K'' (Cn.mono (x2.stb K'.inv .nil) _ _ r1) r2)) λc s₃ ρ₃ dc σ₃ K₃ x3 rc=>?_)
 exact At.hold (Fe K₃ rc)
theorem zEy{l r q:Expr}{op op':CmpOp}{pos:Pos}{m1 m2 m3:Mn D}{f g:D->D->Mn D}(ho:Ed G op f) (ho':Ed G op' g) (h1:SE G C l m1) (h2:SE G C r m2) (h3:SE G C q m3) (hm:lastMarks [op,op'] [r,q]=false):
  SB G C (.Compare l [op,op'] [r,q] pos) (bnd m1 λa=>bnd m2 λb=>bnd (f a b) λc=>bnd (As c) λt=>if t then(bnd m3 λc=>bnd (g b c) As)else ret1 false):=.mk <| λA P env s ρ st K=>by
 show At G A env s ρ st RB (eval l env >>= λa=>testChain pos a [op,op'] (markedEach [op,op'] [r,q] [eval r env,eval q env])) _
 simp only[markedEach_of_false _ _ _ hm];refine At.bind K (h1.run A P env s ρ st K) λv s' ρ' d σ' K' x r1=>?_
 refine At.bind K' (h2.run A P env s' ρ' _ K').hold λv2 s'' ρ'' d2 σ'' K'' x2 r2=>?_
 refine At.stand (At.bind K'' (At.hold (ho C A P env s'' ρ'' _ d d2 v v2 K'' (Cn.mono (x2.stb K'.inv .nil) _ _ r1) r2)) λc s₃ ρ₃ dc σ₃ K₃ x3 rc=>?_)
 refine Vv (At.bind K₃ (At.hold (Fe K₃ rc)) λt s₄ ρ₄ b σ₄ K₄ x4 rb=>?_)
 cases(show b=t from rb)
 cases t with
 |false=>exact At.pure K₄ rfl
 |true=>
  refine At.bind K₄ (h3.run A P env s₄ ρ₄ _ K₄).hold λv3 s₅ ρ₅ d3 σ₅ K₅ x5 r3=>?_
  refine At.stand (At.bind K₅ (At.operate (ho' C A P env s₅ ρ₅ _ d2 d3 v2 v3 K₅ (Cn.mono (x5.stb K₄.inv .nil) _ _ (Cn.mono (x4.stb K₃.inv .nil) _ _ (Cn.mono (x3.stb K''.inv .nil) _ _ r2))) r3)) λc s₆ ρ₆ dc σ₆ K₆ x6 rc=>?_)
  exact At.hold (Fe K₆ rc)
noncomputable def Xy:D->D->Mn D:=zAL (λa b=>ret1 (.int (a+b))) λx y=>if x.length+y.length<=sizeLine then ret1 (.str (x++y))else botM
noncomputable def Cm:D->D->Mn D:=zAL (λa b=>if b≠0 then ret1 (.int (a.fmod b))else botM) zII
noncomputable def Fs (a:Int):Bool:=decide (-(2 ^ 63)<a)&&decide (a<2 ^ 63)
noncomputable def zAR:D->D->Mn D:=zAL (λa b=>if Fs a||Fs b then ret1 (.int (a*b))else botM) zII
noncomputable def Sh:D->Mn D
 |.int a=>ret1 (.int (-a))
 |_=>botM
theorem Ll{a:Int}(h:Fs a=true):Builtin.Int.intBits a<=64:=by
 simp only[Fs,Bool.and_eq_true,decide_eq_true_eq]at h;exact intBits_le_64 (by omega) (by omega)
theorem zEz:H8 G .Sub Ek:=λC A P env s ρ st d1 d2 v1 v2 K r1 r2=>by
 refine At.leaf (λhb=>?_) K
 rcases H1 hb with⟨a,b,rfl,rfl⟩|⟨x,y,rfl,rfl⟩
 ·obtain⟨t,rfl⟩:=r1;obtain⟨u,rfl⟩:=r2;exact PySem.P.sub_int ⟨_,rfl,B8.same,_,rfl⟩
 ·exact absurd rfl hb
theorem zDa:H8 G .FloorDiv Ec:=λC A P env s ρ st d1 d2 v1 v2 K r1 r2=>by
 refine At.leaf (λhb=>?_) K
 rcases H1 hb with⟨a,b,rfl,rfl⟩|⟨x,y,rfl,rfl⟩
 ·obtain⟨t,rfl⟩:=r1;obtain⟨u,rfl⟩:=r2;by_cases h:b≠0/\b.natAbs<1073741824
  ·exact floordiv_int h.1 ⟨_,C6 h,B8.same,_,rfl⟩ (.inl (PyProof.noPylong_small h.2))
  ·exact absurd (K8 h) hb
 ·exact absurd rfl hb
theorem zEa:H8 G .Mod Cm:=λC A P env s ρ st d1 d2 v1 v2 K r1 r2=>by
 refine At.leaf (λhb=>?_) K
 rcases H1 hb with⟨a,b,rfl,rfl⟩|⟨x,y,rfl,rfl⟩
 ·obtain⟨t,rfl⟩:=r1;obtain⟨u,rfl⟩:=r2;by_cases h:b≠0
  ·exact mod_int' h ⟨_,C6 h,B8.same,_,rfl⟩
  ·exact absurd (K8 h) hb
 ·exact absurd rfl hb
theorem zBq:H8 G .Mult zAR:=λC A P env s ρ st d1 d2 v1 v2 K r1 r2=>by
 refine At.leaf (λhb=>?_) K
 rcases H1 hb with⟨a,b,rfl,rfl⟩|⟨x,y,rfl,rfl⟩
 ·obtain⟨t,rfl⟩:=r1;obtain⟨u,rfl⟩:=r2;by_cases h:(Fs a||Fs b)=true
  ·refine PySem.P.mul_int ⟨_,C6 h,B8.same,_,rfl⟩ ?_
   rcases Bool.or_eq_true_iff.mp h with h|h
   ·exact IntMulOk.of_left (Ll h)
   ·exact IntMulOk.of_right (Ll h)
  ·exact absurd (K8 h) hb
 ·exact absurd rfl hb
theorem Mv{x y:Str}(h:(x.length==0)=true):x++y=y:=by
 have:x=Str.empty:=by
  obtain⟨c⟩:=x;have:c.size=0:=by simpa [Str.length]using h
  simp[Str.empty,Array.eq_empty_of_size_eq_zero this]
 rw[this];exact Str.empty_append y
theorem Ml{x y:Str}(h:(y.length==0)=true):x++y=x:=by
 obtain⟨c⟩:=y;have hc:c.size=0:=by simpa [Str.length]using h
 obtain⟨b⟩:=x;show Str.mk (b++c)=_
 rw[Array.eq_empty_of_size_eq_zero hc];simp
theorem Zz{x y:Str}{t u:Tok}(K:Ok G C A P env s ρ st):At G A env s ρ st (RV G) (binaryOp .Add (.str x t) (.str y u)) (if x.length+y.length<=sizeLine then ret1 (.str (x++y))else botM):=by
 refine At.leaf (λhb=>?_) K
 have hz:x.length+y.length<=sizeLine:=by
  by_cases h:x.length+y.length<=sizeLine
  ·exact h
  ·exact absurd (K8 h) hb
 simp only[hz,if_true];refine PySem.P.add_str ?_
 split
 ·rename_i h;rw[Mv h];exact⟨_,rfl,B8.same0,_,rfl⟩
 ·split
  ·rename_i h;rw[Ml h];exact⟨_,rfl,B8.same0,_,rfl⟩
  ·exact⟨by rw[Str.length_append];exact hz,_,rfl,B8.same,_,rfl⟩
theorem zBl:H8 G .Add Xy:=λC A P env s ρ st d1 d2 v1 v2 K r1 r2 hb=>by
 rcases H1 hb with⟨a,b,rfl,rfl⟩|⟨x,y,rfl,rfl⟩
 ·obtain⟨t,rfl⟩:=r1;obtain⟨u,rfl⟩:=r2;exact At.leaf (m:=Xy (.int a) (.int b)) (λhb=>PySem.P.add_int ⟨_,rfl,B8.same,_,rfl⟩) K hb
 ·obtain⟨t,rfl⟩:=r1;obtain⟨u,rfl⟩:=r2;exact Zz K hb
theorem zGt{e:Expr}{pos:Pos}{m:Mn D}(h:SE G C e m):SE G C (.UnaryOp .USub e pos) (bnd m Sh):=.mk <| λA P env s ρ st K=>by
 refine At.bind K (h.run A P env s ρ st K) λv s' ρ' d σ' K' x r=>?_
 refine At.stand (At.hold (At.leaf (λhb=>?_) K'))
 cases d<;>first|exact absurd rfl hb|skip
 obtain⟨t,rfl⟩:=r;exact PySem.P.neg_int ⟨_,rfl,B8.same,_,rfl⟩
noncomputable def It:D->D->Mn D:=zAL (λa b=>ret1 (.bool (decide (a<b)))) λx y=>ret1 (.bool (decide (x.cps.toList<y.cps.toList)))
noncomputable def Uq:D->D->Mn D:=zAL (λa b=>ret1 (.bool (decide (a>b)))) λx y=>ret1 (.bool (decide (y.cps.toList<x.cps.toList)))
noncomputable def Mp:D->D->Mn D:=zAL (λa b=>ret1 (.bool (decide (a<=b)))) zII
noncomputable def zGG:D->D->Mn D:=zAL (λa b=>ret1 (.bool (decide (a≥b)))) zII
noncomputable def zHf:D->D->Mn D:=zAL (λa b=>ret1 (.bool (a==b))) λx y=>ret1 (.bool (x.cps.toList==y.cps.toList))
noncomputable def zGx:D->D->Mn D:=zAL (λa b=>ret1 (.bool (a !=b))) λx y=>ret1 (.bool (x.cps.toList !=y.cps.toList))
theorem zHo{x y:Str}{t u:Tok}{Q:Value->Shared->Prop}{E:Value->Shared->Prop}(h:Q (.bool (decide (y.cps.toList<x.cps.toList))) s):wpAny G.M A (compareOp .Gt (.str x t) (.str y u)) Q E s:=
 compareOp_gives (op:=.Gt) (typeIs_str s x t) (typeIs_str s y u) F.slot_str_gt F.entry_str_gt (F.args_str_gt_2 _ _) (gives_str_gt x y t u) (λe=>nomatch e) h
theorem zHw:Ed G .Lt It:=λC A P env s ρ st d1 d2 v1 v2 K r1 r2=>by
 refine At.leaf (λhb=>?_) K
 rcases H1 hb with⟨a,b,rfl,rfl⟩|⟨x,y,rfl,rfl⟩<;>obtain⟨t,rfl⟩:=r1<;>obtain⟨u,rfl⟩:=r2
 ·exact PySem.P.lt_int ⟨_,rfl,B8.same0,rfl⟩
 ·exact PySem.P.lt_str ⟨_,rfl,B8.same0,rfl⟩
theorem zHe:Ed G .Gt Uq:=λC A P env s ρ st d1 d2 v1 v2 K r1 r2=>by
 refine At.leaf (λhb=>?_) K
 rcases H1 hb with⟨a,b,rfl,rfl⟩|⟨x,y,rfl,rfl⟩<;>obtain⟨t,rfl⟩:=r1<;>obtain⟨u,rfl⟩:=r2
 ·exact PySem.P.gt_int ⟨_,rfl,B8.same0,rfl⟩
 ·exact zHo ⟨_,rfl,B8.same0,rfl⟩
theorem zGh:Ed G .LtE Mp:=λC A P env s ρ st d1 d2 v1 v2 K r1 r2=>by
 refine At.leaf (λhb=>?_) K
 rcases H1 hb with⟨a,b,rfl,rfl⟩|⟨x,y,rfl,rfl⟩<;>obtain⟨t,rfl⟩:=r1<;>obtain⟨u,rfl⟩:=r2
 ·exact PySem.P.le_int ⟨_,rfl,B8.same0,rfl⟩
 ·exact absurd rfl hb
theorem zHK:Ed G .GtE zGG:=λC A P env s ρ st d1 d2 v1 v2 K r1 r2=>by
 refine At.leaf (λhb=>?_) K
 rcases H1 hb with⟨a,b,rfl,rfl⟩|⟨x,y,rfl,rfl⟩<;>obtain⟨t,rfl⟩:=r1<;>obtain⟨u,rfl⟩:=r2
 ·exact PySem.P.ge_int ⟨_,rfl,B8.same0,rfl⟩
 ·exact absurd rfl hb
theorem zDB:Ed G .Eq zHf:=λC A P env s ρ st d1 d2 v1 v2 K r1 r2=>by
 refine At.leaf (λhb=>?_) K
 rcases H1 hb with⟨a,b,rfl,rfl⟩|⟨x,y,rfl,rfl⟩<;>obtain⟨t,rfl⟩:=r1<;>obtain⟨u,rfl⟩:=r2
 ·exact PySem.P.eq_int ⟨_,rfl,B8.same0,rfl⟩
 ·exact PySem.P.eq_str ⟨_,rfl,B8.same0,rfl⟩
theorem zD6:Ed G .NotEq zGx:=λC A P env s ρ st d1 d2 v1 v2 K r1 r2=>by
 refine At.leaf (λhb=>?_) K
 rcases H1 hb with⟨a,b,rfl,rfl⟩|⟨x,y,rfl,rfl⟩<;>obtain⟨t,rfl⟩:=r1<;>obtain⟨u,rfl⟩:=r2
 ·exact PySem.P.ne_int ⟨_,rfl,B8.same0,rfl⟩
 ·exact PySem.P.ne_str ⟨_,rfl,B8.same0,rfl⟩
end
section
variable {G:Gd}{C:Cx}{A:Around}{P:List Addr}{env:Env}{s:Shared}{ρ:List Addr}{st:St}
noncomputable def F8 (i:Int):Bool:=decide (-(2 ^ 63)<=i)&&decide (i<2 ^ 63)
theorem Fq{i:Int}:F8 i=true↔ -(2 ^ 63)<=i/\i<2 ^ 63:=by simp[F8]
noncomputable def U9 {α:Type}:Option α->Mn α
 |some a=>ret1 a
 |none=>botM
noncomputable def Co:D->D->Mn D
 |.str x,.int i=>if F8 i then U9 (((seqIndex? i x.length).bind (x.cps[·]?)).map λc=>.str ⟨#[c]⟩)else botM
 |.tup ds,.int i=>if F8 i then U9 ((seqIndex? i ds.length).bind (ds[·]?))else botM
 |.ref k,.int i=>λst=>match st.sto[k]? with
  |some (.list ds)=>if F8 i then U9 ((seqIndex? i ds.length).bind (ds[·]?)) st else .bot
  |_=>.bot
 |.scr ns,.int i=>if 0<=i/\i<2 ^ 63 then U9 (ns[i.toNat]?.map D.int)else botM
 |_,_=>botM
theorem B7.size{h:Heap}{ds:List D}{vs:Array Value}(r:B7 G h ρ ds vs.toList):vs.size=ds.length:=by have:=r.all2.length;simpa using this
theorem Kz.size{vs:Array Value}{ns:List Int}(r:Kz vs.toList ns):vs.size=ns.length:=by have:=C2.length r;simpa using this
theorem Me{α:Type}{c:Bool}{f:Mn α}(h:(if c then f else botM) st≠.bot):c=true:=by
 cases c with
 |true=>rfl
 |false=>exact absurd rfl h
theorem Ew{α:Type}{c:Prop} [Decidable c] {f:Mn α}(h:(if c then f else botM) st≠.bot):c:=by
 by_cases z:c
 ·exact z
 ·exact absurd (K8 z) h
theorem J6{α:Type}{o:Option α}(h:U9 o st≠.bot):∃a,o=some a:=by
 cases o with
 |none=>exact absurd rfl h
 |some a=>exact⟨a,rfl⟩
theorem Rm{l:Addr}{items:Array Value}{k:Int}{t:Tok}{j:Nat}{x:Value}{Q:Value->Shared->Prop}{E:Value->Shared->Prop}(hl:s.heap.IsList l items) (hi:F8 k=true) (hj:seqIndex? k items.size=some j) (hx:items[j]? =some x) (h:Q x s):
  wpAny G.M A (getItem (.ref l) (.int k t)) Q E s:=by
 have hi':=Fq.mp hi;by_cases h0:0<=k
 ·have:j=k.toNat:=by
   unfold seqIndex? at hj
   simp only[show¬k<0 by exactλZ=>A4 [_] [A7 x0 (.n 0),A5 (.n 0) x0] rT Z h0,if_false]at hj
   split at hj
   ·cases hj;rfl
   ·cases hj
  subst this;exact wpAny_getItem_list hl h0 hi'.2 hx h
 ·have h1: -(items.size:Int)<=k:=by
   unfold seqIndex? at hj
   simp only[show k<0 by exact C4 λZ=>A4 [_] [A5 (.n 0) x0,A7 x0 (.n 0)] rT Z (Int.not_le.mp h0),if_true]at hj
   split at hj
   ·rename_i z;simp only[Bool.and_eq_true,decide_eq_true_eq]at z;omega
   ·cases hj
  simp only[seqIndex_neg (by exact C4 λZ=>A4 [_] [A5 (.n 0) x0,A7 x0 (.n 0)] rT Z (Int.not_le.mp h0)) h1]at hj
  cases hj;exact wpAny_getItem_list_neg hl (by exact C4 λZ=>A4 [_] [A5 (.n 0) x0,A7 x0 (.n 0)] rT Z (Int.not_le.mp h0)) h1 hi'.1 hx h
theorem zGv{d1 d2:D}{o i:Value}{value slice:Expr}(K:Ok G C A P env s ρ st) (r1:Cn G s.heap ρ d1 o) (r2:Cn G s.heap ρ d2 i) (hs:∀o i,subscripted slice false o i=operate [o,i] (getItem o i)):
  At G A env s ρ st (RV G) (subscriptTail value slice o i) (Co d1 d2):=by
 refine At.leaf (λhb=>?_) K
 cases d1<;>cases d2<;>first|exact absurd rfl hb|skip
 ·
  obtain⟨t,rfl⟩:=r1;obtain⟨u,rfl⟩:=r2;unfold Co at hb ⊢; dsimp only at hb ⊢;have h1:=Me hb;rw[C6 h1]at hb ⊢;obtain⟨y,hy⟩:=J6 hb;rw[hy];obtain⟨c,hc,rfl⟩:=Option.map_eq_some_iff.mp hy;have h1':=Fq.mp h1;exact tail_any (typeIs_str s _ t) F.slot_str_getitem.lookup (PySem.P.getItem_str (by simp;exact⟨Am λZ=>A4 [_] [A7 x0 (.s (.n 0) (.n 9223372036854775808)),A5 (.s (.n 0) (.n 9223372036854775808)) x0] rT Z h1'.1,C4 λZ=>A4 [_] [A5 (.n 9223372036854775808) x0,A7 x0 (.n 9223372036854775808)] rT Z h1'.2⟩) hc ⟨_,rfl,B8.same,_,rfl⟩) (hs _ _)
 ·
  obtain⟨a,vs,rfl,hna,⟨n,ho⟩,r⟩:=r1;obtain⟨u,rfl⟩:=r2;unfold Co at hb ⊢; dsimp only at hb ⊢;have h1:=Me hb;rw[C6 h1]at hb ⊢;obtain⟨y,hy⟩:=J6 hb;rw[hy];obtain⟨j,hj,hd⟩:=Option.bind_eq_some_iff.mp hy;have h1':=Fq.mp h1;have hlen:=r.size;obtain⟨v,hv,rv⟩:=r.all2.get j y hd;have ht:IsTup s.heap a vs:=⟨_,ho,rfl,n,rfl⟩
  exact tail_any ht.typeIs slot_tuple_getitem.lookup (getItem_tuple ht h1'.1 h1'.2 (hlen▸hj) (by simpa using hv) ⟨_,rfl,B8.same0,rv⟩) (hs _ _)
 ·
  rename_i k i';obtain⟨a,rfl,e1⟩:=r1;obtain⟨u,rfl⟩:=r2
  cases e:st.sto[k]? with
  |none=>exact absurd (by unfold Co;simp only[e]) hb
  |some o=>
   cases o with
   |list ds=>
    unfold Co at hb ⊢; simp only[e]at hb ⊢;have h1:F8 i'=true:=by
     cases z:F8 i' with
     |true=>rfl
     |false=>exact absurd (by simp[z]) hb
    rw[if_pos h1]at hb ⊢;obtain⟨y,hy⟩:=J6 hb;rw[hy];apply yo;intro _ k0
    obtain⟨vs,hl,r⟩:=K.inv.sto k a _ e1 e;obtain⟨j,hj,hd⟩:=Option.bind_eq_some_iff.mp hy;apply k0
    have hlen:=r.size;obtain⟨v,hv,rv⟩:=r.all2.get j y hd;exact tail_any hl.list.typeIs slot_list_getitem.lookup (Rm hl.list h1 (hlen▸hj) (by simpa using hv) ⟨_,rfl,B8.same0,rv⟩) (hs _ _)
   |_=>exact absurd (by unfold Co;simp only[e]) hb
 ·
  obtain⟨a,vs,rfl,hl,hi⟩:=r1;obtain⟨u,rfl⟩:=r2;unfold Co at hb ⊢; dsimp only at hb ⊢;have h1:=Ew hb;rw[C6 h1]at hb ⊢;obtain⟨y,hy⟩:=J6 hb;rw[hy];apply yo;intro _ k0
  obtain⟨c,hc,rfl⟩:=Option.map_eq_some_iff.mp hy;obtain⟨v,hv,t,rfl⟩:=hi.get _ _ hc;apply k0
  have hl':=B8.list K.inv.base hl;exact tail_any hl'.typeIs slot_list_getitem.lookup (wpAny_getItem_list hl' h1.1 h1.2 (by simpa using hv) ⟨_,rfl,B8.same0,_,rfl⟩) (hs _ _)
theorem zG4{v sl:Expr}{pos:Pos}{m1 m2:Mn D}(h1:SE G C v m1) (h2:SE G C sl m2) (hs:∀o i,subscripted sl false o i=operate [o,i] (getItem o i)):
  SE G C (.Subscript v sl pos) (bnd m1 λa=>bnd m2 λb=>Co a b):=.mk <| λA P env s ρ st K=>by
 refine At.ofEq (t':=do let o ←eval v env;let i ←holding [o] (eval sl env);standAt pos;subscriptTail v sl o i) (by rw[eval_Subscript];rfl) ?_
 refine At.bind K (h1.run A P env s ρ st K) λv s' ρ' d σ' K' x r1=>?_
 refine At.bind K' (h2.run A P env s' ρ' _ K').hold λv2 s'' ρ'' d2 σ'' K'' x2 r2=>?_
 exact At.stand (zGv K'' (Cn.mono (x2.stb K'.inv .nil) _ _ r1) r2 hs)
noncomputable def Ea:List D->Mn D
 |[.str x]=>if x.length<2 ^ 62 then ret1 (.int x.length)else botM
 |[.tup ds]=>if ds.length<2 ^ 62 then ret1 (.int ds.length)else botM
 |[.scr ns]=>if ns.length<2 ^ 62 then ret1 (.int ns.length)else botM
 |[.ref k]=>λst=>match st.sto[k]? with
  |some (.list ds)=>if ds.length<2 ^ 62 then .ok (.int ds.length) st else .bot
  |_=>.bot
 |_=>botM
theorem zHl:BF G "len" Ea:=λC A P env s ρ st ds vs hC K r=>by
 refine At.leaf (λhb=>?_) K
 match ds,r with
 |[],_=>exact absurd rfl hb
 |[d],r=>
  obtain⟨v,_,rfl,r,rfl⟩:=r
  cases d<;>first|exact absurd rfl hb|skip
  ·obtain⟨t,rfl⟩:=r;unfold Ea at hb ⊢; dsimp only at hb ⊢;have h1:=Ew hb;rw[C6 h1];exact PySem.P.len_str (by exactλZ=>A4 [_] [A5 (.n 9223372036854775808) x0,A7 x0 (.n 4611686018427387904)] rT Z (Yo h1)) ⟨_,rfl,B8.same,_,rfl⟩
  ·obtain⟨a,vs,rfl,hna,⟨n,ho⟩,rr⟩:=r;unfold Ea at hb ⊢; dsimp only at hb ⊢;have h1:=Ew hb;rw[C6 h1];have hlen:=B7.size rr;exact len_tuple ⟨_,ho,rfl,n,rfl⟩ (by exact C4 λZ=>A4 [_,_] [A5 (.n 9223372036854775808) x0,A7 x1 (.n 4611686018427387904),B9 x0 x1] rT Z (Yo h1) (zCc hlen)) ⟨_,rfl,B8.same,_,by rw[hlen]⟩
  ·rename_i k;obtain⟨a,rfl,e1⟩:=r
   cases e:st.sto[k]? with
   |none=>exact absurd (by unfold Ea;simp only[e]) hb
   |some o=>
    cases o with
    |list ds=>
     unfold Ea at hb ⊢; simp only[e]at hb ⊢;have h1:ds.length<2 ^ 62:=by
      by_cases z:ds.length<2 ^ 62
      ·exact z
      ·exact absurd (if_neg z) hb
     rw[if_pos h1];apply yo;intro _ k0
     obtain⟨vs,hl,r⟩:=K.inv.sto k a _ e1 e;apply k0
     have hlen:=r.size;exact Calls.call_len_list hl.list (by exact C4 λZ=>A4 [_,_] [A5 (.n 9223372036854775808) x0,A7 x1 (.n 4611686018427387904),B9 x0 x1] rT Z (Yo h1) (zCc hlen)) ⟨_,rfl,B8.same,_,by rw[hlen]⟩
    |_=>exact absurd (by unfold Ea;simp only[e]) hb
  ·obtain⟨a,vs,rfl,hl,hi⟩:=r;unfold Ea at hb ⊢; dsimp only at hb ⊢;have h1:=Ew hb;rw[C6 h1];have hl':=B8.list K.inv.base hl;have hlen:=Kz.size hi;exact Calls.call_len_list hl' (by exact C4 λZ=>A4 [_,_] [A5 (.n 9223372036854775808) x0,A7 x1 (.n 4611686018427387904),B9 x0 x1] rT Z (Yo h1) (zCc hlen)) ⟨_,rfl,B8.same,_,by rw[hlen]⟩
 |a::b::l,_=>exact absurd (by cases a<;>rfl) hb
end
noncomputable def zFY:D->Bm->Option String
 |.none,_=>some "NoneType"
 |.bool _,_=>some "bool"
 |.int _,_=>some "int"
 |.str _,_=>some "str"
 |.tup _,_=>some "tuple"
 |.scr _,_=>some "list"
 |.ref k,σ=>match σ[k]? with
  |some (.list _)=>some "list"
  |some (.dict _)=>some "dict"
  |_=>none
 |.exc _,_=>none
noncomputable def Kh (T' T:String):Bool:=T'==T||(T'=="bool"&&T=="int")
noncomputable def Gb (T:String) (d:D):Mn D:=λst=>match zFY d st.sto with
 |some T'=>.ok (.bool (Kh T' T)) st
 |none=>.bot
structure Yg (T:String):Prop where
 hty:typeOf (.type T)=pure (.type "type")
 sub:∀T',T'∈["NoneType","bool","int","str","tuple","list","dict"]→isSubtype (.type T') (.type T)=pure (Kh T' T)
theorem Ph{T:String}(hty:typeOf (.type T)=pure (.type "type")) (h1:isSubtype (.type "NoneType") (.type T)=pure (Kh "NoneType" T)) (h2:isSubtype (.type "bool") (.type T)=pure (Kh "bool" T)) (h3:isSubtype (.type "int") (.type T)=pure (Kh "int" T))
  (h4:isSubtype (.type "str") (.type T)=pure (Kh "str" T)) (h5:isSubtype (.type "tuple") (.type T)=pure (Kh "tuple" T)) (h6:isSubtype (.type "list") (.type T)=pure (Kh "list" T)) (h7:isSubtype (.type "dict") (.type T)=pure (Kh "dict" T)):Yg T:=
 ⟨hty,λT' m=>by
  simp only[List.mem_cons,List.not_mem_nil,or_false]at m;rcases m with rfl|rfl|rfl|rfl|rfl|rfl|rfl<;>assumption⟩
theorem zEH:Yg "int":=Ph (by kernel_rfl) (by rw[isSubtype_type];kernel_rfl) (by rw[isSubtype_type];kernel_rfl) (by rw[isSubtype_type];kernel_rfl) (by rw[isSubtype_type];kernel_rfl) (by rw[isSubtype_type];kernel_rfl) (by rw[isSubtype_type];kernel_rfl) (by rw[isSubtype_type];kernel_rfl)
theorem zAQ:Yg "bool":=Ph (by kernel_rfl) (by rw[isSubtype_type];kernel_rfl) (by rw[isSubtype_type];kernel_rfl) (by rw[isSubtype_type];kernel_rfl) (by rw[isSubtype_type];kernel_rfl) (by rw[isSubtype_type];kernel_rfl) (by rw[isSubtype_type];kernel_rfl) (by rw[isSubtype_type];kernel_rfl)
theorem zFA:Yg "str":=Ph (by kernel_rfl) (by rw[isSubtype_type];kernel_rfl) (by rw[isSubtype_type];kernel_rfl) (by rw[isSubtype_type];kernel_rfl) (by rw[isSubtype_type];kernel_rfl) (by rw[isSubtype_type];kernel_rfl) (by rw[isSubtype_type];kernel_rfl) (by rw[isSubtype_type];kernel_rfl)
theorem zCC:Yg "list":=Ph (by kernel_rfl) (by rw[isSubtype_type];kernel_rfl) (by rw[isSubtype_type];kernel_rfl) (by rw[isSubtype_type];kernel_rfl) (by rw[isSubtype_type];kernel_rfl) (by rw[isSubtype_type];kernel_rfl) (by rw[isSubtype_type];kernel_rfl) (by rw[isSubtype_type];kernel_rfl)
theorem Zt:Yg "tuple":=Ph (by kernel_rfl) (by rw[isSubtype_type];kernel_rfl) (by rw[isSubtype_type];kernel_rfl) (by rw[isSubtype_type];kernel_rfl) (by rw[isSubtype_type];kernel_rfl) (by rw[isSubtype_type];kernel_rfl) (by rw[isSubtype_type];kernel_rfl) (by rw[isSubtype_type];kernel_rfl)
section
variable {G:Gd}{C:Cx}{A:Around}{P:List Addr}{env:Env}{s:Shared}{ρ:List Addr}{st:St}
theorem zFG{x:Value}{Tx T:String}{Q:Value→Shared→Prop}{E:Value→Shared→Prop}(F:Yg T) (hx:s.TypeIs x Tx) (hm:Tx∈["NoneType","bool","int","str","tuple","list","dict"]) (hb:Kh Tx T=true) (h:Q (.bool true) s):
  wpAny G.M A (call (.builtin "isinstance") [x,.type T]) Q E s:=
 call_isinstance (isinstance_true (Tx:=Tx) F.hty (by rw[F.sub Tx hm,hb])) ⟨hx,h⟩
theorem zE4{T' T:String}(h:Kh T' T=false):(Value.type T'==Value.type T)=false:=by
 cases e:(Value.type T'==Value.type T)with
 |false=>rfl
 |true=>
  have:=eq_of_beq e
  cases this;simp[Kh]at h
noncomputable def zLO:List String:=["NoneType","bool","int","str","tuple","list","dict"]
noncomputable def zGr (G:Gd) (A:Around) (s:Shared) (v:Value) (T':String):Prop:=∀T,Yg T→∀(Q:Value→Shared→Prop) (E:Value→Shared→Prop),(∀t,Q (.bool (Kh T' T)) {s with toks:=t})→wpAny G.M A (call (.builtin "isinstance") [v,.type T]) Q E s
theorem Oh{v:Value}{T':String}(hx:s.TypeIs v T') (hm:T'∈zLO) (hf:∀T,Yg T→(Value.type T'==Value.type T)=false→isSubtype (.type T') (.type T)=pure false→∀(Q:Value→Shared→Prop) (E:Value→Shared→Prop),(∀t,Q (.bool false) {s with toks:=t})→wpAny G.M A (call (.builtin "isinstance") [v,.type T]) Q E s):zGr G A s v T':=λT F Q E h=>by
 cases hs:Kh T' T with
 |true=>rw[hs]at h;exact zFG F hx hm hs (h s.toks)
 |false=>rw[hs]at h;exact hf T F (zE4 hs) (by rw[F.sub _ hm,hs]) Q E h
theorem O6{a:Addr}{o:Obj}{T':String}(ho:s.heap.get? a=some o) (hc:o.cls=.type T') (hT:T'="tuple"∨T'="list"∨T'="dict"):zGr G A s (.ref a) T':=by
 refine Oh ⟨o,ho,hc⟩ (by rcases hT with rfl|rfl|rfl<;>decide) ?_
 rcases hT with rfl|rfl|rfl
 ·exactλT F h1 h2 Q E h=>call_isinstance (isinstance_false_tuple h1 F.hty h2) ⟨⟨o,ho,hc⟩,h _⟩
 ·exactλT F h1 h2 Q E h=>call_isinstance (isinstance_false_list h1 F.hty h2) ⟨⟨o,ho,hc⟩,h _⟩
 ·exactλT F h1 h2 Q E h=>call_isinstance (isinstance_false_dict h1 F.hty h2) ⟨⟨o,ho,hc⟩,h _⟩
theorem Xi{k:Nat}{ds:List D}{σ:Bm}(h:σ[k]? =some (.list ds)):zFY (.ref k) σ=some "list":=by
 unfold zFY;dsimp only;rw[h]
theorem zBS{d:D}{v:Value}{T':String}(I:Cy G s ρ st.sto) (r:Cn G s.heap ρ d v) (hd:zFY d st.sto=some T'):zGr G A s v T':=by
 cases d with
 |none=>cases hd;cases(show v=.none from r);exact Oh rfl (by decide) λT F h1 h2 Q E h=>call_isinstance (isinstance_false_none h1 F.hty h2) (h _)
 |bool b=>cases hd;cases(show v=.bool b from r);exact Oh rfl (by decide) λT F h1 h2 Q E h=>call_isinstance (isinstance_false_bool h1 F.hty h2) (h _)
 |int i=>cases hd;obtain⟨t,rfl⟩:=r;exact Oh (typeIs_int s i t) (by decide) λT F h1 h2 Q E h=>call_isinstance (isinstance_false_int h1 F.hty h2) (h _)
 |str x=>cases hd;obtain⟨t,rfl⟩:=r;exact Oh (typeIs_str s x t) (by decide) λT F h1 h2 Q E h=>call_isinstance (isinstance_false_str h1 F.hty h2) (h _)
 |tup ds=>cases hd;obtain⟨a,vs,rfl,hna,⟨n,ho⟩,r⟩:=r;exact O6 ho rfl (.inl rfl)
 |scr ns=>
  cases hd;obtain⟨a,vs,rfl,hl,hi⟩:=r;obtain⟨o,ho,hc,_⟩:=B8.list I.base hl;exact O6 ho hc (.inr (.inl rfl))
 |ref k=>
  obtain⟨a,rfl,e1⟩:=r;unfold zFY at hd
  cases e:st.sto[k]? with
  |none=>simp only[e]at hd;cases hd
  |some o=>
   simp only[e]at hd
   cases o with
   |list ds=>
    cases hd;obtain⟨vs,⟨n,ho⟩,r⟩:=I.sto k a _ e1 e;exact O6 ho rfl (.inr (.inl rfl))
   |dict kvs=>
    cases hd;obtain⟨xs,⟨o,es,ep,ho,hx,_⟩,_⟩:=I.sto k a _ e1 e;exact O6 ho hx.1 (.inr (.inr rfl))
   |_=>cases hd
 |exc c=>cases hd
theorem zGg{T:String}{d:D}{v:Value}(F:Yg T) (K:Ok G C A P env s ρ st) (r:Cn G s.heap ρ d v):At G A env s ρ st (RV G) (call (.builtin "isinstance") [v,.type T]) (Gb T d):=At.leaf (λhb=>by
 cases hd:zFY d st.sto with
 |none=>exact absurd (by unfold Gb;simp only[hd]) hb
 |some T'=>exact zBS K.inv r hd T F _ _ λt=>⟨.bool (Kh T' T),by unfold Gb;simp only[hd],B8.same,rfl⟩) K
theorem zH6{T:String}{Tn:Str}{e:Expr}{m:Mn D}{np tp pos:Pos}(F:Yg T) (hg:Dj G "isinstance" (.builtin "isinstance")) (hn:C.names.lookup ("isinstance":Str)=some .globalImplicit)
  (hgT:Dj G Tn (.type T)) (hnT:C.names.lookup Tn=some .globalImplicit) (hdT:(Tn==("__debug__":Str))=false) (he:SE G C e m) (hst:∀env,starEach [e,.Name Tn tp] env=[(false,eval e env),(false,eval (.Name Tn tp) env)]):
  SE G C (.Call (.Name "isinstance" np) [e,.Name Tn tp] [] pos) (bnd m (Gb T)):=.mk <| λA P env s ρ st K hb=>by
 refine wpAny_bind (F0 K hg hn (by decide) ?_)
 rw[hst];refine Calls.callWith_builtin rfl (Calls.evalArgs_plain (Calls.spliced_cons (wpAny_mono (he.run A P env s ρ st K (B6 hb)) (λv s' q=>?_) λx s' q=>?_)))
 ·refine H3.elim q λρ' d σ' e' I' x' r=>?_
  have K':=K.step I' x';refine Calls.spliced_cons (F0 K' hgT hnT hdT ?_)
  refine Calls.spliced_nil ?_
  have e2:bnd m (Gb T) st=Gb T d ⟨st.loc,σ'⟩:=by simp only[bnd,e']
  rw[e2]at hb ⊢;refine wpAny_mono (zGg F K' r hb) (λw s'' q=>?_) λw s'' q=>?_
  ·exact H3.tr q x'
  ·exact C1.tr q x'
 ·exact C1.bnd q
noncomputable def Vm:List D->Option (List Int)
 |[]=>some []
 |.int i::r=>(Vm r).map (i:: ·)
 |_=>none
theorem Lp{h:Heap}:∀{ds:List D}{vs:List Value}{ns:List Int},B7 G h ρ ds vs->Vm ds=some ns->∃xs:List (Int×Tok),vs=xs.map (λp=>Value.int p.1 p.2)/\xs.map (·.1)=ns
 |[],vs,ns,r,e=>by
  subst r
  cases(show some []=some ns from e)
  exact⟨[],rfl,rfl⟩
 |d::ds,vs,ns,r,e=>by
  obtain⟨v,vr,rfl,r1,r2⟩:=r
  cases d with
  |int i=>
   obtain⟨ns',e',rfl⟩:=Option.map_eq_some_iff.mp e;obtain⟨xs,rfl,rfl⟩:=Lp r2 e';obtain⟨t,rfl⟩:=r1;exact⟨(i,t)::xs,rfl,rfl⟩
  |_=>cases(show none=some ns from e)
end
section
open Builtin.Str
section
variable {G:Gd}{C:Cx}{A:Around}{P:List Addr}{env:Env}{s:Shared}{ρ:List Addr}{st:St}
noncomputable def D2 (ds:List D):Mn D:=λst=>.ok (.ref st.sto.length) ⟨st.loc,st.sto++[.list ds]⟩
theorem Et(I:Cy G s ρ st.sto){vs:Array Value}{n:Nat}{ds:List D}(r:B7 G s.heap ρ ds vs.toList) (tk:Nat):
  H3 G s ρ st (RV G) (D2 ds st) (.ref s.heap.objs.size) {s with heap:=s.heap.push (G2 vs n),toks:=tk}:=by
 obtain⟨I',x'⟩:=I.alloc (o:=G2 vs n) (p:=.list ds) ⟨(by show Value.type "list"≠Value.type "tuple";decide),λc=>(by intro z;cases z)⟩ rfl (λS=>⟨vs,⟨n,Heap.get?_push_size _ rfl⟩,B7.mono S _ _ r⟩) tk
 refine⟨_,.ref st.sto.length,_,rfl,I',x' [],?_⟩
 show Cn _ _ _ _ _
 exact⟨_,rfl,by rw[←I.len];simp⟩
theorem W0{vs:List Value}{ds:List D}(K:Ok G C A P env s ρ st) (r:B7 G s.heap ρ ds vs):At G A env s ρ st (RV G) (newList vs) (if ds.length<=sizeLine then D2 ds else botM):=λhb=>by
 have hz:=Ew hb;rw[C6 hz];exact wpAny_newList (Et (vs:=vs.toArray) (n:=0) K.inv r s.toks) (by rw[r.all2.length];exact hz)
theorem U2{vs:List Value}{ds:List D}(K:Ok G C A P env s ρ st) (r:B7 G s.heap ρ ds vs):At G A env s ρ st (RV G) (newTuple vs) (if ds.length<=sizeLine then ret1 (.tup ds)else botM):=λhb=>by
 have hz:=Ew hb;rw[C6 hz];refine wpAny_newTuple ?_ (by rw[r.all2.length];exact hz)
 have g:=B8.push s.heap (W2 vs.toArray 0);refine⟨ρ,.tup ds,st.sto,rfl,K.inv.grow g B5 s.toks,g.ev B5,?_⟩
 show Cn _ _ _ _ _
 exact⟨_,vs.toArray,rfl,K.inv.size_notin,⟨0,Heap.get?_push_size _ rfl⟩,B7.mono g.stb _ _ r⟩
noncomputable def Cd (ms:Mn (List D)):Mn D:=bnd ms λds=>if ds.length<=sizeLine then D2 ds else botM
noncomputable def D7 (ms:Mn (List D)):Mn D:=bnd ms λds=>if ds.length<=sizeLine then ret1 (.tup ds)else botM
theorem zES{es:List Expr}{pos:Pos}{ms:Mn (List D)}(h:SA G C es ms):SE G C (.List es pos) (Cd ms):=.mk <| λA P env s ρ st K=>by
 exact At.stand (At.bind K (h.run A P env s ρ st pos K) λv s' ρ' d σ' K' x r=>W0 K' r)
theorem zBO{es:List Expr}{k:Nat}{pos:Pos}{ms:Mn (List D)}(h:SA G C es ms):SE G C (.Tuple es k pos) (D7 ms):=.mk <| λA P env s ρ st K=>by
 exact At.stand (At.bind K (h.run A P env s ρ st pos K) λv s' ρ' d σ' K' x r=>U2 K' r)
noncomputable def Yk (G:Gd) (T:String) (tg:Expr->Prop) (F:List D->Mn Ix):Prop:=
 ∀C A P env s ρ st ds vs,C.inh=false->Ok G C A P env s ρ st->B7 G s.heap ρ ds vs->F ds st≠.bot->wpAny G.M A (call (.type T) vs) (λx s₁=>wpAny G.M A (pyIter x) (zBy G s ρ st tg (F ds st)) (C1 G env s ρ st (F ds st)) s₁) (C1 G env s ρ st (F ds st)) s
theorem zA5{T:String}{f:Str}{tg:Expr→Prop}{F:List D→Mn Ix}{e:Expr}{es:List Expr}{ms:Mn (List D)}{np pos:Pos}(hg:Dj G f (.type T)) (hn:C.names.lookup f=some .globalImplicit) (hd:(f==("__debug__":Str))=false)
  (hC:C.inh=false) (hF:Yk G T tg F) (hs:SA G C (e::es) ms) (hst:∀env,starEach (e::es) env=(false,eval e env)::starEach es env) (hpl:∀env,(backTo pos (starEach es env)).any (·.1)=false):
  SI G C (.Call (.Name f np) (e::es) [] pos) tg (bnd ms F):=.mk <| λA P env s ρ st K hb=>by
 refine wpAny_bind (F0 K hg hn hd ?_)
 have hev:backTo pos (starEach (e::es) env)=(false,eval e env)::backTo pos (starEach es env):=by rw[hst];rfl
 have h1:=hs.run A P env s ρ st pos K (B6 hb);rw[hev]at h1 ⊢;refine PySem.callWith_type (by show(false||_)=false;rw[Bool.false_or];exact hpl env) (Calls.evalArgs_plain (wpAny_mono h1 (λvs s' q=>?_) λx s' q=>?_))
 ·refine H3.elim q λρ' ds σ' e' I' x' r=>?_
  have K':=K.step I' x';have e2:bnd ms F st=F ds ⟨st.loc,σ'⟩:=by simp only[bnd,e']
  rw[e2]at hb ⊢;refine wpAny_mono (hF C A P env s' ρ' ⟨st.loc,σ'⟩ ds vs hC K' r hb) (λw s'' q=>wpAny_mono q (λw s'' q=>?_) λw s'' q=>?_) λw s'' q=>?_
  ·obtain⟨ρ'',src,σ'',I,S,T,Md,e2,I'',x2,rfl,X,X',T0,hS⟩:=q;exact⟨ρ'',src,σ'',I,S,T,Md,e2,I'',x'.trans x2,rfl,X,X',T0,λq m=>Nat.le_trans x'.size (hS q m)⟩
  ·exact C1.tr q x'
  ·exact C1.tr q x'
 ·exact C1.bnd q
noncomputable def okR (n:Int):Bool:=decide (-(2 ^ 40)<=n)&&decide (n<2 ^ 40)
theorem E1{n:Int}:okR n=true↔ -(2 ^ 40)<=n/\n<2 ^ 40:=by simp[okR]
noncomputable def zAK:D->Option Int
 |.int n=>some n
 |_=>none
theorem Hq{d:D}{n:Int}(h:zAK d=some n):d=.int n:=by
 cases d<;>first|cases h;rfl|cases h
noncomputable def Wt:List (Option Int)->Mn Ix
 |[some n]=>if okR n then ret1 ⟨G6 0 1 n.toNat,λ_=>True⟩else botM
 |[some a,some b]=>if okR a&&okR b then ret1 ⟨G6 a 1 (b - a).toNat,λ_=>True⟩else botM
 |[some a,some b,some c]=>if okR a&&okR b&&(decide (1<=c)&&decide (c<1000))then ret1 ⟨G6 a c (Builtin.Range.rangeSize a b c).toNat,λ_=>True⟩else botM
 |_=>botM
noncomputable def E9 (ds:List D):Mn Ix:=Wt (ds.map zAK)
theorem zAD{ds:List D}(hb:E9 ds st≠.bot):(∃n,ds=[.int n]/\okR n=true)∨(∃a b,ds=[.int a,.int b]/\(okR a&&okR b)=true)∨∃a b c,ds=[.int a,.int b,.int c]/\(okR a&&okR b&&(decide (1<=c)&&decide (c<1000)))=true:=by
 have hb:Wt (ds.map zAK) st≠.bot:=hb
 rcases ds with _|⟨d,_|⟨e,_|⟨f,_|⟨g,l⟩⟩⟩⟩
 ·exact absurd rfl hb
 ·rw[List.map_cons,List.map_nil]at hb
  cases h:zAK d with
  |none=>rw[h]at hb;exact absurd rfl hb
  |some n=>rw[h]at hb;exact .inl ⟨n,by rw[Hq h],Me hb⟩
 ·rw[List.map_cons,List.map_cons,List.map_nil]at hb
  cases h:zAK d with
  |none=>rw[h]at hb;exact absurd rfl hb
  |some n=>
   cases k:zAK e with
   |none=>rw[h,k]at hb;exact absurd rfl hb
   |some m=>rw[h,k]at hb;exact .inr (.inl ⟨n,m,by rw[Hq h,Hq k],Me hb⟩)
 ·simp only[List.map_cons,List.map_cons,List.map_cons,List.map_nil]at hb
  cases h:zAK d with
  |none=>rw[h]at hb;exact absurd rfl hb
  |some n=>
   cases k:zAK e with
   |none=>rw[h,k]at hb;exact absurd rfl hb
   |some m=>
    cases q:zAK f with
    |none=>rw[h,k,q]at hb;exact absurd rfl hb
    |some c=>rw[h,k,q]at hb;exact .inr (.inr ⟨n,m,c,by rw[Hq h,Hq k,Hq q],Me hb⟩)
 ·simp only[List.map_cons,List.map_cons,List.map_cons,List.map_cons]at hb
  cases h:zAK d with
  |none=>rw[h]at hb;exact absurd rfl hb
  |some n=>
   cases k:zAK e with
   |none=>rw[h,k]at hb;exact absurd rfl hb
   |some m=>
    cases q:zAK f<;>(rw[h,k,q]at hb;exact absurd rfl hb)
theorem Nc{a b c:Int}(hc:1<=c):0<=Builtin.Range.rangeSize a b c:=by
 unfold Builtin.Range.rangeSize;rw[if_pos (by exact C4 λZ=>A4 [_] [A5 x0 (.n 0),A5 (.n 1) x0] rT Z hc)]
 split
 ·have:0<=(b - a - 1) / c:=Int.ediv_nonneg (by omega) (by exact Am λZ=>A4 [_] [A7 x0 (.n 0),A5 (.n 1) x0] rT Z hc)
  exact Am λZ=>A4 [_] [A7 (.a x0 (.n 1)) (.n 0),A5 (.n 0) x0] rT Z this
 ·exact Am λZ=>A4 [] [A7 (.n 0) (.n 0)] rT Z
theorem P7{o:Obj}{a b c:Int}{t u v:Tok}{g:Bm→Prop}{m:Mn Ix}(K:Ok G C A P env s ρ st) (hr:o={cls:=.type "range",data:=.fields #[.int a t,.int b u,.int c v]}) (hsm:Builtin.Range.small a b c=true) (hc:1≤c) (tk:Nat)
  (hm:m st=.ok ⟨G6 a c (Builtin.Range.rangeSize a b c).toNat,λ_=>True⟩ st):
  wpAny G.M A (pyIter (.ref s.heap.objs.size)) (zBy G s ρ st (λ_=>True) (m st)) (C1 G env s ρ st (m st)) {s with heap:=s.heap.push o,toks:=tk}:=by
 subst hr;have K':=K.grow (B8.push s.heap {cls:=.type "range",data:=.fields #[.int a t,.int b u,.int c v]}) B5 tk;refine wpAny_pyIter_range (IsRange.new ..) hsm ?_
 generalize hh:s.heap.push {cls:=.type "range",data:=.fields #[.int a t,.int b u,.int c v]}=h1 at K'
 have z1:s.heap.objs.size<=h1.objs.size:=by rw[←hh];exact B5
 have g1:B8 s.heap h1:=by rw[←hh];exact B8.push _ _
 have gg:=B8.push h1 {cls:=.type "range_iterator",data:=.fields #[rawInt a,rawInt (Builtin.Range.rangeSize a b c),rawInt c]};refine⟨ρ,_,st.sto,h1.objs.size,[h1.objs.size],zAp G h1.objs.size c,λ_=>zAp G h1.objs.size c,hm,K'.inv.grow gg B5 tk,(g1.ev z1).trans (gg.ev B5),rfl,zDl,zAb,?_,λq m=>by rw[lq0 m];exact z1⟩
 refine⟨Ro K'.inv (by decide) 0,a,(Builtin.Range.rangeSize a b c).toNat,?_,rfl⟩
 have e:(((Builtin.Range.rangeSize a b c).toNat:Nat):Int)=Builtin.Range.rangeSize a b c:=by have:=Nc (a:=a) (b:=b) hc;exact Ur (λZ=>A4 [_,_] [A7 x1 x0,A5 x0 x1] rT Z (H7 _)) (λZ=>A4 [_,_] [A7 x0 x1,B9 x1 x0] rT Z (Cf (Am λY=>A4 [_] [A7 x0 (.n 0),A5 (.n 0) x0] rT Y this)))
 rw[e];exact Heap.get?_push_size _ rfl
theorem Js{a b c:Int}(h3: -(2 ^ 40)<=a/\a<2 ^ 40) (h4: -(2 ^ 40)<=b/\b<2 ^ 40) (h6:1<=c) (h7:c<1000):Builtin.Range.small a b c=true:=by
 have hs0:=Nc (a:=a) (b:=b) h6;have hs1:Builtin.Range.rangeSize a b c<=2 ^ 42:=by
  unfold Builtin.Range.rangeSize;rw[if_pos (by exact C4 λZ=>A4 [_] [A5 x0 (.n 0),A5 (.n 1) x0] rT Z h6)]
  split
  ·have:(b - a - 1) / c<=b - a - 1:=Int.ediv_le_self _ (by omega)
   exact Am λZ=>A4 [_,_,_] [A7 (.n 4398046511104) (.a x0 (.n 1)),A5 (.s (.n 0) (.n 1099511627776)) x1,A7 x2 (.n 1099511627776),A5 x0 (.s (.s x2 x1) (.n 1))] rT Z h3.1 h4.2 this
  ·exact Am λZ=>A4 [] [A7 (.n 4398046511104) (.n 0)] rT Z
 unfold Builtin.Range.small;simp only[Builtin.Range.rangeFitsLong,Bool.and_eq_true,Bool.or_eq_true,decide_eq_true_eq,beq_iff_eq,show c>0 by exact C4 λZ=>A4 [_] [A5 x0 (.n 0),A5 (.n 1) x0] rT Z h6,if_true]
 have hmul:Builtin.Range.rangeSize a b c*c<=2 ^ 42*1000:=by
  calc _<=2 ^ 42*c:=Int.mul_le_mul_of_nonneg_right hs1 (by exact Am λZ=>A4 [_] [A7 x0 (.n 0),A5 (.n 1) x0] rT Z h6)
   _<=_:=Int.mul_le_mul_of_nonneg_left (by exact Am λZ=>A4 [_] [A7 (.n 1000) x0,A7 x0 (.n 1000)] rT Z h7) (by exact Am λZ=>A4 [_,_] [A7 x0 (.n 0),A5 (.n 0) x1,A5 x1 x0] rT Z hs0 hs1)
 refine⟨?_,?_⟩<;>omega
theorem Qj{a b:Int}:(Builtin.Range.rangeSize a b 1).toNat=(b - a).toNat:=by
 rw[rangeSize_one];by_cases z:a<b
 ·rw[if_pos z]
 ·rw[if_neg z,Int.toNat_of_nonpos (Int.sub_nonpos_of_le (Int.not_lt.mp z))];rfl
theorem zC5:Yk G "range" (λ_=>True) E9:=λC A P env s ρ st ds vs hC K r hb=>by
 rcases zAD hb with⟨n,rfl,h1⟩|⟨a,b,rfl,h1⟩|⟨a,b,c,rfl,h1⟩
 ·obtain⟨v,_,rfl,⟨t,rfl⟩,rfl⟩:=r;have h1':=E1.mp h1;refine call_range_1 (P7 (g:=λ_=>True) K rfl (Js ⟨by decide,by decide⟩ h1' (Int.le_refl 1) (by decide)) (Int.le_refl 1) _ ?_)
  show(if okR n then ret1 _ else botM:Mn Ix) st=_
  rw[C6 h1,Qj,Int.sub_zero];rfl
 ·obtain⟨v1,_,rfl,⟨t,rfl⟩,v2,_,rfl,⟨u,rfl⟩,rfl⟩:=r;have h2:=Bool.and_eq_true_iff.mp h1;refine call_range_2 (P7 (g:=λ_=>True) K rfl (Js (E1.mp h2.1) (E1.mp h2.2) (Int.le_refl 1) (by decide)) (Int.le_refl 1) _ ?_)
  show(if okR a&&okR b then ret1 _ else botM:Mn Ix) st=_
  rw[C6 h1,Qj];rfl
 ·obtain⟨v1,_,rfl,⟨t,rfl⟩,v2,_,rfl,⟨u,rfl⟩,v3,_,rfl,⟨v,rfl⟩,rfl⟩:=r;have h2:=Bool.and_eq_true_iff.mp h1;have h2':=Bool.and_eq_true_iff.mp h2.1;have h5:=Bool.and_eq_true_iff.mp h2.2;have h6:=of_decide_eq_true h5.1;have h7:=of_decide_eq_true h5.2;refine call_range_3 (by exactλZ=>A4 [_] [B9 x0 (.n 0),A5 (.n 1) x0] rT Z h6) (P7 (g:=λ_=>True) K rfl (Js (E1.mp h2'.1) (E1.mp h2'.2) h6 h7) h6 _ ?_) (.inl (PyProof.noPylong_small (by omega)))
  show(if okR a&&okR b&&(decide (1<=c)&&decide (c<1000))then ret1 _ else botM:Mn Ix) st=_
  rw[C6 h1];rfl
noncomputable def zKt (name:Str) (id:String):Prop:=Slot "str" name id∧typeOf (.builtin id)=pure (.type "method_descriptor")
theorem zCR{name:Str}{id:String}(slot:Slot "str" name id) (ty:typeOf (.builtin id)=pure (.type "method_descriptor")):zKt name id:=⟨slot,ty⟩
noncomputable def SM (G:Gd) (name:Str) (id:String) (F:Str->List D->Mn D):Prop:=
 zKt name id/\
 ∀C A P env s ρ st x t ds vs,Ok G C A P env s ρ st->B7 G s.heap ρ ds vs->At G A env s ρ st (RV G) (call (.builtin id) (.str x t::vs)) (F x ds)
noncomputable def Hy (F:Str->Mn D):D->Mn D
 |.str x=>F x
 |_=>botM
theorem zBm{name:Str}{id:String}{Fm:Str->List D->Mn D}{o e:Expr}{es:List Expr}{mo:Mn D}{ms:Mn (List D)}{apos pos:Pos}(hM:SM G name id Fm) (ho:SE G C o mo) (hs:SA G C (e::es) ms)
  (hbase:∀env,attributeBase o name env (eval o env)=eval o env) (hst:∀env,starEach (e::es) env=(false,eval e env)::starEach es env) (hpl:∀env,(backTo pos (starEach es env)).any (·.1)=false)
  (hfew:∀env,methodCallForm ((e::es).length+([]:List Keyword).length) (backTo pos (starEach (e::es) env)) (backToKw pos (keywordEach [] env))=true) (hline:(apos.endLine==pos.line)=true):
  SE G C (.Call (.Attribute o name apos) (e::es) [] pos) (bnd mo (Hy λx=>bnd ms (Fm x))):=.mk <| λA P env s ρ st K hb=>by
 refine wpAny_Call_method_lateS (hbase env) (hfew env) hline (wpAny_mono (ho.run A P env s ρ st K (B6 hb)) (λov s' q=>?_) λx s' q=>?_)
 ·refine H3.elim q λρ' d σ' e' I' x' r=>?_
  have K':=K.step I' x';have e2:bnd mo (Hy λx=>bnd ms (Fm x)) st=Hy (λx=>bnd ms (Fm x)) d ⟨st.loc,σ'⟩:=by simp only[bnd,e']
  rw[e2]at hb ⊢
  cases d with
  |str x=>
   obtain⟨t,rfl⟩:=r;dsimp only[Hy]at hb ⊢
   refine⟨"str",id,F.plainAttrs_str,hM.1.1,hM.1.2,typeIs_str _ _ _,(λ_ e=>nomatch e),?_⟩
   have hev:backTo pos (starEach (e::es) env)=(false,eval e env)::backTo pos (starEach es env):=by rw[hst];rfl
   have h1:=hs.run A P env s' ρ' ⟨st.loc,σ'⟩ pos K' (B6 hb);rw[hev]at h1 ⊢;refine Calls.callWith_builtin (by show(false||_)=false;rw[Bool.false_or];exact hpl env) (Calls.evalArgs_plain (wpAny_mono h1 (λvs s'' q=>?_) λx s'' q=>?_))
   ·refine H3.elim q λρ'' ds σ'' e3 I'' x'' r=>?_
    have K'':=K'.step I'' x'';have e4:bnd ms (Fm x) ⟨st.loc,σ'⟩=Fm x ds ⟨st.loc,σ''⟩:=by simp only[bnd,e3]
    rw[e4]at hb ⊢;refine wpAny_mono (hM.2 C A P env s'' ρ'' ⟨st.loc,σ''⟩ x t ds vs K'' r hb) (λw s3 q=>?_) λw s3 q=>?_
    ·exact H3.tr q (x'.trans x'')
    ·exact C1.tr q (x'.trans x'')
   ·exact C1.tr (C1.bnd q) x'
  |_=>exact absurd rfl hb
 ·exact C1.bnd q
noncomputable def L9:List D->Option (List Str)
 |[]=>some []
 |.str x::r=>(L9 r).map (x:: ·)
 |_=>none
theorem M5{h:Heap}:∀{ds:List D}{vs:List Value}{xs:List Str},B7 G h ρ ds vs->L9 ds=some xs->∃l:List (Str×Tok),vs=strValues l/\l.map (·.1)=xs
 |[],vs,ns,r,e=>by
  subst r
  cases(show some []=some ns from e)
  exact⟨[],rfl,rfl⟩
 |d::ds,vs,ns,r,e=>by
  obtain⟨v,vr,rfl,r1,r2⟩:=r
  cases d with
  |str i=>
   obtain⟨ns',e',rfl⟩:=Option.map_eq_some_iff.mp e;obtain⟨xs,rfl,rfl⟩:=M5 r2 e';obtain⟨t,rfl⟩:=r1;exact⟨(i,t)::xs,rfl,rfl⟩
  |_=>cases(show none=some ns from e)
noncomputable def Eo (x:Str):List D->Mn D
 |[.ref k]=>λst=>match st.sto[k]? with
  |some (.list ds)=>match L9 ds with
   |some xs=>if JoinOk x xs=true then .ok (.str (Str.join x xs)) st else .bot
   |none=>.bot
  |_=>.bot
 |_=>botM
theorem zEA:SM G "join" "str.join" Eo:=⟨by with_reducible exact zCR F.slot_str_join F.type_str_join,λC A P env s ρ st x t ds vs K r=>by
 refine At.leaf (λhb=>?_) K
 match ds,r with
 |[],_=>exact absurd rfl hb
 |[d],r=>
  obtain⟨v,_,rfl,r,rfl⟩:=r
  cases d<;>first|exact absurd rfl hb|skip
  rename_i k;obtain⟨a,rfl,e1⟩:=r
  cases e:st.sto[k]? with
  |none=>exact absurd (by unfold Eo;simp only[e]) hb
  |some o=>
   cases o with
   |list ds=>
    unfold Eo at hb ⊢; simp only[e]at hb ⊢
    cases e2:L9 ds with
    |none=>exact absurd (by simp only[e2]) hb
    |some xs=>
     simp only[e2]at hb ⊢;have h1:JoinOk x xs=true:=by
      cases z:JoinOk x xs with
      |true=>rfl
      |false=>exact absurd (by simp[z]) hb
     simp only[h1,if_true];apply yo;intro _ k0
     obtain⟨vs,hl,r⟩:=K.inv.sto k a _ e1 e;obtain⟨l,hvs,rfl⟩:=M5 r e2;apply k0
     refine SC.join (l:=l) (by rw[←hvs];exact hl.list) rfl h1 λt' k=>⟨_,rfl,B8.same,?_⟩
     show Cn _ _ _ _ _
     exact⟨t',by rw[←StrLaws.glued_eq_join];rfl⟩
   |_=>exact absurd (by unfold Eo;simp only[e]) hb
 |a::b::l,_=>exact absurd (by cases a<;>rfl) hb⟩
noncomputable def Oa (x:Str):List D->Mn D
 |[.str y]=>if x.length<=sizeLine then ret1 (.str (Txt.rstripChars x y))else botM
 |_=>botM
theorem Yv:SM G "rstrip" "str.rstrip" Oa:=⟨by with_reducible exact zCR F.slot_str_rstrip F.type_str_rstrip,λC A P env s ρ st x t ds vs K r=>by
 refine At.leaf (λhb=>?_) K
 match ds,r with
 |[],_=>exact absurd rfl hb
 |[d],r=>
  obtain⟨v,_,rfl,r,rfl⟩:=r
  cases d<;>first|exact absurd rfl hb|skip
  obtain⟨u,rfl⟩:=r;unfold Oa at hb ⊢; dsimp only at hb ⊢;have h1:=Ew hb;rw[C6 h1];exact SC.rstripChars (λt' k=>⟨_,rfl,B8.same,_,rfl⟩) h1
 |a::b::l,_=>exact absurd (by cases a<;>rfl) hb⟩
end
end
section
variable {G:Gd}{C:Cx}{A:Around}{P:List Addr}{env:Env}{s:Shared}{ρ:List Addr}{σ:Bm}{st:St}
theorem Cy.growPriv(I:Cy G s ρ σ){h':Heap}(g:B8 s.heap h') (z:s.heap.objs.size<=h'.objs.size){q:Addr}(hq:s.heap.objs.size<=q) (hp:zCy h' q) (t:Nat):
  Cy G {s with heap:=h',toks:=t} (ρ++[q]) (σ++[.priv])/\Ev [] s.heap ρ h' (ρ++[q])/\Ks s.heap ρ h' (ρ++[q]):=by
 have hqr:q∉ρ:=λm=>Nat.lt_irrefl _ (Nat.lt_of_lt_of_le (I.mem_lt m) hq)
 have S:Ks s.heap ρ h' (ρ++[q]):=g.ext Ej λa o n1 ho _ m=>by
  rcases List.mem_append.mp m with m|m
  ·exact n1 m
  ·rw[lq0 m]at ho;exact Nat.lt_irrefl _ (Nat.lt_of_lt_of_le (Heap.lt_size ho) hq)
 refine⟨⟨λb o e=>g b o (I.base b o e),λa m=>?_,?_,by simp[I.len],λk a p' e1 e2=>?_,I.os,I.gens⟩,J8 (g.ev z) hq,S⟩
 ·rcases List.mem_append.mp m with m|m
  ·exact I.new a m
  ·rw[lq0 m];exact I.h0_le hq
 ·refine List.nodup_append.mpr ⟨I.nodup,by simp,λa m b m' e=>?_⟩
  rw[lq0 m']at e;exact hqr (e▸m)
 ·by_cases hk:k<ρ.length
  ·rw[List.getElem?_append_left hk]at e1;rw[List.getElem?_append_left (by rw[←I.len];exact hk)]at e2
   exact(I.sto k a p' e1 e2).mono S (λo' ho'=>g a o' ho') z
  ·have:k=ρ.length:=by
    have:=(lq2 e1).1
    simp at this
    exact Ha (λZ=>A8 [_,_] [A7 x1 x0,A5 x0 x1] rT Z (Nat.not_lt.mp hk)) (λZ=>A8 [_,_] [A7 x0 x1,A7 x1 (.a x0 (.n 1))] rT Z this)
   subst this;simp at e1
   rw[I.len]at e2;simp at e2
   subst e1 e2;exact hp
theorem zEU{z TI TO i1 i2 l1 l2:Addr}{k1 k2:Nat}{xs ys:Array Value}{a b:Value}{Q:Option Value->Shared->Prop}{E:Value->Shared->Prop}(hh:A.handled=none) (Ap:ZipApart z TI TO i1 i2 l1 l2)
  (hz:IsZip s.heap z TI TO .none) (hTI:IsPair s.heap TI (.ref i1) (.ref i2)) (hTO:IsPair s.heap TO a b)
  (h1:s.heap.IsListIter i1 l1 k1) (h2:s.heap.IsListIter i2 l2 k2) (hl1:s.heap.IsList l1 xs) (hl2:s.heap.IsList l2 ys) (hend:xs[k1]? =none∨ys[k2]? =none)
  (hQ:∀h',(∀c o,c≠z->c≠TO->c≠i1->c≠i2->s.heap.get? c=some o->h'.get? c=some o)->zCy h' TO->Q none {s with heap:=h'}):wpAny G.M A (pyNext (.ref z)) Q E s:=by
 have hT:s.TypeIs (.ref z) "zip":=⟨_,hz,rfl⟩
 have fin:∀h' e,(∀c o,c≠z→c≠TO→c≠i1→c≠i2→s.heap.get? c=some o→h'.get? c=some o)→zCy h' TO→(∃o,h'.get? e=some o∧o.cls=.type "StopIteration")→
   wpAny G.M A (do if ←isInstance (.ref e) (.type "StopIteration")then pure none else throw (.ref e)) Q E {s with heap:=h'}:=λh' e hk hp ho=>by
  apply yo;intro _ k0
  obtain⟨o,ho,hc⟩:=ho;apply k0
  refine wpAny_bind (wpAny_isInstance (T:="StopIteration") (b:=true) ⟨o,ho,hc⟩ isSubtype_stop ?_)
  exact wpAny_pure (hQ h' hk hp)
 refine wpAny_bind (wpAny_attempt (wpAny_callSpecial?_slot (name:=Str.ofString "__next__") hT F.slot_zip_next
  (wpAny_call_entry F.slot_zip_next hT F.entry_zip_next ?_ (F.args_zip_next_1 _))))
 show wpAny _ _ (field (.ref z) 2 >>= _) _ _ _
 refine wpAny_bind (wpAny_field hz rfl (x:=.bool false) rfl ?_)
 refine wpAny_bind (wpAny_field hz rfl (x:=.ref TI) rfl (wpAny_bind (wpAny_seqItems hTI rfl ?_)))
 refine wpAny_bind (wpAny_bind (wpAny_field hz rfl (x:=.none) rfl (wpAny_pure ?_)))
 dsimp only[if_true]
 refine wpAny_bind (wpAny_rule (wpAny_bind (wpAny_field hz rfl (x:=.ref TO) rfl (wpAny_bind (wpAny_setField_rec hz (by simp) λg1 z1 u1=>?_)))))
 replace z1:IsZip g1 z TI TO .ellipsis:=z1
 refine wpAny_bind ?_
 simp only[List.zipIdx_cons,List.zipIdx_nil,List.forIn_cons,List.forIn_nil];refine wpAny_bind (wpAny_bind (wpAny_onRaise ?_))
 cases hx:xs[k1]? with
 |none=>
  refine wpAny_bind (wpAny_nextOf_list_end hh (h1.extBut u1.extBut Ap.i1z) (hl1.extBut u1.extBut Ap.l1z) hx λg2 e u2 he=>?_)
  obtain⟨oe,hoe,hce⟩:=he;have z2:IsZip g2 z TI TO .ellipsis:=u2 _ _ Ap.i1z.symm z1
  have hez:e≠z:=λq=>by subst q;rw[z2]at hoe;cases hoe;simp at hce
  refine wpAny_setField_rec z2 (by simp) λg3 _ u3=>?_
  exact fin g3 e (λc o c1 _ c3 _ q=>u3.extBut _ _ c1 (u2 _ _ c3 (u1.extBut _ _ c1 q))) ⟨a,b,u3.extBut _ _ Ap.TOz (u2 _ _ Ap.TOi1 (u1.extBut _ _ Ap.TOz hTO))⟩ ⟨oe,u3.extBut _ _ hez hoe,hce⟩
 |some x=>
  have hy:ys[k2]? =none:=by rcases hend with h|h;rw[hx]at h;cases h;exact h
  refine wpAny_bind (wpAny_nextOf_list_item (h1.extBut u1.extBut Ap.i1z) (hl1.extBut u1.extBut Ap.l1z) hx λg2 _ u2=>wpAny_pure ?_)
  have t2:IsPair g2 TO a b:=u2.extBut _ _ Ap.TOi1 (u1.extBut _ _ Ap.TOz hTO)
  refine wpAny_bind (wpAny_seqItems t2 rfl (wpAny_bind (wpAny_updateSeq_pair t2 λg3 t3 u3=>?_)))
  replace t3:IsPair g3 TO x b:=t3
  refine wpAny_bind (wpAny_letGo (wpAny_pure (wpAny_bind (wpAny_bind (wpAny_onRaise ?_)))))
  refine wpAny_bind (wpAny_nextOf_list_end hh (((h2.extBut u1.extBut Ap.i2z).extBut u2.extBut Ap.i12.symm).extBut u3.extBut Ap.TOi2.symm)
   (((hl2.extBut u1.extBut Ap.l2z).extBut u2.extBut Ap.l2i1).extBut u3.extBut Ap.l2TO) hy λg4 e u4 he=>?_)
  obtain⟨oe,hoe,hce⟩:=he;have z4:IsZip g4 z TI TO .ellipsis:=u4 _ _ Ap.i2z.symm (u3.extBut _ _ Ap.TOz.symm (u2.extBut _ _ Ap.i1z.symm z1))
  have hez:e≠z:=λq=>by subst q;rw[z4]at hoe;cases hoe;simp at hce
  refine wpAny_setField_rec z4 (by simp) λg5 _ u5=>?_
  exact fin g5 e (λc o c1 c2 c3 c4 q=>u5.extBut _ _ c1 (u4 _ _ c4 (u3.extBut _ _ c2 (u2.extBut _ _ c3 (u1.extBut _ _ c1 q))))) ⟨x,b,u5.extBut _ _ Ap.TOz (u4 _ _ Ap.TOi2 t3)⟩ ⟨oe,u5.extBut _ _ hez hoe,hce⟩
noncomputable def Gy (ds1 ds2:List D):List D:=(ds1.zip ds2).map λp=>D.tup [p.1,p.2]
inductive ZX (i1 i2:Addr) (k1 k2:Nat) (ds1 ds2 rem:List D) (h:Heap) (ρ:List Addr):Prop
 |mk (l1 l2:Addr) (i:Nat) (e1:ρ[k1]? =some l1) (e2:ρ[k2]? =some l2) (h1:h.IsListIter i1 l1 i) (h2:h.IsListIter i2 l2 i) (e3:rem=(Gy ds1 ds2).drop i)
theorem zHP{P:Addr->Prop}{a b c d:Addr}(h1:P a) (h2:P b) (h3:P c) (h4:P d) (q:Addr) (m:q∈[a,b,c,d]):P q:=by
 simp only[List.mem_cons,List.not_mem_nil,or_false]at m;rcases m with rfl|rfl|rfl|rfl<;>assumption
theorem zIJ{x a:Addr}{l:List Addr}(n:x∉a::l):x≠a:=λe=>n (by rw[e];exact lq1)
theorem zId{x a b:Addr}{l:List Addr}(n:x∉a::b::l):x≠b:=zIJ λm=>n (lq4 _ m)
theorem zKX{x a b c:Addr}{l:List Addr}(n:x∉a::b::c::l):x≠c:=zId λm=>n (lq4 _ m)
theorem zLE{x a b c d:Addr}{l:List Addr}(n:x∉a::b::c::d::l):x≠d:=zKX λm=>n (lq4 _ m)
structure ZS (G:Gd) (z TI TO i1 i2:Addr) (k1 k2 kp:Nat) (ds1 ds2:List D) (f0:Value) (rem:List D) (h:Heap) (ρ:List Addr) (σ:Bm):Prop where
 iz:Sq G h ρ z
 j1:Sq G h ρ i1
 j2:Sq G h ρ i2
 s1:σ[k1]? =some (.list ds1)
 s2:σ[k2]? =some (.list ds2)
 sp:σ[kp]? =some .priv
 rp:ρ[kp]? =some TO
 ti:TI∉ρ
 n12:i1≠i2
 zip:IsZip h z TI TO f0
 pair:IsPair h TI (.ref i1) (.ref i2)
 ex:ZX i1 i2 k1 k2 ds1 ds2 rem h ρ
noncomputable def Yw (k1 k2 kp:Nat) (ds1 ds2:List D) (σ:Bm):Prop:=σ[k1]? =some (.list ds1)/\σ[k2]? =some (.list ds2)/\σ[kp]? =some .priv
theorem zDm{h h':Heap}{ρ':List Addr}(x:Ev P h ρ h' ρ') (N:NT h P){a:Addr}{o:Obj}(ho:h.get? a=some o) (hn:a∉ρ) (hd:∀es n,o.data≠.dict es n) (hc:∀v,o.data≠.cell v) (hl:o.cls≠.type "list"):a∉ρ'∧h'.get? a=some o:=by
 obtain⟨o',ho',q⟩:=x.keep a o ho hn (λm=>by
  obtain⟨o',ho',z⟩:=N a m;rw[ho]at ho';cases ho';rcases z with⟨_,_,z⟩|⟨_,z⟩|⟨_,_,z⟩
  ·exact hd _ _ z
  ·exact hc _ z
  ·rw[z]at hl;exact hl rfl)
 rw[q.eq hd]at ho';exact⟨x.notin ho hn,ho'⟩
theorem ZS.apart{z TI TO i1 i2:Addr}{k1 k2 kp:Nat}{ds1 ds2 rem:List D}{f0:Value}(Z:ZS G z TI TO i1 i2 k1 k2 kp ds1 ds2 f0 rem s.heap ρ σ) (I:Cy G s ρ σ){l1 l2:Addr}{i:Nat}(e1:ρ[k1]? =some l1) (e2:ρ[k2]? =some l2)
  (h1:s.heap.IsListIter i1 l1 i) (h2:s.heap.IsListIter i2 l2 i):ZipApart z TI TO i1 i2 l1 l2:=by
 obtain⟨o1,ho1,hc1,_⟩:=h1;obtain⟨o2,ho2,hc2,_⟩:=h2;have hz:s.heap.get? z=some _:=Z.zip
 have hp:s.heap.get? TI=some _:=Z.pair
 have inr:∀{a b:Addr},a∈ρ->b∉ρ->a≠b:=λm n e=>n (e▸m)
 have mTO:=List.mem_of_getElem? Z.rp;have m1:=List.mem_of_getElem? e1;have m2:=List.mem_of_getElem? e2;refine⟨λe=>?_,inr mTO Z.iz.2.1,λe=>?_,λe=>?_,λe=>Z.ti (e▸mTO),λe=>?_,λe=>?_,inr mTO Z.j1.2.1,inr mTO Z.j2.2.1,Z.n12,inr m1 Z.iz.2.1,λe=>?_,inr m1 Z.j1.2.1,inr m1 Z.j2.2.1,inr m2 Z.iz.2.1,λe=>?_,inr m2 Z.j1.2.1,inr m2 Z.j2.2.1⟩
 ·rw[e,hz]at hp;simp at hp
 ·rw[e,hz]at ho1;cases ho1;simp at hc1
 ·rw[e,hz]at ho2;cases ho2;simp at hc2
 ·rw[e,ho1]at hp;cases hp;simp at hc1
 ·rw[e,ho2]at hp;cases hp;simp at hc2
 ·subst e;have:=Bp I.nodup e1 Z.rp
  subst this;have:=Z.s1;rw[Z.sp]at this;cases this
 ·subst e;have:=Bp I.nodup e2 Z.rp
  subst this;have:=Z.s2;rw[Z.sp]at this;cases this
theorem V5{ds1 ds2:List D}{i:Nat}{d:D}(h:(Gy ds1 ds2)[i]? =some d):∃a b,ds1[i]? =some a/\ds2[i]? =some b/\d=.tup [a,b]:=by
 rw[Gy,List.getElem?_map,Option.map_eq_some_iff]at h;obtain⟨⟨a,b⟩,h,rfl⟩:=h;obtain⟨h1,h2⟩:=List.getElem?_zip_eq_some.mp h
 exact⟨a,b,h1,h2,rfl⟩
theorem Wf{ds1 ds2:List D}:(Gy ds1 ds2).length=min ds1.length ds2.length:=by simp[Gy]
theorem ZS.own{z TI TO i1 i2:Addr}{k1 k2 kp:Nat}{ds1 ds2 rem:List D}{f0:Value}{h:Heap}(t:ZS G z TI TO i1 i2 k1 k2 kp ds1 ds2 f0 rem h ρ σ):∀q,q∈[z,TO,i1,i2]->Up G h ρ σ q:=zHP (.inl (.inl t.iz)) (.inr ⟨kp,t.rp,t.sp⟩) (.inl (.inl t.j1)) (.inl (.inl t.j2))
theorem ZS.np{z TI TO i1 i2:Addr}{k1 k2 kp:Nat}{ds1 ds2 rem:List D}{f0:Value}{h:Heap}(t:ZS G z TI TO i1 i2 k1 k2 kp ds1 ds2 f0 rem h ρ σ):∀q,q∈[z,TO,i1,i2]->zCy h q->q=TO:=zHP (λp=>absurd p t.iz.notPrv) (λ_=>rfl) (λp=>absurd p t.j1.notPrv) (λp=>absurd p t.j2.notPrv)
noncomputable def J5 (e:Expr):Prop:=∃elts k pos,e=.Tuple elts k pos
theorem zEm{z TI TO i1 i2:Addr}{k1 k2 kp:Nat}{ds1 ds2:List D}:zGI G z [z,TO,i1,i2] J5 (Yw k1 k2 kp ds1 ds2) (ZS G z TI TO i1 i2 k1 k2 kp ds1 ds2 .none)
  (λv rem h ρ σ=>∃T,v=.ref T/\ZS G z TI TO i1 i2 k1 k2 kp ds1 ds2 (rawInt T) rem h ρ σ) where
 own rem h ρ σ t:=t.own
 ownM v rem h ρ σ t:=t.elim λT z=>z.2.own
 keep P rem s ρ σ s' ρ' σ' t I0 I' x N g:=by
  apply yo;intro _ k0
  obtain⟨l1,l2,i,e1,e2,h1,h2,e3⟩:=t.ex;obtain⟨iz',ez⟩:=t.iz.keep x N;obtain⟨j1',ej1⟩:=t.j1.keep x N;obtain⟨j2',ej2⟩:=t.j2.keep x N;obtain⟨ti',hp'⟩:=zDm x N t.pair t.ti (λ_ _ z=>by cases z) (λ_ z=>by cases z) (by intro z;simp at z)
  obtain⟨o1,ho1,r1⟩:=h1;obtain⟨o2,ho2,r2⟩:=h2;apply k0
  exact⟨iz',j1',j2',g.1,g.2.1,g.2.2,x.pre _ _ t.rp,ti',t.n12,ez.trans t.zip,hp',l1,l2,i,x.pre _ _ e1,x.pre _ _ e2,⟨o1,ej1.trans ho1,r1⟩,⟨o2,ej2.trans ho2,r2⟩,e3⟩
 next A s ρ σ rem Q E hh I0 t h1 h2:=by
  obtain⟨l1,l2,i,e1,e2,hi1,hi2,e3⟩:=t.ex;have Dd:=t.apart I0 e1 e2 hi1 hi2;obtain⟨a,b,hTO⟩:=I0.sto kp TO .priv t.rp t.sp;obtain⟨xs,hl1,r1⟩:=I0.sto k1 l1 _ e1 t.s1;obtain⟨ys,hl2,r2⟩:=I0.sto k2 l2 _ e2 t.s2;have np:=t.np
  cases rem with
  |nil=>
   have hend:xs[i]? =none∨ys[i]? =none:=by
    have h3:=Lr e3;rw[Wf]at h3;rw[←r1.size,←r2.size]at h3;rcases Nat.le_total xs.size ys.size with h|h
    ·left;simp;omega
    ·right;simp;omega
   refine Ff (zEU hh Dd t.zip t.pair hTO hi1 hi2 hl1.list hl2.list hend λh' hk hp zz=>?_)
   exact h1 rfl h' s.toks ⟨λc o n e=>hk c o (zIJ n) (zId n) (zKX n) (zLE n) e,zz,λq m p=>by rw[np q m p];exact hp⟩
  |cons d rest=>
   apply yo;intro _ k0
   obtain⟨hd,hr⟩:=Kd e3;obtain⟨da,db,ha,hb,rfl⟩:=V5 hd;obtain⟨va,hva,ra⟩:=r1.all2.get i da ha;obtain⟨vb,hvb,rb⟩:=r2.all2.get i db hb;apply k0
   refine wpAny_pyNext_zip_item Dd t.zip t.pair hTO hi1 hi2 hl1.list hl2.list (by simpa using hva) (by simpa using hvb) λh' a1 a2 a3 a4 a5 a6 hk=>?_
   have ho:Hs [z,TO,i1,i2] s.heap h':=⟨λc o n e=>hk c o (zIJ n) (zId n) (zKX n) (zLE n) e,by exact Aw λZ=>A8 [_,_] [A7 x0 x1,Gl x0 (.a x1 (.n 1))] rT Z a6,λq m p=>by rw[np q m p];exact⟨_,_,a2⟩⟩
   have S:=ho.stb t.own;refine h2 _ rest rfl (.ref s.heap.objs.size) h' s.toks ho ?_ ⟨_,rfl,?_⟩
   ·refine⟨_,#[va,vb],rfl,I0.size_notin,⟨0,a5⟩,?_⟩
    exact⟨_,_,rfl,Cn.mono S _ _ ra,_,_,rfl,Cn.mono S _ _ rb,rfl⟩
   ·have it1:Sq G h' ρ i1:=by obtain⟨o,ho,hc,hd⟩:=a3;exact⟨t.j1.1,t.j1.2.1,o,_,_,ho,hc,by decide,hd⟩
    have it2:Sq G h' ρ i2:=by obtain⟨o,ho,hc,hd⟩:=a4;exact⟨t.j2.1,t.j2.2.1,o,_,_,ho,hc,by decide,hd⟩
    exact⟨⟨t.iz.1,t.iz.2.1,_,_,_,a1,rfl,by decide,rfl⟩,it1,it2,t.s1,t.s2,t.sp,t.rp,t.ti,t.n12,a1,hk _ _ Dd.TIz Dd.TITO Dd.TIi1 Dd.TIi2 t.pair,l1,l2,i+1,e1,e2,a3,a4,hr⟩
 go A s ρ σ tgt v rest Q E ht I0 t h:=by
  obtain⟨T,rfl,t⟩:=t;obtain⟨elts,k,pos,rfl⟩:=ht;obtain⟨l1,l2,i,e1,e2,hi1,hi2,e3⟩:=t.ex;have Dd:=t.apart I0 e1 e2 hi1 hi2;refine wpAny_letOwnedTupleGo_zip t.zip λh' hz' hs'=>h h' ⟨λb o n e=>hs'.extBut _ _ (zIJ n) e,Nat.le_of_eq hs'.1.symm,λq m p=>?_⟩ ?_
  ·obtain⟨x,y,p⟩:=p;by_cases hq:q=z
   ·subst hq;exact absurd ⟨x,y,p⟩ t.iz.notPrv
   ·exact⟨x,y,hs'.extBut _ _ hq p⟩
  ·apply yo;intro _ k0
   obtain⟨_,_,o1,T1,vs1,ho1,hc1,hT1,hd1⟩:=id t.j1;obtain⟨_,_,o2,T2,vs2,ho2,hc2,hT2,hd2⟩:=id t.j2;apply k0
   exact⟨⟨t.iz.1,t.iz.2.1,_,_,_,hz',rfl,by decide,rfl⟩,⟨t.j1.1,t.j1.2.1,o1,T1,vs1,hs'.extBut _ _ Dd.i1z ho1,hc1,hT1,hd1⟩,⟨t.j2.1,t.j2.2.1,o2,T2,vs2,hs'.extBut _ _ Dd.i2z ho2,hc2,hT2,hd2⟩,t.s1,t.s2,t.sp,t.rp,t.ti,t.n12,hz',hs'.extBut _ _ Dd.TIz t.pair,
    l1,l2,i,e1,e2,hi1.extBut hs'.extBut Dd.i1z,hi2.extBut hs'.extBut Dd.i2z,e3⟩
theorem zA1{z TI TO i1 i2:Addr}{k1 k2 kp:Nat}{ds1 ds2:List D}:Mz G z (ZS G z TI TO i1 i2 k1 k2 kp ds1 ds2 .none):=λA s ρ σ rem Q E hh t h=>wpAny_pyIter_zip t.zip h
noncomputable def Z8 (st:St) (k1 k2:Nat):O8 Ix:=match zFk st.sto[k1]?,zFk st.sto[k2]? with
 |some a,some b=>.ok ⟨Gy a b,Yw k1 k2 st.sto.length a b⟩ ⟨st.loc,st.sto++[.priv]⟩
 |_,_=>.bot
noncomputable def Rh:List D->Mn Ix
 |[d1,d2]=>λst=>match zIM d1,zIM d2 with
  |some k1,some k2=>Z8 st k1 k2
  |_,_=>.bot
 |_=>botM
theorem zEW{P:Prop}{ds:List D}{st:St}(hb:Rh ds st≠.bot) (k:∀k1 k2 a b,ds=[.ref k1,.ref k2]->st.sto[k1]? =some (.list a)->st.sto[k2]? =some (.list b)->P):P:=by
 rcases ds with _|⟨d1,_|⟨d2,_|⟨d3,l⟩⟩⟩
 ·exact absurd rfl hb
 ·exact absurd rfl hb
 ·cases h1:zIM d1 with
  |none=>exact absurd (by unfold Rh;simp only[h1]) hb
  |some k1=>
   cases h2:zIM d2 with
   |none=>exact absurd (by unfold Rh;simp only[h1,h2]) hb
   |some k2=>
    have hz:Z8 st k1 k2≠.bot:=λz=>hb (by unfold Rh;simp only[h1,h2];exact z)
    cases h3:zFk st.sto[k1]? with
    |none=>exact absurd (by unfold Z8;simp only[h3]) hz
    |some a=>
     cases h4:zFk st.sto[k2]? with
     |none=>exact absurd (by unfold Z8;simp only[h3,h4]) hz
     |some b=>exact k k1 k2 a b (by rw[P4 h1,P4 h2]) (On h3) (On h4)
 ·exact absurd rfl hb
theorem X2{k1 k2:Nat}{a b:List D}{st:St}(q1:st.sto[k1]? =some (.list a)) (q2:st.sto[k2]? =some (.list b)):Rh [.ref k1,.ref k2] st=.ok ⟨Gy a b,Yw k1 k2 st.sto.length a b⟩ ⟨st.loc,st.sto++[.priv]⟩:=by
 show Z8 st k1 k2=_
 unfold Z8;rw[q1,q2];rfl
theorem zBp{P:Prop}{h:Heap}{k1 k2:Nat}{vs:List Value}(r:B7 G h ρ [.ref k1,.ref k2] vs) (k:∀l1 l2,vs=[.ref l1,.ref l2]->ρ[k1]? =some l1->ρ[k2]? =some l2->P):P:=by
 obtain⟨v1,_,rfl,⟨l1,rfl,e1⟩,v2,_,rfl,⟨l2,rfl,e2⟩,rfl⟩:=r;exact k l1 l2 rfl e1 e2
theorem zHQ:Yk G "zip" J5 Rh:=λC A P env s ρ st ds vs hC K r hb=>zEW hb λk1 k2 a b ed q1 q2=>by
 subst ed;refine zBp r λl1 l2 ev e1 e2=>?_
 subst ev;apply yo;intro _ k0
 obtain⟨xs,hl1,rr1⟩:=K.inv.sto k1 l1 _ e1 q1;obtain⟨ys,hl2,rr2⟩:=K.inv.sto k2 l2 _ e2 q2;apply k0
 refine Ff (call_zip_2 hl1.list hl2.list λh' hz hTI hTO hi1 hi2 hsz hk zz=>?_)
 refine wpAny_pyIter_zip hz ?_
 obtain⟨I',x',S'⟩:=K.inv.growPriv (h':=h') hk zz (q:=s.heap.objs.size+3) (Nat.le_add_right _ _) ⟨_,_,hTO⟩ s.toks
 have hnew:∀j,j≠3->s.heap.objs.size+j∉ρ++[s.heap.objs.size+3]:=λj hj m=>by
  rcases List.mem_append.mp m with m|m
  ·exact Nat.lt_irrefl _ (Nat.lt_of_lt_of_le (K.inv.mem_lt m) (Nat.le_add_right _ j))
  ·exact hj (Nat.add_left_cancel (lq0 m))
 have h0:∀j,G.h0.get? (s.heap.objs.size+j)=none:=λj=>K.inv.h0_le (Nat.le_add_right _ _)
 have klt1:k1<st.sto.length:=(lq2 q1).1
 have klt2:k2<st.sto.length:=(lq2 q2).1
 apply yo;intro _ k0
 obtain⟨o1,ho1,hc1,hd1⟩:=id hi1;obtain⟨o2,ho2,hc2,hd2⟩:=id hi2;apply k0
 exact⟨_,⟨Gy a b,Yw k1 k2 st.sto.length a b⟩,_,s.heap.objs.size+4,[s.heap.objs.size+4,s.heap.objs.size+3,s.heap.objs.size,s.heap.objs.size+1],_,_,X2 q1 q2,I',x',rfl,zEm (TI:=s.heap.objs.size+2),zA1,
  ⟨⟨h0 4,hnew 4 (by decide),_,_,_,hz,rfl,by decide,rfl⟩,⟨h0 0,hnew 0 (by decide),o1,_,_,ho1,hc1,by decide,hd1⟩,⟨h0 1,hnew 1 (by decide),o2,_,_,ho2,hc2,by decide,hd2⟩,
   (List.getElem?_append_left klt1).trans q1,(List.getElem?_append_left klt2).trans q2,lq3,by rw[←K.inv.len];exact lq3,hnew 2 (by decide),Nat.ne_of_lt (Nat.lt_succ_self _),hz,hTI,l1,l2,0,Ej _ _ e1,Ej _ _ e2,hi1,hi2,rfl⟩,
  zHP (Nat.le_add_right _ _) (Nat.le_add_right _ _) (Nat.le_refl _) (Nat.le_add_right _ _)⟩
end
section
open W
structure zAI (G:Gd) (K:Frag):Prop where
 kin:K.In G.h0
 g:∃mg,G.h0.Ns mainGlobals mg
 b:∃mb,G.h0.Ns builtinsNs mb∧∀x:Str,x≠"__name__"→mb x=bootBuiltins x
 lim:G.h0.NoLimit
section
variable {G:Gd}{K:Frag}{C:Cx}
theorem zAI.glob(L:zAI G K){x:Str}{v:Value}(e:nsIn K mainGlobals x=some (some v)):D8 G x v:=by
 obtain⟨mg,n⟩:=L.g;exact⟨mg,n,mg_of L.kin n e⟩
theorem zAI.bui(L:zAI G K){x:Str}{v:Value}(e:nsIn K mainGlobals x=some none) (e2:bootBuiltins x=some v) (hn:(x==("__name__":Str))=false):Dj G x v:=by
 obtain⟨mg,n⟩:=L.g;obtain⟨mb,n',h⟩:=L.b;refine⟨mg,mb,n,mg_none_of L.kin n e,n',?_⟩
 rw[h x (λz=>by rw[z]at hn;simp at hn)]
 exact e2
noncomputable def zFe {α:Type}(o:Option α) (f:α->Bool):Bool:=match o with
 |some a=>f a
 |none=>false
theorem Ld{P:Prop}{α:Type}{o:Option α}{f:α->Bool}(q:zFe o f=true) (k:∀a,o=some a->f a=true->P):P:=by
 cases o with
 |none=>cases q
 |some a=>exact k a rfl q
noncomputable def zJS (i:Int):Value->Bool
 |.int j _=>j==i
 |_=>false
theorem zEQ{P:Prop}{i:Int}{v:Value}(h:zJS i v=true) (k:∀t,v=.int i t->P):P:=by
 cases v<;>first|(cases h;done)|(cases(beq_iff_eq.mp h);exact k _ rfl)
noncomputable def zKR (K:Frag) (x:Str) (i:Int):Bool:=zFe (nsIn K mainGlobals x) λo=>zFe o (zJS i)
theorem zAI.globInt(L:zAI G K){x:Str}{i:Int}(e:zKR K x i=true):∃t,D8 G x (.int i t):=
 Ld e λo h1 e=>Ld e λv h2 e=>zEQ e λt h3=>⟨t,L.glob (by rw[h1,h2,h3])⟩
theorem zBx{x:Str}{i:Int}{pos:Pos}(hg:∃t,D8 G x (.int i t)) (hn:C.names.lookup x=some .globalImplicit) (hd:(x==("__debug__":Str))=false):SE G C (.Name x pos) (ret1 (.int i)):=
 let⟨_,h⟩:=hg;V9 h hn hd
noncomputable def zCm:Data->Option FuncData
 |.func fd=>some fd
 |_=>none
theorem zEg{d:Data}{fd:FuncData}(h:zCm d=some fd):d=.func fd:=by
 cases d<;>first|(cases h;done)|(cases h;rfl)
noncomputable def zKw (K:Frag) (a:Addr):Option FuncData:=(K.lookup a).bind λo=>zCm o.data
noncomputable def Hw (K:Frag) (a:Addr):FuncData:=(zKw K a).getD default
noncomputable def zF1:Data->Option (Array Value)
 |.fields vs=>some vs
 |_=>none
theorem zGu{d:Data}{vs:Array Value}(h:zF1 d=some vs):d=.fields vs:=by
 cases d<;>first|(cases h;done)|(cases h;rfl)
noncomputable def zJW:Value->Option Addr
 |.ref a=>some a
 |_=>none
theorem zFB{v:Value}{a:Addr}(h:zJW v=some a):v=.ref a:=by
 cases v<;>first|(cases h;done)|(cases h;rfl)
noncomputable def zJ8 (q:Str):Value->Bool
 |.str q' _=>q'==q
 |_=>false
theorem zEd{P:Prop}{q:Str}{v:Value}(h:zJ8 q v=true) (k:∀t,v=.str q t->P):P:=by
 cases v<;>first|(cases h;done)|(cases(beq_iff_eq.mp h);exact k _ rfl)
noncomputable def zFv (K:Frag) (cd:Value) (q:Str):Bool:=zFe (zJW cd) λc=>zFe (K.lookup c) λo=>zFe (zF1 o.data) λvs=>zFe (vs[1]?:Option Value) (zJ8 q)
noncomputable def Rk (K:Frag) (a:Addr):Bool:=(zKw K a).isSome
noncomputable def zIp:NameKind->Bool:=λk=>k== .local||k== .cell
noncomputable def zJw (names:List (Str×NameKind)) (xs:List Str):Bool:=xs.all λx=>zFe (names.lookup x) zIp
noncomputable def I9 (names:List (Str×NameKind)):Bool:=names.all λp=>p.2 !=.free
theorem Km{a:Addr}(h:Rk K a=true):∃o,K.lookup a=some o/\o.data=.func (Hw K a):=by
 obtain⟨fd,e⟩:=Option.isSome_iff_exists.mp h;obtain⟨o,e1,e2⟩:=Option.bind_eq_some_iff.mp e;refine⟨o,e1,?_⟩
 unfold Hw;rw[e];exact zEg e2
theorem zEe{cd:Value}{q:Str}(L:zAI G K) (h:zFv K cd q=true):G.h0.CodeRec cd q:=
 Ld h λc e1 h=>Ld h λo e2 h=>Ld h λvs e3 h=>Ld h λv e4 h=>zEd h λt e5=>⟨c,o,vs,t,zFB e1,L.kin _ _ e2,zGu e3,by rw[e4,e5]⟩
theorem Bw{l:List Value}{n:Nat}(h:l.length=n+1):∃a r,l=a::r/\r.length=n:=by
 cases l with
 |nil=>cases h
 |cons a r=>exact⟨a,r,rfl,Nat.succ.inj h⟩
theorem Nb{fd:FuncData}{x:Str}(h:∀a,bindArgs fd ⟨[a],[]⟩=pure [(x,a)]):∀vs:List Value,vs.length=[x].length->bindArgs fd ⟨vs,[]⟩=pure ([x].zip vs):=λvs hl=>by
 obtain⟨a,r1,rfl,k1⟩:=Bw hl;rw[List.eq_nil_of_length_eq_zero (l:=r1) k1]
 exact h a
theorem Wv{fd:FuncData}{x y:Str}(h:∀a b,bindArgs fd ⟨[a,b],[]⟩=pure [(x,a),(y,b)]):∀vs:List Value,vs.length=[x,y].length->bindArgs fd ⟨vs,[]⟩=pure ([x,y].zip vs):=λvs hl=>by
 apply yo;intro _ k0
 obtain⟨a,r1,rfl,k1⟩:=Bw hl;obtain⟨b,r2,rfl,k2⟩:=Bw k1;apply k0
 rw[List.eq_nil_of_length_eq_zero (l:=r2) k2]
 exact h a b
theorem Ww{fd:FuncData}{x y z:Str}(h:∀a b c,bindArgs fd ⟨[a,b,c],[]⟩=pure [(x,a),(y,b),(z,c)]):∀vs:List Value,vs.length=[x,y,z].length->bindArgs fd ⟨vs,[]⟩=pure ([x,y,z].zip vs):=λvs hl=>by
 apply yo;intro _ k0
 obtain⟨a,r1,rfl,k1⟩:=Bw hl;obtain⟨b,r2,rfl,k2⟩:=Bw k1;obtain⟨c,r3,rfl,k3⟩:=Bw k2;apply k0
 rw[List.eq_nil_of_length_eq_zero (l:=r3) k3]
 exact h a b c
theorem zAc{fd:FuncData}{x y z u:Str}(h:∀a b c d,bindArgs fd ⟨[a,b,c,d],[]⟩=pure [(x,a),(y,b),(z,c),(u,d)]):∀vs:List Value,vs.length=[x,y,z,u].length->bindArgs fd ⟨vs,[]⟩=pure ([x,y,z,u].zip vs):=λvs hl=>by
 apply yo;intro _ k0
 obtain⟨a,r1,rfl,k1⟩:=Bw hl;obtain⟨b,r2,rfl,k2⟩:=Bw k1;obtain⟨c,r3,rfl,k3⟩:=Bw k2;obtain⟨d,r4,rfl,k4⟩:=Bw k3;apply k0
 rw[List.eq_nil_of_length_eq_zero (l:=r4) k4]
 exact h a b c d
theorem zFX{fd:FuncData}{x y z u v:Str}(h:∀a b c d e,bindArgs fd ⟨[a,b,c,d,e],[]⟩=pure [(x,a),(y,b),(z,c),(u,d),(v,e)]):∀vs:List Value,vs.length=[x,y,z,u,v].length->bindArgs fd ⟨vs,[]⟩=pure ([x,y,z,u,v].zip vs):=λvs hl=>by
 apply yo;intro _ k0
 obtain⟨a,r1,rfl,k1⟩:=Bw hl;obtain⟨b,r2,rfl,k2⟩:=Bw k1;obtain⟨c,r3,rfl,k3⟩:=Bw k2;obtain⟨d,r4,rfl,k4⟩:=Bw k3;obtain⟨e,r5,rfl,k5⟩:=Bw k4;apply k0
 rw[List.eq_nil_of_length_eq_zero (l:=r5) k5]
 exact h a b c d e
theorem zJ2{fd:FuncData}{x y z u v r:Str}(h:∀a b c d e f,bindArgs fd ⟨[a,b,c,d,e,f],[]⟩=pure [(x,a),(y,b),(z,c),(u,d),(v,e),(r,f)]):∀vs:List Value,vs.length=[x,y,z,u,v,r].length->bindArgs fd ⟨vs,[]⟩=pure ([x,y,z,u,v,r].zip vs):=λvs hl=>by
 apply yo;intro _ k0
 obtain⟨a,r1,rfl,k1⟩:=Bw hl;obtain⟨b,r2,rfl,k2⟩:=Bw k1;obtain⟨c,r3,rfl,k3⟩:=Bw k2;obtain⟨d,r4,rfl,k4⟩:=Bw k3;obtain⟨e,r5,rfl,k5⟩:=Bw k4;obtain⟨f,r6,rfl,k6⟩:=Bw k5;apply k0
 rw[List.eq_nil_of_length_eq_zero (l:=r6) k6]
 exact h a b c d e f
noncomputable def zIt (K:Frag) (a:Addr) (xs:List Str):Bool:=
 Rk K a&&zFv K (Hw K a).code (Hw K a).qualname&&(Hw K a).closure.isEmpty&&((Hw K a).globals==mainGlobals)&&((Hw K a).builtins==builtinsNs)&&
 (Hw K a).scope.kind== .function&&!(Hw K a).scope.isCoroutine&&!(Hw K a).scope.isGenerator&&zJw (Hw K a).scope.names xs&&I9 (Hw K a).scope.names
theorem Cc{a:Addr}{body:List Stmt}{xs:List Str}(L:zAI G K) (h:zIt K a xs=true) (hb:(Hw K a).body=.stmts body) (hbind:∀vs:List Value,vs.length=xs.length->bindArgs (Hw K a) ⟨vs,[]⟩=pure (xs.zip vs)):zGi G a (Hw K a) body xs:=by
 simp only[zIt,Bool.and_eq_true,beq_iff_eq,Bool.not_eq_true',List.isEmpty_iff]at h;apply yo;intro _ k0
 obtain⟨⟨⟨⟨⟨⟨⟨⟨⟨h1,h2⟩,h3⟩,h4⟩,h5⟩,h6⟩,h7⟩,h8⟩,h9⟩,h10⟩:=h;obtain⟨o,ho,hd⟩:=Km h1;apply k0
 refine⟨⟨o,L.kin _ _ ho,hd⟩,hb,h4,h3,h5,zEe L h2,L.lim,h6,h7,h8,hbind,λx m=>?_,λx m=>?_⟩
 ·exact Ld (List.all_eq_true.mp h9 x m) λk e h=>by
   rw[e];rcases Bool.or_eq_true_iff.mp h with z|z
   ·exact .inl (by rw[beq_iff_eq.mp z])
   ·exact .inr (by rw[beq_iff_eq.mp z])
 ·have:=List.all_eq_true.mp h10 x m
  intro z;rw[z]at this;simp at this
theorem E5{a:Addr}{body:List Stmt}{names:List (Str×NameKind)}{xs:List Str}{is:List Nat}{tbl:List Str}{n:Nat}{m:Mn Fl}(Fi:zGi G a (Hw K a) body xs) (hn:(Hw K a).scope.names=names){code:Value}(hcd:(Hw K a).code=code){qual:Str}(hql:(Hw K a).qualname++".<locals>."=qual) (tnd:tbl.Nodup)
  (hi:is.map (λi=>tbl[i]?)=xs.map some) (hb:Uh G ⟨names,tbl,n,false,code,qual⟩ body m):SF G (n+1) a (Dp is m):=by
 subst hn hcd hql;refine zE3 Fi tnd ?_ hb
 clear hb Fi
 induction is generalizing xs with
 |nil=>cases xs with
  |nil=>exact .nil
  |cons _ _=>simp at hi
 |cons i is ih=>cases xs with
  |nil=>simp at hi
  |cons x xs=>
   simp only[List.map_cons,List.cons.injEq]at hi;exact .cons hi.1 (ih hi.2)
theorem zAI.fd(L:zAI G K){a:Addr}(h:Rk K a=true):∃o fd,G.h0.get? a=some o/\o.data=.func fd:=by
 obtain⟨o,ho,hd⟩:=Km h;exact⟨o,_,L.kin _ _ ho,hd⟩
noncomputable abbrev Ah:Mn (List D):=ret1 []
noncomputable abbrev A0 (m:Mn D) (ms:Mn (List D)):Mn (List D):=bnd m λd=>bnd ms λds=>ret1 (d::ds)
noncomputable abbrev Ac (f:D->D->Mn D) (m1 m2:Mn D):Mn D:=bnd m1 λa=>bnd m2 λb=>f a b
noncomputable abbrev Bc (f:D->D->Mn D) (m1 m2:Mn D):Mn Bool:=bnd m1 λa=>bnd m2 λb=>bnd (f a b) As
noncomputable abbrev Nd (f g:D->D->Mn D) (m1 m2 m3:Mn D):Mn Bool:=bnd m1 λa=>bnd m2 λb=>bnd (f a b) λc=>bnd (As c) λt=>if t then(bnd m3 λc=>bnd (g b c) As)else ret1 false
noncomputable abbrev Bt (m:Mn D):Mn Fl:=bnd m λd=>ret1 (.ret d)
noncomputable abbrev Ca (i:Nat):D->C3->Option C3:=λd loc=>some (upd loc i d)
noncomputable def zLB:Stmt->Option (List Stmt×List (Str×NameKind))
 |.FunctionDef _ _ b _ _ _ s _ _ _=>some (b,s.names)
 |_=>none
noncomputable def D1 (p:Program) (n:Nat):List Stmt:=((p.main.body[n]?.bind zLB).map (·.1)).getD []
noncomputable def Cb (p:Program) (n:Nat):List (Str×NameKind):=((p.main.body[n]?.bind zLB).map (·.2)).getD []
noncomputable def zBK (C:Cx) (scope:Scope) (cls:List Nat):Bool:=
 scope.kind== .function&&(scope.names.all λp=>p.2 !=.cell)&&(scope.names.all λp=>p.2 !=.local||scope.names.lookup p.1==some .local)&&
 (scope.names.all λp=>p.2 !=.free||((C.names.lookup p.1==some .cell||C.names.lookup p.1==some .free)&&C.tbl.contains p.1))&&
 ((List.range C.tbl.length).all λi=>match C.tbl[i]? with
  |some x=>scope.names.lookup x !=some .local||cls.contains i
  |none=>true)
theorem zAA{scope:Scope}{cls:List Nat}(h:zBK C scope cls=true):Pf C scope cls:=by
 simp only[zBK,Bool.and_eq_true,beq_iff_eq]at h;obtain⟨⟨⟨⟨h1,h2⟩,h3⟩,h4⟩,h5⟩:=h;refine⟨h1,λx m z=>?_,λx m z=>?_,λx m z=>?_,λi x e z=>?_⟩
 ·have:=List.all_eq_true.mp h2 x m
  rw[z]at this;simp at this
 ·have:=List.all_eq_true.mp h3 x m
  rw[z]at this;simpa using this
 ·have:=List.all_eq_true.mp h4 x m
  rw[z]at this;simpa using this
 ·have:=List.all_eq_true.mp h5 i (List.mem_range.mpr (lq2 e).1)
  simp only[e]at this;rw[z]at this;simpa using this
theorem zAC{elt:Expr}{gens:List Comprehension}{scope:Scope}{cpos np:Pos}{x:Str}{line:Nat}(h1:(np.line==cpos.line)=true) (h2:(scope.names.any λp=>p.1==x&&(p.2== .local||p.2== .cell))=false) (env:Env) (hk:env.kindOf x=some .local) (hb:env.blockKind=.function):
  swapsWith (.ListComp elt gens scope cpos) (some (.Name x np)) line env=pure true:=by
 show(pure (env.blockKind== .function&&env.kindOf x==some .local&&np.line==cpos.line&&!(scope.names.any λp=>p.1==x&&(p.2== .local||p.2== .cell))):Sem Bool)=pure true
 rw[h1,h2,hk,hb];rfl
theorem Us{elt:Expr}{gens:List Comprehension}{scope:Scope}{cpos np:Pos}{x:Str}{line:Nat}(env:Env) (hk:env.kindOf x=some .cell):
  swapsWith (.ListComp elt gens scope cpos) (some (.Name x np)) line env=pure false:=by
 show(pure (env.blockKind== .function&&env.kindOf x==some .local&&np.line==cpos.line&&!(scope.names.any λp=>p.1==x&&(p.2== .local||p.2== .cell))):Sem Bool)=pure false
 rw[hk];have:(some NameKind.cell==some NameKind.local)=false:=by decide
 rw[this];simp
end
end
section
open W
end
section
open Builtin.Str
noncomputable def By (v:Option Int) (dflt n:Int):Int:=match v with
 |none=>dflt
 |some i=>max 0 (min (if i<0 then i+n else i) n)
noncomputable def Dn {α:Type}(lo hi:Option Int) (l:List α):List α:=(l.drop (By lo 0 l.length).toNat).take (By hi l.length l.length - By lo 0 l.length).toNat
theorem J3{v:Option Int}{d n:Int}(hn:0<=n) (hd:0<=d) (hd2:d<=n):0<=By v d n/\By v d n<=n:=by
 cases v with
 |none=>exact⟨hd,hd2⟩
 |some i=>exact⟨Int.le_max_left _ _,Int.max_le.mpr ⟨hn,Int.min_le_right _ _⟩⟩
theorem Z2(lo hi:Option Int) (n:Nat):sliceBounds lo hi none n=(By lo 0 n,By hi n n,1):=by
 cases lo<;>cases hi<;>rfl
theorem To{a b:Int}(ha:0<=a):sliceRange a b 1=(List.range (b - a).toNat).map λk=>a.toNat+k:=by
 unfold sliceRange;simp only[show(1:Int)>0 by decide,if_true,Int.ediv_one]
 have e:(if a<b then b - a+1 - 1 else 0).toNat=(b - a).toNat:=by
  split
  ·rw[Int.add_sub_cancel]
  ·rename_i h;rw[Int.toNat_of_nonpos (Int.sub_nonpos_of_le (Int.not_lt.mp h))];rfl
 simp only[e];refine List.map_congr_left λk _=>?_
 show(a+1*(k:Int)).toNat=a.toNat+k
 simp only[Int.one_mul,Int.toNat_add ha (Int.natCast_nonneg k),Int.toNat_natCast]
theorem Qc{α:Type}(lo hi:Option Int) (l:List α):(sliceRange (By lo 0 l.length) (By hi l.length l.length) 1).filterMap (l[·]?)=Dn lo hi l:=by
 obtain⟨h1,h2⟩:=J3 (v:=lo) (d:=0) (n:=(l.length:Int)) (by exact Am λZ=>A4 [_] [A7 x0 (.n 0),A5 (.n 0) x0] rT Z (Hd _)) (by exact Am λZ=>A4 [] [A7 (.n 0) (.n 0)] rT Z) (by exact Am λZ=>A4 [_] [A7 x0 (.n 0),A5 (.n 0) x0] rT Z (Hd _))
 obtain⟨h3,h4⟩:=J3 (v:=hi) (d:=(l.length:Int)) (n:=(l.length:Int)) (by exact Am λZ=>A4 [_,_] [A7 x0 (.n 0),A5 (.n 0) x1,A5 x1 x0] rT Z h1 h2) (by exact Am λZ=>A4 [_,_] [A7 x0 (.n 0),A5 (.n 0) x1,A5 x1 x0] rT Z h1 h2) (by exact Am λZ=>A4 [_] [A7 x0 x0] rT Z)
 simp only[To h1];unfold Dn;by_cases h:By lo 0 l.length<=By hi l.length l.length
 ·exact StrLaws.picks l _ _ (by exact Gk (Am λZ=>A4 [(↑l.length),(↑(By lo 0 ↑l.length).toNat),(↑(By hi ↑l.length ↑l.length - By lo 0 ↑l.length).toNat),(By hi ↑l.length ↑l.length),(By lo 0 ↑l.length)] [A7 x0 (.a x1 x2),A5 x3 x0,B9 x1 x4,B9 x2 (.s x3 x4)] rT Z h4 (Cf (Am λY=>A4 [(By lo 0 ↑l.length)] [A7 x0 (.n 0),A5 (.n 0) x0] rT Y h1)) (Cf (Am λY=>A4 [(By lo 0 ↑l.length),(By hi ↑l.length ↑l.length)] [A7 (.s x1 x0) (.n 0),A5 x0 x1] rT Y h))))
 ·have e:(By hi l.length l.length - By lo 0 l.length).toNat=0:=by(clear h4 h3 h2 h1;omega)
  rw[e];simp
theorem Ry(items:Array Value) (lo hi:Option Int):slicePick items lo hi none=(Dn lo hi items.toList).toArray:=by
 unfold slicePick;rw[Z2];congr 1
 have:=Qc lo hi items.toList
 simpa using this
theorem Hb{α:Type}(lo hi:Option Int) (l:List α):(Dn lo hi l).length<=l.length:=((List.take_sublist _ _).trans (List.drop_sublist _ _)).length_le
theorem C2.cut{α β:Type}{R:α->β->Prop}{l:List α}{l':List β}(h:C2 R l l') (lo hi:Option Int):C2 R (Dn lo hi l) (Dn lo hi l'):=by
 unfold Dn;rw[h.length];exact(h.drop _).take _
inductive SO (G:Gd) (C:Cx):Option Expr->Option (Mn D)->Prop
 |none:SO G C none none
 |some {e m}:SE G C e m->SO G C (some e) (some m)
noncomputable def zJ1:D->Mn (Option Int)
 |.int i=>ret1 (some i)
 |_=>botM
noncomputable def Ng:Option (Mn D)->Mn (Option Int)
 |none=>ret1 none
 |some m=>bnd m zJ1
noncomputable def Gv (d:D) (l h:Option Int):Mn D:=match d with
 |.ref k=>λst=>match st.sto[k]? with
  |some (.list ds)=>if ds.length<=sizeLine then D2 (Dn l h ds) st else .bot
  |_=>.bot
 |.tup ds=>if ds.length<=sizeLine then ret1 (.tup (Dn l h ds))else botM
 |_=>botM
noncomputable def G5 (m:Mn D) (lo hi:Option (Mn D)):Mn D:=bnd m λa=>bnd (bnd (Ng lo) λl=>bnd (Ng hi) λh=>ret1 (l,h)) λp=>Gv a p.1 p.2
section
variable {G:Gd}{C:Cx}{A:Around}{P:List Addr}{env:Env}{s:Shared}{ρ:List Addr}{st:St}
noncomputable abbrev RP:Heap->List Addr->Option Int->Value->Prop:=λ_ _ k v=>IsPart v k
noncomputable abbrev zLH:Heap->List Addr->Option Int×Option Int->Value->Prop:=λh ρ p v=>∃a vl vu,v=.ref a/\h.IsSliceOf a vl vu .none/\IsPart vl p.1/\IsPart vu p.2
theorem zE2:SO G C none none:=.none
theorem zEN{e:Expr}{m:Mn D}(h:SE G C e m):SO G C (some e) (some m):=.some h
theorem Wk{oe:Option Expr}{om:Option (Mn D)}(h:SO G C oe om) (K:Ok G C A P env s ρ st):At G A env s ρ st RP (evalPart oe env) (Ng om):=by
 cases h with
 |none=>exact At.pure K .none
 | @some e m h=>
  refine At.ofEq (t':=eval e env >>= λv=>pure v) (by rw[evalPart_some];simp) ?_
  refine At.bind K (h.run A P env s ρ st K) λv s' ρ' d σ' K' x r hb=>?_
  cases d<;>first|exact absurd rfl hb|skip
  obtain⟨t,rfl⟩:=r;exact At.pure K' (.int _ t) hb
theorem zBP{lo hi:Option Expr}{ml mh:Option (Mn D)}{p:Pos}(h1:SO G C lo ml) (h2:SO G C hi mh) (K:Ok G C A P env s ρ st):
  At G A env s ρ st zLH (eval (.Slice lo hi none p) env) (bnd (Ng ml) λl=>bnd (Ng mh) λh=>ret1 (l,h)):=λhb=>by
 refine wpAny_Slice (wpAny_mono (Wk h1 K (B6 hb)) (λvl s' q=>?_) λx s' q=>?_)
 ·refine H3.elim q λρ' l σ' e I' x r=>?_
  have K':=K.step I' x;have e':bnd (Ng ml) (λl=>bnd (Ng mh) λh=>ret1 (l,h)) st=bnd (Ng mh) (λh=>ret1 (l,h)) ⟨st.loc,σ'⟩:=by unfold bnd;rw[e]
  rw[e']at hb ⊢;refine wpAny_mono (Wk h2 K' (B6 hb)) (λvu s'' q=>?_) λex s'' q=>?_
  ·refine H3.elim q λρ'' h σ'' e2 I'' x2 r2=>?_
   simp only[evalPart_none];refine wpAny_pure ?_
   have g:=B8.push s''.heap {cls:=.type "slice",data:=.fields #[vl,vu,.none]};exact⟨ρ'',(l,h),σ'',by simp only[bnd,e2,ret1],I''.grow g B5 s''.toks,(x.trans x2).trans (g.ev B5),_,vl,vu,rfl,Heap.IsSliceOf.new ..,r,r2⟩
  ·exact C1.tr (C1.bnd q) x
 ·exact C1.bnd q
theorem zAB(lo hi:Option Int) (n:Nat):Builtin.Slice.sliceAdjust lo hi 1 (n:Int)=(By lo 0 n,By hi n n):=by
 have c:∀i:Int,(if i<0 then max (i+(n:Int)) 0 else min i (n:Int))=max 0 (min (if i<0 then i+n else i) n):=λi=>by
  by_cases z:i<0
  ·rw[if_pos z,if_pos z,Int.min_eq_left (by have:=Int.add_le_add_right (Int.le_of_lt z) (n:Int);rwa [Int.zero_add]at this),Int.max_comm]
  ·rw[if_neg z,if_neg z,Int.max_eq_right (Int.le_min.mpr ⟨Int.not_lt.mp z,Int.natCast_nonneg n⟩)]
 unfold Builtin.Slice.sliceAdjust By;simp only[show¬((1:Int)<0)by decide,if_false]
 cases lo<;>cases hi<;>simp only[c]
theorem Zs(a b:Int):Builtin.Slice.slicePlaces a b 1=(b - a).toNat:=by
 unfold Builtin.Slice.slicePlaces;simp only[show(1:Int)>0 by decide,if_true,Int.ediv_one]
 by_cases z:a<b
 ·rw[if_pos z,Int.sub_add_cancel]
 ·rw[if_neg z,Int.toNat_of_nonpos (Int.sub_nonpos_of_le (Int.not_lt.mp z))];rfl
theorem Um{E:Value->Shared->Prop}{v:Value}{k:Option Int}{Q:Option Int->Shared->Prop}(p:IsPart v k) (h:Q k s):wpAny G.M A (Builtin.Slice.slicePartIndex v) Q E s:=by
 cases p with
 |none=>exact slicePart_none h
 |int i t=>exact slicePart_int h
theorem zAH{E:Value->Shared->Prop}{t sl:Addr}{items:Array Value}{vl vu:Value}{lo hi:Option Int}{Q:Value->Shared->Prop}(ht:IsTup s.heap t items) (hs:s.heap.IsSliceOf sl vl vu .none) (pl:IsPart vl lo) (pu:IsPart vu hi)
  (h1:Dn lo hi items.toList=items.toList->Q (.ref t) s)
  (h2:Q (.ref s.heap.objs.size) {s with heap:=s.heap.push {cls:=.type "tuple",data:=.seq (Dn lo hi items.toList).toArray}})
  (hsz:items.size<=sizeLine):wpAny G.M A (getItem (.ref t) (.ref sl)) Q E s:=by
 have hdrop:sizeOk (.seq (Dn lo hi items.toList).toArray):=by
  show(Dn lo hi items.toList).toArray.size<=sizeLine
  rw[List.size_toArray];exact Nat.le_trans (Hb ..) (by rw[Array.length_toList];exact hsz)
 apply yo;intro _ k0
 obtain⟨os,hos,hcs,hds⟩:=id hs;apply k0
 have hTs:s.TypeIs (.ref sl) "slice":=⟨os,hos,hcs⟩
 have cr:=J3 (v:=lo) (d:=0) (n:=(items.size:Int)) (by omega) (by omega) (by omega);have pick:((List.range (By hi items.size items.size - By lo 0 items.size).toNat).filterMap λ(k:Nat)=>items[(By lo 0 items.size+(k:Int)*1).toNat]?)=Dn lo hi items.toList:=by
  have:=Qc lo hi items.toList
  simp only[Array.length_toList,To cr.1,List.filterMap_map]at this;simp only[←this];congr 1
  funext k
  have e:(By lo 0 items.size+(k:Int)*1).toNat=(By lo 0 items.size).toNat+k:=by omega
  simp only[e];simp
 unfold getItem
 try with_reducible refine wpAny_holding ?_
 first|refine wpAny_bind (wpAny_pure ?_)|skip
 refine wpAny_bind (wpAny_sequenceKey ht.typeIs (by decide) ?_)
 refine wpAny_bind (wpAny_callSpecial?_slot (name:=Str.ofString "__getitem__") ht.typeIs slot_tuple_getitem
  (wpAny_call_entry slot_tuple_getitem ht.typeIs entry_tuple_getitem ?_ (args_tuple_getitem _ _)))
 show wpAny _ _ (Builtin.Tuple.tupleItemsOf (.ref t) >>= _) _ _ s
 refine wpAny_bind (tupleItemsOf_ ht ?_)
 refine wpAny_bind (wpAny_typeOf hTs ?_)
 rw[if_pos (by decide)];refine wpAny_bind (m:=Builtin.Slice.sliceApplied (.ref sl) (pure (items.size:Int))) ?_
 refine wpAny_bind (wpAny_bind (wpAny_field hos hds (x:=vl) rfl (wpAny_bind (wpAny_field hos hds (x:=vu) rfl (wpAny_bind (wpAny_field hos hds (x:=.none) rfl (wpAny_pure ?_)))))))
 refine wpAny_bind (slicePart_none ?_)
 rw[if_neg (by decide)];refine wpAny_bind (Um pl (wpAny_bind (Um pu (wpAny_bind (wpAny_pure ?_)))))
 show wpAny _ _ (match Builtin.Slice.sliceAdjust lo hi 1 (items.size:Int)with|(lo,hi)=>pure (lo,(1:Int),Builtin.Slice.slicePlaces lo hi 1)) _ _ s
 rw[zAB];show wpAny _ _ (pure (By lo 0 items.size,(1:Int),Builtin.Slice.slicePlaces (By lo 0 items.size) (By hi items.size items.size) 1)) _ _ s
 rw[Zs];refine wpAny_pure ?_
 by_cases hw:(By lo 0 items.size==0&&(1:Int)==1&&(By hi items.size items.size - By lo 0 items.size).toNat==items.size)=true
 ·show wpAny _ _ (if(By lo 0 items.size==0&&(1:Int)==1&&(By hi items.size items.size - By lo 0 items.size).toNat==items.size)=true then _ else _) _ _ s
  rw[if_pos hw];refine wpAny_bind (wpAny_bind (wpAny_typeOf ht.typeIs (wpAny_pure ?_)))
  rw[if_pos (by decide)];refine wpAny_bind (wpAny_rule (wpAny_pure ⟨_,rfl,wpAny_pure (h1 ?_)⟩))
  simp only[Bool.and_eq_true,beq_iff_eq]at hw;unfold Dn;rw[Array.length_toList,hw.2,hw.1.1];exact List.take_of_length_le (by rw[Array.length_toList.symm];exact Nat.le_refl _)
 ·show wpAny _ _ (if(By lo 0 items.size==0&&(1:Int)==1&&(By hi items.size items.size - By lo 0 items.size).toNat==items.size)=true then _ else _) _ _ s
  rw[if_neg hw];rw[pick]
  first
   |exact wpAny_bind (m:=Builtin.Tuple.tupleExact _) (wpAny_newObj_type (wpAny_pure ⟨_,rfl,wpAny_pure h2⟩) hdrop)
   |exact wpAny_bind (m:=Builtin.Tuple.tupleExact _) (wpAny_newObj_type (wpAny_bind (wpAny_pure (wpAny_pure ⟨_,rfl,wpAny_pure h2⟩))) hdrop)
theorem Sc{P:Prop}{α:Type}{c:Prop} [Decidable c] {a:O8 α}(hb:(if c then a else .bot)≠.bot) (w:c->(if c then a else .bot)=a->P):P:=by
 by_cases z:c
 ·exact w z (if_pos z)
 ·exact absurd (if_neg z) hb
theorem zCG{P:Prop}{d:D}{l h:Option Int}{st:St}(hb:Gv d l h st≠.bot) (w1:∀k ds,d=.ref k->st.sto[k]? =some (.list ds)->ds.length<=sizeLine->Gv (.ref k) l h st=D2 (Dn l h ds) st->P)
  (w2:∀ds,d=.tup ds->ds.length<=sizeLine->Gv (.tup ds) l h st=.ok (.tup (Dn l h ds)) st->P):P:=by
 cases d<;>first|exact absurd rfl hb|skip
 ·rename_i ds;have hz:ds.length<=sizeLine:=Ew hb
  exact w2 ds rfl hz (C6 hz)
 ·rename_i k;have e:Gv (.ref k) l h st=Nn st.sto[k]? λds=>if ds.length<=sizeLine then D2 (Dn l h ds) st else .bot:=by
   generalize ho:st.sto[k]? =o
   unfold Gv;dsimp only;rw[ho]
   cases o with
   |none=>rfl
   |some o=>cases o<;>rfl
  rw[e]at hb;refine Hv hb λds e1 e2=>?_
  rw[e2]at hb;exact Sc hb λhz e3=>w1 k ds rfl e1 hz (e.trans (e2.trans e3))
theorem Zv{d:D}{o i:Value}{p:Option Int×Option Int}{value:Expr}{lo hi:Option Expr}{pp:Pos}(K:Ok G C A P env s ρ st) (r1:Cn G s.heap ρ d o) (r2:zLH s.heap ρ p i):
  At G A env s ρ st (RV G) (subscriptTail value (.Slice lo hi none pp) o i) (Gv d p.1 p.2):=λhb=>by
 obtain⟨a,vl,vu,rfl,hs,pl,pu⟩:=r2;have hsub:∀o,subscripted (.Slice lo hi none pp) false o (.ref a)=operate [.ref a,o] (getItem o (.ref a)):=λ_=>rfl
 refine zCG hb (λk ds ed e hz ee=>?_) λds ed hz ee=>?_
 ·subst ed;rw[ee];refine Ob r1 λal ev e1=>M6 K.inv e1 e λvs n hl r=>?_
  subst ev;have hl:s.heap.IsList al vs:=⟨_,hl,rfl,n,rfl⟩
  refine tail_any hl.typeIs slot_list_getitem.lookup (wpAny_getItem_list_slice hl hs pl pu .none (by simp) ?_ (by rw[r.size];exact hz)) (hsub _)
  rw[Ry];exact Et (vs:=(Dn p.1 p.2 vs.toList).toArray) (n:=0) K.inv (B7.of_all2 (r.all2.cut _ _)) s.toks
 ·subst ed;rw[ee];refine Sm r1 λal vs n ev hna ho rr=>?_
  subst ev;have ht:IsTup s.heap al vs:=⟨_,ho,rfl,n,rfl⟩
  refine tail_any ht.typeIs slot_tuple_getitem.lookup (zAH ht hs pl pu (λe=>?_) ?_ (by rw[rr.size];exact hz)) (hsub _)
  ·exact⟨ρ,.tup (Dn p.1 p.2 ds),st.sto,rfl,K.inv.tok s.toks,Ev.refl,⟨al,vs,rfl,hna,⟨n,ho⟩,by rw[←e];exact B7.of_all2 (rr.all2.cut _ _)⟩⟩
  ·have g:=B8.push s.heap (W2 (Dn p.1 p.2 vs.toList).toArray 0);exact⟨ρ,.tup (Dn p.1 p.2 ds),st.sto,rfl,K.inv.grow g B5 s.toks,g.ev B5,⟨_,(Dn p.1 p.2 vs.toList).toArray,rfl,K.inv.size_notin,⟨0,Heap.get?_push_size _ rfl⟩,B7.of_all2 ((B7.mono g.stb _ _ rr).all2.cut _ _)⟩⟩
theorem zC0{v:Expr}{lo hi:Option Expr}{p pos:Pos}{m:Mn D}{ml mh:Option (Mn D)}(h:SE G C v m) (h1:SO G C lo ml) (h2:SO G C hi mh):SE G C (.Subscript v (.Slice lo hi none p) pos) (G5 m ml mh):=.mk <| λA P env s ρ st K=>by
 refine At.ofEq (t':=do let o ←eval v env;let i ←holding [o] (eval (.Slice lo hi none p) env);standAt pos;subscriptTail v (.Slice lo hi none p) o i) (by rw[eval_Subscript];rfl) ?_
 refine At.bind K (h.run A P env s ρ st K) λo s' ρ' d σ' K' x r1=>?_
 refine At.bind K' (At.hold (zBP h1 h2 K')) λi s'' ρ'' q σ'' K'' x2 r2=>?_
 exact At.stand (Zv (lo:=lo) (hi:=hi) (value:=v) K'' (Cn.mono (x2.stb K'.inv .nil) _ _ r1) r2)
noncomputable def Au:D->D->Mn D
 |.ref a,.ref b=>λst=>match st.sto[a]?,st.sto[b]? with
  |some (.list x),some (.list y)=>if x.length+y.length<=sizeLine then D2 (x++y) st else .bot
  |_,_=>.bot
 |.tup x,.tup y=>if x.length+y.length<=sizeLine then ret1 (.tup (x++y))else botM
 |a,b=>Xy a b
theorem zDg{P:Prop}{d1 d2:D}(k1:∀a b,d1=.ref a->d2=.ref b->P) (k2:∀x y,d1=.tup x->d2=.tup y->P) (k3:Au d1 d2=Xy d1 d2->P):P:=by
 cases d1 with
 |ref a=>cases d2<;>first|exact k1 _ _ rfl rfl|exact k3 rfl
 |tup x=>cases d2<;>first|exact k2 _ _ rfl rfl|exact k3 rfl
 |_=>exact k3 rfl
theorem zEw{P:Prop}{ka kb:Nat}{st:St}(hb:Au (.ref ka) (.ref kb) st≠.bot) (w:∀x y,st.sto[ka]? =some (.list x)->st.sto[kb]? =some (.list y)->x.length+y.length<=sizeLine->Au (.ref ka) (.ref kb) st=D2 (x++y) st->P):P:=by
 have e:Au (.ref ka) (.ref kb) st=Nn st.sto[ka]? λx=>Nn st.sto[kb]? λy=>if x.length+y.length<=sizeLine then D2 (x++y) st else .bot:=by
  generalize h1:st.sto[ka]? =o
  generalize h2:st.sto[kb]? =q
  unfold Au;dsimp only;rw[h1,h2]
  cases o with
  |none=>rfl
  |some o=>
   cases o with
   |list x=>
    cases q with
    |none=>rfl
    |some q=>cases q<;>rfl
   |_=>rfl
 rw[e]at hb;refine Hv hb λx e1 e2=>?_
 rw[e2]at hb;refine Hv hb λy e3 e4=>?_
 rw[e4]at hb;exact Sc hb λhz e5=>w x y e1 e3 hz (e.trans (e2.trans (e4.trans e5)))
theorem zEY{ka kb:Nat}{v1 v2:Value}(K:Ok G C A P env s ρ st) (r1:Cn G s.heap ρ (.ref ka) v1) (r2:Cn G s.heap ρ (.ref kb) v2):At G A env s ρ st (RV G) (binaryOp .Add v1 v2) (Au (.ref ka) (.ref kb)):=λhb=>by
 refine zEw hb λx y qa qb hz e=>Ob r1 λa e1 ea=>Ob r2 λb e2 eb=>M6 K.inv ea qa λvs n1 hl1 rr1=>M6 K.inv eb qb λws n2 hl2 rr2=>?_
 subst e1 e2;rw[e];exact PySem.P.add_list hl1 hl2 (Et (vs:=vs++ws) (n:=0) K.inv (B7.of_all2 (by rw[Array.toList_append];exact rr1.all2.append rr2.all2)) s.toks) (by rw[rr1.size,rr2.size];exact hz)
theorem Wz{G:Gd}{h:Heap}{ρ:List Addr}{x:List D}{vs:Array Value}(e1:vs.isEmpty=true) (r:B7 G h ρ x vs.toList):x=[]/\vs= #[]:=by
 have e0:vs= #[]:=Array.isEmpty_iff.mp e1
 subst e0;exact⟨List.eq_nil_of_length_eq_zero r.size.symm,rfl⟩
theorem zDh{x y:List D}{v1 v2:Value}(K:Ok G C A P env s ρ st) (r1:Cn G s.heap ρ (.tup x) v1) (r2:Cn G s.heap ρ (.tup y) v2):At G A env s ρ st (RV G) (binaryOp .Add v1 v2) (Au (.tup x) (.tup y)):=λhb=>by
 have hz:x.length+y.length<=sizeLine:=Ew hb
 have e:Au (.tup x) (.tup y) st=.ok (.tup (x++y)) st:=C6 hz
 rw[e];refine Sm r1 λa vs n1 e1 na h1 rr1=>Sm r2 λb ws n2 e2 nb h2 rr2=>?_
 subst e1 e2;by_cases e1:vs.isEmpty=true
 ·obtain⟨rfl,rfl⟩:=Wz e1 rr1;exact concat_meets ⟨_,h1,rfl⟩ ⟨_,h2,rfl⟩ noFill_tuple_add seq_tuple_add PySem.F.slot_tuple_add PySem.F.entry_tuple_add (PySem.F.args_tuple_add_2 _ _) (tuple_addW0 a b #[] ws n1 n2 none none #[] #[] rfl) ⟨h1,h2,⟨ρ,.tup y,st.sto,rfl,K.inv.tok s.toks,Ev.refl,⟨b,ws,rfl,nb,⟨n2,h2⟩,rr2⟩⟩⟩
 by_cases e2:ws.isEmpty=true
 ·obtain⟨rfl,rfl⟩:=Wz e2 rr2;rw[List.append_nil];exact concat_meets ⟨_,h1,rfl⟩ ⟨_,h2,rfl⟩ noFill_tuple_add seq_tuple_add PySem.F.slot_tuple_add PySem.F.entry_tuple_add (PySem.F.args_tuple_add_2 _ _) (tuple_addW1 a b vs #[] n1 n2 none none #[] #[] e1 rfl) ⟨h1,h2,⟨ρ,.tup x,st.sto,rfl,K.inv.tok s.toks,Ev.refl,⟨a,vs,rfl,na,⟨n1,h1⟩,rr1⟩⟩⟩
 have g:=B8.push s.heap (W2 (vs++ws) 0);exact PySem.P.add_tuple h1 h2 e1 e2 ⟨ρ,.tup (x++y),st.sto,rfl,K.inv.grow g B5 s.toks,g.ev B5,⟨_,vs++ws,rfl,K.inv.size_notin,⟨0,Heap.get?_push_size _ rfl⟩,B7.of_all2 (by rw[Array.toList_append];exact(B7.mono g.stb _ _ rr1).all2.append (B7.mono g.stb _ _ rr2).all2)⟩⟩ (by rw[rr1.size,rr2.size];exact hz)
theorem zEB:H8 G .Add Au:=λC A P env s ρ st d1 d2 v1 v2 K r1 r2=>zDg (d1:=d1) (d2:=d2) (λa b e1 e2=>by subst e1 e2;exact zEY K r1 r2) (λx y e1 e2=>by subst e1 e2;exact zDh K r1 r2) λe=>by rw[e];exact zBl C A P env s ρ st d1 d2 v1 v2 K r1 r2
end
end
section
open Builtin.Str
section
variable {G:Gd}{C:Cx}{A:Around}{P:List Addr}{env:Env}{s:Shared}{ρ:List Addr}{st:St}
noncomputable def V0 {α:Type}(n:Int) (l:List α):List α:=(List.replicate n.toNat l).flatten
noncomputable def Ep:D->D->Mn D
 |.ref k,.int n=>λst=>match st.sto[k]? with
  |some (.list ds)=>if F8 n=true/\ds.length*n.toNat<=16777216 then D2 (V0 n ds) st else .bot
  |_=>.bot
 |a,b=>zAR a b
theorem C2.rep{α β:Type}{R:α->β->Prop}{l:List α}{l':List β}(h:C2 R l l'):∀k:Nat,C2 R (List.replicate k l).flatten (List.replicate k l').flatten
 |0=>by simp;exact .nil
 |k+1=>by exact h.append (h.rep k)
theorem zEf{l:Addr}{items:Array Value}{k:Nat}{x:Int}{u:Tok}{Q:Value->Shared->Prop}{E:Value->Shared->Prop}
  (hl:s.heap.get? l=some (G2 items k)) (hi:F8 x=true) (hsz:items.size*x.toNat<=16777216)
  (h:Q (.ref s.heap.objs.size) {s with heap:=s.heap.push (G2 (V0 x items.toList).toArray 0)}):wpAny G.M A (binaryOp .Mult (.ref l) (.int x u)) Q E s:=by
 have hi':=Fq.mp hi;have e:List.foldl (λx1 x2=>x1++x2) #[] (List.replicate (if items.isEmpty=true then 0 else x.toNat) items)=(V0 x items.toList).toArray:=by
  rw[listMul_foldl];congr 1
  simp only[List.nil_append,V0];split
  ·rename_i h;rw[Array.isEmpty_iff.mp h];simp
  ·rfl
 refine wpAny_binaryOp_repeat_ref (T:="list") (U:="int") (by decide) ⟨_,hl,rfl⟩ (λs'=>typeIs_int s' x u) noFill_list_mul F.fills_int_mul F.slot_int_rmul repeat_list F.slot_int_index.lookup
  (call_meets F.slot_int_rmul (typeIs_int s x u) F.entry_int_rmul (F.args_int_rmul_2 _ _) (int___rmul___int_list x u l items k)
   ⟨hl,rfl,⟨_,hl,rfl⟩,call_meets F.slot_list_mul ⟨_,hl,rfl⟩ F.entry_list_mul (F.args_list_mul_2 _ _)
    (AutoListH.list___mul___list_int_3 l items k x u (by simp[Builtin.List.listFitsIndex];(clear e h hsz hi hl;omega)) (by(clear e hi' h hi hl;omega)) (by simp[Builtin.List.listTooLong,sizeLine];exact Aw λZ=>A8 [_] [A7 (.n 16777216) x0,A5 x0 (.n 16777216)] rT Z hsz))
    ⟨hl,?_⟩⟩)
 rw[e];exact h
theorem zEk{P:Prop}{d1 d2:D}(k1:∀k n,d1=.ref k->d2=.int n->P) (k3:Ep d1 d2=zAR d1 d2->P):P:=by
 cases d1 with
 |ref a=>cases d2<;>first|exact k1 _ _ rfl rfl|exact k3 rfl
 |_=>exact k3 rfl
theorem zD0{P:Prop}{k:Nat}{n:Int}{st:St}(hb:Ep (.ref k) (.int n) st≠.bot) (w:∀ds,st.sto[k]? =some (.list ds)->(F8 n=true/\ds.length*n.toNat<=16777216)->Ep (.ref k) (.int n) st=D2 (V0 n ds) st->P):P:=by
 have e:Ep (.ref k) (.int n) st=Nn st.sto[k]? λds=>if F8 n=true/\ds.length*n.toNat<=16777216 then D2 (V0 n ds) st else .bot:=by
  generalize ho:st.sto[k]? =o
  unfold Ep;dsimp only;rw[ho]
  cases o with
  |none=>rfl
  |some o=>cases o<;>rfl
 rw[e]at hb;refine Hv hb λds e1 e2=>?_
 rw[e2]at hb;exact Sc hb λhz e3=>w ds e1 hz (e.trans (e2.trans e3))
theorem zEp{k:Nat}{n:Int}{v1 v2:Value}(K:Ok G C A P env s ρ st) (r1:Cn G s.heap ρ (.ref k) v1) (r2:Cn G s.heap ρ (.int n) v2):At G A env s ρ st (RV G) (binaryOp .Mult v1 v2) (Ep (.ref k) (.int n)):=λhb=>by
 refine zD0 hb λds e hz ee=>Ob r1 λa e1 ea=>zEq r2 λu e2=>M6 K.inv ea e λvs nn hl r=>?_
 subst e1 e2;rw[ee];exact zEf hl hz.1 (by rw[r.size];exact hz.2) (Et (vs:=(V0 n vs.toList).toArray) (n:=0) K.inv (B7.of_all2 (r.all2.rep _)) s.toks)
theorem zDE:H8 G .Mult Ep:=λC A P env s ρ st d1 d2 v1 v2 K r1 r2=>zEk (d1:=d1) (d2:=d2) (λk n e1 e2=>by subst e1 e2;exact zEp K r1 r2) λe=>by rw[e];exact zBq C A P env s ρ st d1 d2 v1 v2 K r1 r2
noncomputable def zDx:D->D->Mn D
 |.bool a,.bool b=>ret1 (.bool (a==b))
 |a,b=>zHf a b
noncomputable def zDG:D->D->Mn D
 |.bool a,.bool b=>ret1 (.bool (a !=b))
 |a,b=>zGx a b
theorem zA4{P:Prop}{d1 d2:D}(k1:∀a b,d1=.bool a->d2=.bool b->P) (k2:zDx d1 d2=zHf d1 d2->zDG d1 d2=zGx d1 d2->P):P:=by
 cases d1 with
 |bool a=>cases d2<;>first|exact k1 _ _ rfl rfl|exact k2 rfl rfl
 |_=>exact k2 rfl rfl
theorem zDp:Ed G .Eq zDx:=λC A P env s ρ st d1 d2 v1 v2 K r1 r2=>zA4 (d1:=d1) (d2:=d2) (λa b e1 e2=>by subst e1 e2;cases(show v1=.bool a from r1);cases(show v2=.bool b from r2);exact At.leaf (λhb=>eq_bool ⟨_,rfl,B8.same0,rfl⟩) K) λe _=>by rw[e];exact zDB C A P env s ρ st d1 d2 v1 v2 K r1 r2
theorem zDr:Ed G .NotEq zDG:=λC A P env s ρ st d1 d2 v1 v2 K r1 r2=>zA4 (d1:=d1) (d2:=d2) (λa b e1 e2=>by subst e1 e2;cases(show v1=.bool a from r1);cases(show v2=.bool b from r2);exact At.leaf (λhb=>ne_bool ⟨_,rfl,B8.same0,rfl⟩) K) λ_ e=>by rw[e];exact zD6 C A P env s ρ st d1 d2 v1 v2 K r1 r2
end
end
noncomputable def E0:Bool->Keyed->Array Keyed->Nat->Nat->Nat->StateT SortSt Sem (Option Nat):=sortPriv% PySem.Builtin.gallop
noncomputable def Ln:Array Keyed->Array Keyed->StateT SortSt Sem (Array Keyed):=sortPriv% PySem.Builtin.mergeLo
noncomputable def M1:Array Keyed->Array Keyed->StateT SortSt Sem (Array Keyed):=sortPriv% PySem.Builtin.mergeHi
structure SX where
 prog:Program
 w:World
 A:Around
 E:Value->Shared->Prop
 s:Shared
noncomputable def SW (X:SX){α:Type}(m:StateT SortSt Sem α) (Q:α->SortSt->Prop) (st:SortSt):Prop:=wpS (model X.prog X.w) X.A X.E X.s m Q st
section
variable {X:SX}
theorem Ai{α:Type}{a:α}{Q:α->SortSt->Prop}{st:SortSt}(h:Q a st):SW X (pure a:StateT SortSt Sem α) Q st:=wpS_pure h
theorem Ae{α β:Type}{m:StateT SortSt Sem α}{f:α->StateT SortSt Sem β}{Q:β->SortSt->Prop}{st:SortSt}
  (h:SW X m (λa st'=>SW X (f a) Q st') st):SW X (m >>= f) Q st:=wpS_bind h
theorem Bz{α:Type}{m:StateT SortSt Sem α}{Q Q':α->SortSt->Prop}{st:SortSt}(h:SW X m Q st) (hq:∀a st',Q a st'->Q' a st'):SW X m Q' st:=wpS_mono h hq
theorem Gr{Q:SortSt->SortSt->Prop}{st:SortSt}(h:Q st st):SW X (get:StateT SortSt Sem SortSt) Q st:=wpS_get h
theorem Dk{f:SortSt->SortSt}{Q:PUnit->SortSt->Prop}{st:SortSt}(h:Q ⟨⟩ (f st)):SW X (modify f:StateT SortSt Sem PUnit) Q st:=wpS_modify h
theorem zGb{st':SortSt}{Q:PUnit->SortSt->Prop}{st:SortSt}(h:Q ⟨⟩ st'):SW X (set st':StateT SortSt Sem PUnit) Q st:=by
 unfold SW wpS;rw[StateT.run_set];exact wpAny_pure ⟨rfl,h⟩
theorem Kc{n:String}{Q:Unit->SortSt->Prop}{st:SortSt}(h:Q () st):SW X (liftM (rule n):StateT SortSt Sem Unit) Q st:=wpS_lift (wpAny_rule ⟨rfl,h⟩)
theorem Ko{β:Type}(f:Nat->β->StateT SortSt Sem (ForInStep β)) (I:List Nat->β->SortSt->Prop) (Q:β->SortSt->Prop)
  (hstep:∀x rest b st,I (x::rest) b st->SW X (f x b) (λr st'=>match r with|.done b'=>Q b' st'|.yield b'=>I rest b' st') st)
  (hend:∀b st,I [] b st->Q b st):∀(l:List Nat) (b:β) (st:SortSt),I l b st->SW X (forIn l b f) Q st
 |[],b,st,h=>by rw[List.forIn_nil];exact Ai (hend _ _ h)
 |x::rest,b,st,h=>by
  rw[List.forIn_cons];refine Ae (Bz (hstep x rest b st h) λr st' h'=>?_)
  cases r with
  |done b'=>exact Ai h'
  |yield b'=>exact Ko f I Q hstep hend rest b' st' h'
theorem Do{β:Type}{a b:Nat}{f:Nat->β->StateT SortSt Sem (ForInStep β)}(I:Nat->β->SortSt->Prop){Q:β->SortSt->Prop}{c:β}{st:SortSt}
  (h:I a c st) (hab:a<=b) (hstep:∀i c st,a<=i->i<b->I i c st->SW X (f i c) (λr st'=>match r with|.done c'=>Q c' st'|.yield c'=>I (i+1) c' st') st)
  (hend:∀c st,I b c st->Q c st):SW X (forIn [a:b] c f) Q st:=by
 simp only[Std.Legacy.Range.forIn_eq_forIn_range'];have hsz:([a:b]:Std.Legacy.Range).size=b - a:=by simp[Std.Legacy.Range.size]
 show SW X (forIn (List.range' a ([a:b]:Std.Legacy.Range).size 1) c f) Q st
 rw[hsz];refine Ko f (λl c st=>∃i,a<=i/\i<=b/\l=List.range' i (b - i) 1/\I i c st) Q ?_ ?_ _ c st ⟨a,Nat.le_refl _,hab,rfl,h⟩
 ·rintro x rest c st ⟨i,hai,hib,hl,hI⟩
  have hlt:i<b:=by
   rcases Nat.lt_or_ge i b with h'|h'
   ·exact h'
   ·rw[show b - i=0 by exact Ha (λZ=>A8 [_] [A7 x0 (.n 0),A5 (.n 0) x0] rT Z (lq5 _)) (λZ=>A8 [_,_,_] [A7 (.n 0) x0,A5 x1 x2,B9 (.a x0 x2) x1] rT Z h' (Aq (Aw λY=>A8 [_,_] [A7 x0 x1,A5 x1 x0] rT Y hib)))]at hl;simp at hl
  obtain⟨n,hn⟩:∃n,b - i=n+1:=⟨b - i - 1,by exact Ha (λZ=>A8 [_,_] [A7 x0 (.a x1 (.n 1)),B9 (.a x1 (.n 1)) x0] rT Z (Aq (Aw λY=>A8 [_,_,_] [A7 x0 (.n 1),A7 x2 x1,A5 x1 (.a x0 x2)] rT Y hlt (Ax _ _)))) (λZ=>A8 [_,_] [A7 (.a x1 (.n 1)) x0,A5 x0 (.a x1 (.n 1))] rT Z (Ax _ _))⟩
  rw[hn,List.range'_succ]at hl;obtain⟨rfl,rfl⟩:=List.cons.inj hl;refine Bz (hstep x c st hai hlt hI) λr st' h'=>?_
  cases r with
  |done c'=>exact h'
  |yield c'=>exact⟨x+1,by exact Aw λZ=>A8 [_,_] [A7 (.a x1 (.n 1)) x0,A5 x0 x1] rT Z hai,by exact Aw λZ=>A8 [_,_] [A7 x0 (.a x1 (.n 1)),A7 x1 x0] rT Z hlt,by congr 1;exact Ha (λZ=>A8 [_,_,_,_,_] [A7 x0 x1,B9 x2 (.a x0 (.n 1)),A5 x3 (.a x2 x4),B9 (.a x1 (.a x4 (.n 1))) x3] rT Z hn (Ax _ _) (Aq (Aw λY=>A8 [_,_] [A7 x0 (.a x1 (.n 1)),A7 x1 x0] rT Y hlt))) (λZ=>A8 [_,_,_,_,_] [A7 x1 x0,Gl x2 (.a x0 (.n 1)),A5 x3 (.a x1 (.a x4 (.n 1))),B9 (.a x2 x4) x3] rT Z hn (Ax _ _) (Aq (Aw λY=>A8 [_,_] [A7 x0 x1,A5 x1 x0] rT Y hib))),h'⟩
 ·intro c st h2z;apply yo;intro _ k0
  obtain⟨i,hai,hib,hl,hI⟩:=h2z;apply k0
  have:i=b:=by
   rcases Nat.lt_or_ge i b with h'|h'
   ·obtain⟨n,hn⟩:∃n,b - i=n+1:=⟨b - i - 1,by exact Ha (λZ=>A8 [_,_] [A7 x0 (.a x1 (.n 1)),B9 (.a x1 (.n 1)) x0] rT Z (Aq (Aw λY=>A8 [_,_,_] [A7 x0 (.n 1),A7 x2 x1,A5 x1 (.a x0 x2)] rT Y h' (Ax _ _)))) (λZ=>A8 [_,_] [A7 (.a x1 (.n 1)) x0,A5 x0 (.a x1 (.n 1))] rT Z (Ax _ _))⟩
    rw[hn,List.range'_succ]at hl;simp at hl
   ·exact Ha (λZ=>A8 [_,_] [A7 x1 x0,A5 x0 x1] rT Z h') (λZ=>A8 [_,_] [A7 x0 x1,A5 x1 x0] rT Z hib)
  subst this;exact hend _ _ hI
theorem C7{arr:Array Keyed}{i:Nat}{p:Keyed}{Q:Keyed->SortSt->Prop}{st:SortSt}(e:arr[i]? =some p) (h:Q p st):SW X (elem' arr i) Q st:=by
 rw[elem'_eq,e];exact Ai h
noncomputable def Sp (X:SX) (k:Keyed->Int) (κ:SortKind) (S:Keyed->Prop):Prop:=
 ∀x y,S x->S y->∀(st:SortSt) (Q:Option Bool->SortSt->Prop),kindOf st=κ->Q (some (decide (k x<k y))) st->SW X (lt' x y) Q st
variable {k:Keyed->Int}{κ:SortKind}{S:Keyed->Prop}
theorem Ys(H:Sp X k κ S){left:Bool}{key p:Keyed}{arr:Array Keyed}{i:Nat}{st:SortSt}{Q:Option Bool->SortSt->Prop}(hk:kindOf st=κ) (hkey:S key) (e:arr[i]? =some p) (hp:S p)
  (h:Q (some (if left=true then decide (k p<k key)else !decide (k key<k p))) st):
  SW X (do let x ←elem' arr i;if left=true then lt' x key else return (←lt' key x).map (!·)) Q st:=by
 refine Ae (C7 e ?_)
 cases left with
 |true=>exact H p key hp hkey st Q hk h
 |false=>exact Ae (H key p hkey hp st _ hk (Ai h))
theorem Be{α:Type}{c:Prop} [Decidable c] {m1 m2:StateT SortSt Sem α}{Q:α->SortSt->Prop}{st:SortSt}(h1:c->SW X m1 Q st) (h2:¬c->SW X m2 Q st):SW X (if c then m1 else m2) Q st:=by
 by_cases h:c
 ·rw[if_pos h];exact h1 h
 ·rw[if_neg h];exact h2 h
noncomputable def zCa (left:Bool) (key:Keyed) (arr:Array Keyed) (i:Nat):StateT SortSt Sem (Option Bool):=do let x ←elem' arr i;if left=true then lt' x key else return (←lt' key x).map (!·)
noncomputable abbrev Ny:=Option (Option Nat)×Nat×Nat
noncomputable def zJN (left:Bool) (key:Keyed) (arr:Array Keyed) (base:Nat) (c:Ny):StateT SortSt Sem (ForInStep Ny):=
 if c.2.1≥c.2.2 then pure (.done (none,c.2.1,c.2.2))
 else do
  match ←zCa left key arr (base+(c.2.1+(c.2.2 - c.2.1) / 2))with
  |some more=>if more=true then pure (.yield (none,c.2.1+(c.2.2 - c.2.1) / 2+1,c.2.2))else pure (.yield (none,c.2.1,c.2.1+(c.2.2 - c.2.1) / 2))
  |_=>pure (.done (some none,c.2.1,c.2.2))
noncomputable def zLD (left:Bool) (key:Keyed) (arr:Array Keyed) (base hint m:Nat) (c:Ny):StateT SortSt Sem (ForInStep Ny):=
 if c.2.2≥m then pure (.done (none,c.2.1,c.2.2))
 else do
  match ←zCa left key arr (base+(hint+c.2.2))with
  |some more=>if(!more)=true then pure (.done (none,c.2.1,c.2.2))else pure (.yield (none,c.2.2,2*c.2.2+1))
  |_=>pure (.done (some none,c.2.1,c.2.2))
noncomputable def zKc (left:Bool) (key:Keyed) (arr:Array Keyed) (base hint m:Nat) (c:Ny):StateT SortSt Sem (ForInStep Ny):=
 if c.2.2≥m then pure (.done (none,c.2.1,c.2.2))
 else do
  match ←zCa left key arr (base+(hint - c.2.2))with
  |some found=>if found=true then pure (.done (none,c.2.1,c.2.2))else pure (.yield (none,c.2.2,2*c.2.2+1))
  |_=>pure (.done (some none,c.2.1,c.2.2))
structure zIa (X:SX) (left:Bool) (key:Keyed) (arr:Array Keyed) (base n:Nat) (st:SortSt) (B:Nat->Bool):Prop where
 ask:∀(i:Nat) (Q:Option Bool->SortSt->Prop),i<n->Q (some (B i)) st->SW X (zCa left key arr (base+i)) Q st
 anti:∀i j,i<=j->j<n->B j=true->B i=true
 anti':∀i j,i<=j->j<n->B i=false->B j=false
section
variable {left:Bool}{key:Keyed}{arr:Array Keyed}{base n:Nat}{st:SortSt}{B:Nat->Bool}
noncomputable def zDn (n:Nat) (B:Nat->Bool) (c:Ny):Prop:=c.1=none/\c.2.1<=c.2.2/\c.2.2<=n/\(∀i,i<c.2.1->B i=true)/\(∀i,c.2.2<=i->i<n->B i=false)
theorem zGU{l r:Nat}(h:l<r):l<=l+(r - l) / 2/\l+(r - l) / 2<r:=by exact⟨Aw λZ=>A8 [_,_] [A7 (.a x0 x1) x0,A5 (.n 0) x1] rT Z (lq5 _),Cz λZ=>A8 [_,_,_,_] [Yq 2 x1 (.a x0 x2),A7 x0 x1,A5 (.m 2 x2) x3,B9 (.a x3 x0) x1] rT Z h (Mk _ _) (Aq (Aw λY=>A8 [_,_] [A7 x1 x0,A7 x0 x1] rT Y h))⟩
theorem zKK{l r m n x:Nat}(h:l<=m) (hm:r - l<=n - x):r - (m+1)<=n - (x+1):=Nat.le_trans (Nat.sub_le_sub_left (Nat.succ_le_succ h) r) (Nat.sub_le_sub_right hm 1)
theorem zK0{l r m n x:Nat}(h:m<r) (hm:r - l<=n - x):m - l<=n - (x+1):=by
 refine Nat.le_trans (Nat.sub_le_sub_right (Nat.le_pred_of_lt h) l) ?_
 show r - 1 - l<=_
 rw[Nat.sub_right_comm];exact Nat.sub_le_sub_right hm 1
theorem zL1{hint l o n:Nat}(h2:l<o) (h3:hint+l<n):hint+l+1<=hint+min o (n - hint):=Nat.add_le_add_left (Nat.le_min.mpr ⟨h2,Nat.le_sub_of_add_le (by rw[Nat.add_comm];exact h3)⟩) hint
theorem zLN{hint o n:Nat}(h:hint<n):hint+min o (n - hint)<=n:=Nat.le_trans (Nat.add_le_add_left (Nat.min_le_right _ _) _) (Nat.le_of_eq (Nat.add_sub_cancel' (Nat.le_of_lt h)))
theorem zKq{hint o n i:Nat}(h:hint<n) (hi:hint+min o (n - hint)<=i) (hn:i<n):hint+o<=i:=by
 rcases Nat.le_total o (n - hint)with z|z
 ·rw[Nat.min_eq_left z]at hi;exact hi
 ·rw[Nat.min_eq_right z,Nat.add_sub_cancel' (Nat.le_of_lt h)]at hi;exact absurd hn (Nat.not_lt.mpr hi)
theorem zL2{hint l o:Nat}(h2:l<o) (h3:l<=hint):hint+1 - min o (hint+1)<=hint - l:=by
 rcases Nat.le_total o (hint+1)with z|z
 ·rw[Nat.min_eq_left z];have:=Nat.sub_le_sub_left (Nat.succ_le_of_lt h2) (hint+1);rwa [Nat.succ_eq_add_one,Nat.add_sub_add_right]at this
 ·rw[Nat.min_eq_right z,Nat.sub_self];exact lq5 _
theorem zKz{hint o i:Nat}(hi:i<hint+1 - min o (hint+1)):o<=hint/\i<=hint - o:=by
 rcases Nat.le_total o (hint+1)with h|h
 ·rw[Nat.min_eq_left h]at hi;have h1:o<=hint:=Nat.le_of_lt_succ (Nat.lt_of_sub_pos (Nat.lt_of_le_of_lt (lq5 _) hi))
  simp only[Nat.succ_sub h1]at hi;exact⟨h1,Nat.le_of_lt_succ hi⟩
 ·rw[Nat.min_eq_right h,Nat.sub_self]at hi;exact absurd hi (Nat.not_lt_zero _)
theorem zGn(V:zIa X left key arr base n st B){l r:Nat}(h:zDn n B (none,l,r)){Q:Ny->SortSt->Prop}(hQ:∀c,zDn n B c->c.2.1=c.2.2->Q c st):SW X (forIn [0:n] ((none,l,r):Ny) λ_ c=>zJN left key arr base c) Q st:=by
 refine Do (I:=λx (c:Ny) st'=>st'=st/\zDn n B c/\c.2.2 - c.2.1<=n - x) ⟨rfl,h,by have h2:r<=n:=h.2.2.1;show r - l<=n - 0;exact Aw λZ=>A8 [_,_,_] [A7 x0 x1,A5 x2 x0,A5 x1 x2] rT Z h2 (F9 _ _)⟩ (lq5 _) (λx c st' _ hx h=>?_) λc st' h=>?_
 ·apply yo;intro _ k0
  obtain⟨rfl,⟨h1,h2,h3,h4,h5⟩,hm⟩:=h;apply k0
  refine Be (λg=>Ai (hQ _ ⟨rfl,h2,h3,h4,h5⟩ (Nat.le_antisymm h2 g))) λg=>?_
  obtain⟨m1,m2⟩:=zGU (Nat.lt_of_not_le g);refine Ae (V.ask _ _ (Nat.lt_of_lt_of_le m2 h3) ?_)
  cases hb:B (c.2.1+(c.2.2 - c.2.1) / 2)with
  |true=>exact Ai ⟨rfl,⟨rfl,m2,h3,λi hi=>V.anti i _ (Nat.le_of_lt_succ hi) (Nat.lt_of_lt_of_le m2 h3) hb,h5⟩,zKK m1 hm⟩
  |false=>exact Ai ⟨rfl,⟨rfl,m1,Nat.le_trans (Nat.le_of_lt m2) h3,h4,λi hi hin=>V.anti' _ i hi hin hb⟩,zK0 m2 hm⟩
 ·obtain⟨rfl,h,hm⟩:=h;exact hQ _ h (Nat.le_antisymm h.2.1 (by exact Aw λZ=>A8 [_,_,_,_,_] [A7 x1 x0,A5 x2 x3,A5 x0 (.a x2 x1),B9 (.a x3 x4) x4] rT Z hm (Ax _ _) (Aq (Aw λY=>A8 [_] [A7 x0 x0] rT Y))))
theorem zIi(V:zIa X left key arr base n st B){hint:Nat}(hh:hint<n) (hb:B hint=true){Q:Ny->SortSt->Prop}
  (hQ:∀c:Ny,c.1=none->c.2.1<c.2.2->hint+c.2.1<n->B (hint+c.2.1)=true->(hint+c.2.2<n->B (hint+c.2.2)=false)->Q c st):SW X (forIn [0:n] ((none,0,1):Ny) λ_ c=>zLD left key arr base hint (n - hint) c) Q st:=by
 refine Do (I:=λx (c:Ny) st'=>st'=st/\c.1=none/\c.2.1<c.2.2/\x<c.2.2/\hint+c.2.1<n/\B (hint+c.2.1)=true) ⟨rfl,rfl,Nat.zero_lt_one,Nat.zero_lt_one,hh,hb⟩ (lq5 _) (λx c st' _ hx h=>?_) λc st' h=>?_
 ·obtain⟨rfl,h1,h2,h3,h4,h5⟩:=h;refine Be (λg=>Ai (hQ _ rfl h2 h4 h5 λz=>by have:hint+c.2.2<n:=z;exact False.elim (A8 [_,_,_,_] [A5 x1 x0,A7 (.a x2 x0) x3,A5 x3 (.a x1 x2)] rT g z (Ax _ _)))) λg=>Ae (V.ask _ _ (by exact Cz λZ=>A8 [_,_,_,_] [A5 x1 (.a x0 x2),A7 x2 x3,B9 (.a x3 x0) x1] rT Z (Nat.not_le.mp g) (Aq (Aw λY=>A8 [_,_] [A7 x1 x0,A7 x0 x1] rT Y hh))) ?_)
  cases hb2:B (hint+c.2.2)with
  |true=>exact Ai ⟨rfl,rfl,by dsimp only;exact Cz λZ=>A8 [_,_] [A5 (.a (.m 2 x0) (.n 1)) x0,A7 x1 x0,A5 (.n 0) x1] rT Z h3 (lq5 _),by dsimp only;exact Cz λZ=>A8 [_,_] [A5 (.a (.m 2 x1) (.n 1)) (.a x0 (.n 1)),zCz 2 x0 x1,A5 (.n 0) x0] rT Z h3 (lq5 _),by dsimp only;exact Cz λZ=>A8 [_,_,_,_] [A5 x1 (.a x0 x2),A7 x2 x3,B9 (.a x3 x0) x1] rT Z (Nat.not_le.mp g) (Aq (Aw λY=>A8 [_,_] [A7 x1 x0,A7 x0 x1] rT Y hh)),hb2⟩
  |false=>exact Ai (hQ _ rfl h2 h4 h5 λ_=>hb2)
 ·apply yo;intro _ k0
  obtain⟨rfl,h1,h2,h3,h4,h5⟩:=h;apply k0
  exact hQ _ h1 h2 h4 h5 λz=>by exact False.elim (A8 [_,_,_] [A7 x0 x1,A7 (.a x2 x1) x0,A5 (.n 0) x2] rT h3 z (lq5 _))
theorem zIP(V:zIa X left key arr base n st B){hint:Nat}(hh:hint<n) (hb:B hint=false){Q:Ny->SortSt->Prop}
  (hQ:∀c:Ny,c.1=none->c.2.1<c.2.2->c.2.1<=hint->B (hint - c.2.1)=false->(c.2.2<=hint->B (hint - c.2.2)=true)->Q c st):SW X (forIn [0:n] ((none,0,1):Ny) λ_ c=>zKc left key arr base hint (hint+1) c) Q st:=by
 refine Do (I:=λx (c:Ny) st'=>st'=st/\c.1=none/\c.2.1<c.2.2/\x<c.2.2/\c.2.1<=hint/\B (hint - c.2.1)=false) ⟨rfl,rfl,Nat.zero_lt_one,Nat.zero_lt_one,lq5 _,hb⟩ (lq5 _) (λx c st' _ hx h=>?_) λc st' h=>?_
 ·obtain⟨rfl,h1,h2,h3,h4,h5⟩:=h;refine Be (λg=>Ai (hQ _ rfl h2 h4 h5 λz=>absurd z (Nat.not_le_of_lt g))) λg=>Ae (V.ask _ _ (Nat.lt_of_le_of_lt (Nat.sub_le _ _) hh) ?_)
  cases hb2:B (hint - c.2.2)with
  |true=>exact Ai (hQ _ rfl h2 h4 h5 λ_=>hb2)
  |false=>exact Ai ⟨rfl,rfl,by dsimp only;exact Cz λZ=>A8 [_,_] [A5 (.a (.m 2 x0) (.n 1)) x0,A7 x1 x0,A5 (.n 0) x1] rT Z h3 (lq5 _),by dsimp only;exact Cz λZ=>A8 [_,_] [A5 (.a (.m 2 x1) (.n 1)) (.a x0 (.n 1)),zCz 2 x0 x1,A5 (.n 0) x0] rT Z h3 (lq5 _),Nat.le_of_lt_succ (Nat.lt_of_not_le g),hb2⟩
 ·apply yo;intro _ k0
  obtain⟨rfl,h1,h2,h3,h4,h5⟩:=h;apply k0
  exact hQ _ h1 h2 h4 h5 λz=>by exact False.elim (A8 [_,_,_] [A7 x0 x1,A7 x1 x2,A5 x2 x0] rT hh h3 z)
end
noncomputable def zHE (n:Nat) (left:Bool) (key:Keyed) (arr:Array Keyed) (base lo hi:Nat):StateT SortSt Sem (Option Nat):=do
 let r ←forIn [0:n] ((none,lo,hi):Ny) λ_ c=>zJN left key arr base c
 match r.1 with
 |some v=>pure v
 |none=>pure (some r.2.2)
theorem Yu(left:Bool) (key:Keyed) (arr:Array Keyed) (base n hint:Nat):E0 left key arr base n hint=(do
  match ←zCa left key arr (base+hint)with
  |some right=>
   if right=true then
    let r ←forIn [0:n] ((none,0,1):Ny) λ_ c=>zLD left key arr base hint (n - hint) c
    match r.1 with
    |some v=>pure v
    |none=>zHE n left key arr base (hint+r.2.1+1) (hint+min r.2.2 (n - hint))
   else
    let r ←forIn [0:n] ((none,0,1):Ny) λ_ c=>zKc left key arr base hint (hint+1) c
    match r.1 with
    |some v=>pure v
    |none=>zHE n left key arr base (hint+1 - min r.2.2 (hint+1)) (hint - r.2.1)
  |_=>pure none):=by
 unfold E0;refine bind_congr λr=>?_
 cases r with
 |none=>rfl
 |some b=>
  cases b with
  |true=>
   show(forIn [0:n] ((none,0,1):Ny) _ >>= λr=>_)=(forIn [0:n] ((none,0,1):Ny) _ >>= λr=>_)
   refine congr (congrArg bind (congrArg _ (funext λ_=>funext λc=>rfl))) (funext λr=>?_)
   rcases r with⟨_|v,r⟩
   ·refine congr (congrArg bind (congrArg _ (funext λ_=>funext λc=>rfl))) (funext λr=>?_)
    rcases r with⟨_|v,r⟩<;>rfl
   ·rfl
  |false=>
   show(forIn [0:n] ((none,0,1):Ny) _ >>= λr=>_)=(forIn [0:n] ((none,0,1):Ny) _ >>= λr=>_)
   refine congr (congrArg bind (congrArg _ (funext λ_=>funext λc=>rfl))) (funext λr=>?_)
   rcases r with⟨_|v,r⟩
   ·refine congr (congrArg bind (congrArg _ (funext λ_=>funext λc=>rfl))) (funext λr=>?_)
    rcases r with⟨_|v,r⟩<;>rfl
   ·rfl
theorem Y1{left:Bool}{key:Keyed}{arr:Array Keyed}{base n:Nat}{st:SortSt}{B:Nat->Bool}(V:zIa X left key arr base n st B){l r:Nat}(h:zDn n B (none,l,r)){Q:Option Nat->SortSt->Prop}
  (hQ:∀r,r<=n->(∀i,i<r->B i=true)->(∀i,r<=i->i<n->B i=false)->Q (some r) st):SW X (zHE n left key arr base l r) Q st:=by
 refine Ae (zGn V h λc hc e=>?_)
 apply yo;intro _ k0
 obtain⟨h1,h2,h3,h4,h5⟩:=hc;apply k0
 rw[h1];rw[e]at h4;exact Ai (hQ _ h3 h4 h5)
theorem Go(H:Sp X k κ S){left:Bool}{key:Keyed}{arr:Array Keyed}{base n hint:Nat}{st:SortSt}{Q:Option Nat->SortSt->Prop}(hk:kindOf st=κ) (hkey:S key) (harr:∀i,i<n->∃p,arr[base+i]? =some p/\S p) (hh:hint<n)
  (B:Nat->Bool) (hB:∀i,i<n->∀p,arr[base+i]? =some p->(if left=true then decide (k p<k key)else !decide (k key<k p))=B i) (anti:∀i j,i<=j->j<n->B j=true->B i=true)
  (h:∀r,r<=n->(∀i,i<r->B i=true)->(∀i,r<=i->i<n->B i=false)->Q (some r) st):SW X (E0 left key arr base n hint) Q st:=by
 have V:zIa X left key arr base n st B:=by
  refine⟨λi Q hi q=>?_,anti,λi j hij hj hf=>?_⟩
  ·obtain⟨p,e,hp⟩:=harr i hi;exact Ys H hk hkey e hp (by rw[hB i hi p e];exact q)
  ·cases e:B j with
   |false=>rfl
   |true=>rw[anti i j hij hj e]at hf;cases hf
 clear hB harr;rw[Yu];refine Ae (V.ask hint _ hh ?_)
 cases hb:B hint with
 |true=>
  refine Ae (zIi V hh hb λc h1 h2 h3 h4 h5=>?_)
  rw[h1];exact Y1 V ⟨rfl,zL1 h2 h3,zLN hh,λi hi=>anti i _ (Nat.le_of_lt_succ hi) h3 h4,λi hi hin=>V.anti' (hint+c.2.2) i (zKq hh hi hin) hin (h5 (Nat.lt_of_le_of_lt (zKq hh hi hin) hin))⟩ h
 |false=>
  refine Ae (zIP V hh hb λc h1 h2 h3 h4 h5=>?_)
  rw[h1];exact Y1 V ⟨rfl,zL2 h2 h3,Nat.le_trans (Nat.sub_le _ _) (Nat.le_of_lt hh),λi hi=>anti i (hint - c.2.2) (zKz hi).2 (Nat.lt_of_le_of_lt (Nat.sub_le _ _) hh) (h5 (zKz hi).1),λi hi hin=>V.anti' (hint - c.2.1) i hi hin h4⟩ h
end
section
variable {X:SX}{k:Keyed->Int}{κ:SortKind}{S:Keyed->Prop}
noncomputable def Hl (k:Keyed->Int) (l:List Keyed):Prop:=l.Pairwise (λx y=>k x<=k y)
noncomputable def D4 (k:Keyed->Int) (l m:List Keyed):Prop:=∀x,x∈l->∀y,y∈m->k x<=k y
noncomputable def Fz (st st':SortSt):Prop:=kindOf st'=kindOf st/\arrOf st'=arrOf st/\pendingOf st'=pendingOf st/\failedOf st'=failedOf st
theorem Fz.refl(st:SortSt):Fz st st:=⟨rfl,rfl,rfl,rfl⟩
theorem Fz.trans{a b c:SortSt}(h:Fz a b) (g:Fz b c):Fz a c:=⟨g.1.trans h.1,g.2.1.trans h.2.1,g.2.2.1.trans h.2.2.1,g.2.2.2.trans h.2.2.2⟩
structure MI (k:Keyed->Int) (a b out:List Keyed) (ia ib:Nat):Prop where
 la:ia<=a.length
 lb:ib<=b.length
 perm:out.Perm (a.take ia++b.take ib)
 srt:Hl k out
 sa:Hl k a
 sb:Hl k b
 ba:D4 k out (a.drop ia)
 bb:D4 k out (b.drop ib)
theorem MI.symm{a b out:List Keyed}{ia ib:Nat}(m:MI k a b out ia ib):MI k b a out ib ia:=⟨m.lb,m.la,m.perm.trans List.perm_append_comm,m.srt,m.sb,m.sa,m.bb,m.ba⟩
theorem MI.size{a b out:List Keyed}{ia ib:Nat}(m:MI k a b out ia ib):out.length=ia+ib:=by
 rw[m.perm.length_eq,lq7,List.length_take,List.length_take,Nat.min_eq_left m.la,Nat.min_eq_left m.lb]
theorem MI.goA{a b out out':List Keyed}{ia ib:Nat}(m:MI k a b out ia ib) (n:Nat) (hn:ia+n<=a.length) (hle:D4 k ((a.drop ia).take n) (b.drop ib)) (e:out'=out++(a.drop ia).take n):MI k a b out' (ia+n) ib:=by
 subst e;have hsd:Hl k (a.drop ia):=m.sa.sublist (List.drop_sublist _ _)
 have hsp:a.drop ia=(a.drop ia).take n++a.drop (ia+n):=by rw[←List.drop_drop,List.take_append_drop]
 refine⟨hn,m.lb,?_,?_,m.sa,m.sb,?_,?_⟩
 ·rw[List.take_add];refine(m.perm.append_right _).trans ?_
  simp only[lq8,lq8];exact(List.perm_append_comm).append_left _
 ·refine List.pairwise_append.mpr ⟨m.srt,hsd.sublist (List.take_sublist _ _),λx hx y hy=>m.ba x hx y (List.mem_of_mem_take hy)⟩
 ·intro x hx y hy;rcases List.mem_append.mp hx with hx|hx
  ·exact m.ba x hx y (by rw[hsp];exact List.mem_append_right _ hy)
  ·rw[hsp]at hsd;exact(List.pairwise_append.mp hsd).2.2 x hx y hy
 ·intro x hx y hy;rcases List.mem_append.mp hx with hx|hx
  ·exact m.bb x hx y hy
  ·exact hle x hx y hy
theorem MI.goB{a b out out':List Keyed}{ia ib:Nat}(m:MI k a b out ia ib) (n:Nat) (hn:ib+n<=b.length) (hle:D4 k ((b.drop ib).take n) (a.drop ia)) (e:out'=out++(b.drop ib).take n):MI k a b out' ia (ib+n):=
 (m.symm.goA n hn hle e).symm
noncomputable def Fp (k:Keyed->Int) (a b out:List Keyed):Prop:=out.Perm (a++b)/\Hl k out
theorem MI.endB{a b out:List Keyed}{ia ib:Nat}(m:MI k a b out ia ib) (h:ib=b.length):Fp k a b (out++a.drop ia):=by
 subst h;refine⟨?_,List.pairwise_append.mpr ⟨m.srt,m.sa.sublist (List.drop_sublist _ _),m.ba⟩⟩
 have:=m.perm.append_right (a.drop ia)
 rw[List.take_length,lq8]at this;refine this.trans ?_
 refine(List.perm_append_comm.append_left _).trans ?_
 rw[←lq8,List.take_append_drop]
theorem MI.endA{a b out:List Keyed}{ia ib:Nat}(m:MI k a b out ia ib) (h:ia=a.length):Fp k a b (out++b.drop ib):=
 let⟨p,s⟩:=m.symm.endB h
 ⟨p.trans List.perm_append_comm,s⟩
theorem MI.endL{a b out:List Keyed}{ia ib:Nat}(m:MI k a b out ia ib) (h:D4 k (b.drop ib) (a.drop ia)):Fp k a b (out++b.drop ib++a.drop ia):=by
 have m2:=m.goB (b.length - ib) (by have:=m.lb;exact Aw λZ=>A8 [_,_,_] [A7 x1 (.a x0 x2),B9 (.a x2 x0) x1] rT Z (Aq (Aw λY=>A8 [_,_] [A7 x1 x0,A5 x0 x1] rT Y this))) (by rw[List.take_of_length_le (by simp)];exact h) rfl
 have:=m2.endB (by have:=m.lb;exact Ha (λZ=>A8 [_,_,_] [A7 (.a x0 x2) x1,A5 x1 (.a x2 x0)] rT Z (Ax _ _)) (λZ=>A8 [_,_,_] [A7 x1 (.a x0 x2),B9 (.a x2 x0) x1] rT Z (Aq (Aw λY=>A8 [_,_] [A7 x1 x0,A5 x0 x1] rT Y this))))
 rwa [List.take_of_length_le (l:=b.drop ib) (by simp)]at this
theorem G0{a:List Keyed}{i:Nat}{x:Keyed}(e:a[i]? =some x):(a.drop i).take 1=[x]:=by
 obtain⟨hi,rfl⟩:=lq2 e;rw[List.drop_eq_getElem_cons hi];rfl
theorem En{a:List Keyed}(h:Hl k a){i:Nat}{x:Keyed}(e:a[i]? =some x):∀y,y∈a.drop i->k x<=k y:=by
 obtain⟨hi,rfl⟩:=lq2 e;intro y hy;have:=h.sublist (List.drop_sublist i a)
 rw[List.drop_eq_getElem_cons hi]at this hy;rcases List.mem_cons.mp hy with rfl|hy
 ·exact Am λZ=>A4 [_] [A7 x0 x0] rT Z
 ·exact(List.pairwise_cons.mp this).1 y hy
theorem L7{a:List Keyed}(h:Hl k a){i j:Nat}{x y:Keyed}(hij:i<=j) (e:a[i]? =some x) (e2:a[j]? =some y):k x<=k y:=by
 refine En h e y ?_
 obtain⟨hj,rfl⟩:=lq2 e2;refine List.mem_iff_getElem.mpr ⟨j - i,by simp;exact Cz λZ=>A8 [_,_,_,_,_] [A5 x1 x0,A7 x2 x3,A5 x3 (.a x1 x4),B9 (.a x0 x4) x2] rT Z hj (Ax _ _) (Aq (Aw λY=>A8 [_,_] [A7 x1 x0,A5 x0 x1] rT Y hij)),by simp[show i+(j - i)=j by exact Ha (λZ=>A8 [_,_,_] [A7 (.a x0 x2) x1,A5 x1 (.a x2 x0)] rT Z (Ax _ _)) (λZ=>A8 [_,_,_] [A7 x1 (.a x0 x2),B9 (.a x2 x0) x1] rT Z (Aq (Aw λY=>A8 [_,_] [A7 x1 x0,A5 x0 x1] rT Y hij)))]⟩
theorem R7{l:List Keyed}:D4 k [] l:=λ_ h=>absurd h List.not_mem_nil
theorem D4.one{x:Keyed}{l:List Keyed}(h:∀y,y∈l->k x<=k y):D4 k [x] l:=λz hz y hy=>by rw[lq0 hz];exact h y hy
theorem K6{g:Nat}{st:SortSt}{Q:PUnit->SortSt->Prop}(h:∀st',Fz st st'->Q ⟨⟩ st'):SW X (modify λs=>SortSt.mk' (kindOf s) (arrOf s) (pendingOf s) g (failedOf s):StateT SortSt Sem PUnit) Q st:=
 Dk (h _ ⟨rfl,rfl,rfl,rfl⟩)
theorem Ar{a:Array Keyed}{i:Nat}{p:Keyed}(e:a.toList[i]? =some p):a[i]? =some p:=by simpa using e
theorem Bl{a:Array Keyed}{i:Nat}(h:i<a.size):∃p,a.toList[i]? =some p:=⟨a[i],by simp[h]⟩
theorem Df{l:List Keyed}{i:Nat}{p:Keyed}(e:l[i]? =some p):p∈l:=by
 obtain⟨h,rfl⟩:=lq2 e;exact List.getElem_mem h
theorem I8(a:Array Keyed) (i:Nat):(a.extract i a.size).toList=a.toList.drop i:=by
 rw[Array.toList_extract,List.extract_eq_take_drop,List.take_of_length_le];simp
theorem Ui(a:Array Keyed):(a.extract a.size a.size).toList=[]:=by simp
theorem Rp{l:List Keyed}{i n:Nat}{x:Keyed}(h:x∈(l.drop i).take n):∃j,j<n/\l[i+j]? =some x:=by
 obtain⟨j,hj,e⟩:=List.getElem_of_mem h;simp only[List.length_take,List.length_drop]at hj;refine⟨j,by omega,?_⟩
 rw[List.getElem_take,List.getElem_drop]at e;rw[←e];exact List.getElem?_eq_getElem _
theorem Pq{l:List Keyed}{i:Nat}{x:Keyed}(h:x∈l.drop i):∃j,l[i+j]? =some x:=by
 obtain⟨j,hj,e⟩:=List.getElem_of_mem h;rw[List.getElem_drop]at e;exact⟨j,by rw[←e];exact List.getElem?_eq_getElem _⟩
theorem Xk(a:Array Keyed) (i n:Nat):(a.extract i (i+n)).toList=(a.toList.drop i).take n:=by
 simp only[Array.toList_extract,List.extract_eq_take_drop];congr 1
 exact Ha (λZ=>A8 [_,_,_] [A7 x0 x1,A5 (.a x2 x1) (.a x0 x2)] rT Z (Ax _ _)) (λZ=>A8 [_,_,_] [A7 x1 x0,B9 (.a x0 x2) (.a x2 x1)] rT Z (Aq (Aw λY=>A8 [_,_] [A7 (.a x0 x1) x0,A5 (.n 0) x1] rT Y (lq5 _))))
structure Wu (X:SX) (k:Keyed->Int) (κ:SortKind) (S:Keyed->Prop) (a b:Array Keyed) (st:SortSt) (Q:Array Keyed->SortSt->Prop):Prop where
 H:Sp X k κ S
 hk:kindOf st=κ
 hSa:∀p,p∈a.toList->S p
 hSb:∀p,p∈b.toList->S p
 sa:Hl k a.toList
 sb:Hl k b.toList
 lastA:∀(out:Array Keyed) (ia ib:Nat) (st':SortSt),MI k a.toList b.toList out.toList ia ib->ia+1=a.size->Fz st st'->Q (out++b.extract ib b.size++a.extract ia a.size) st'
 doneB:∀(out:Array Keyed) (ia ib:Nat) (st':SortSt),MI k a.toList b.toList out.toList ia ib->ib=b.size->Fz st st'->Q (out++a.extract ia a.size++b.extract ib b.size) st'
 doneA:∀(out:Array Keyed) (ia ib:Nat) (st':SortSt),MI k a.toList b.toList out.toList ia ib->ia=a.size->Fz st st'->Q (out++a.extract ia a.size++b.extract ib b.size) st'
structure J2 (k:Keyed->Int) (a b:Array Keyed) (st:SortSt) (x:Nat) (out:Array Keyed) (ia ib:Nat) (st':SortSt):Prop where
 s:Fz st st'
 m:MI k a.toList b.toList out.toList ia ib
 ha:ia+1<a.size
 hb:ib<b.size
 hx:x<out.size
theorem J2.step{a b:Array Keyed}{st st2 st3:SortSt}{x ia ib:Nat}{out:Array Keyed}(m:J2 k a b st x out ia ib st2) (s:Fz st2 st3):J2 k a b st x out ia ib st3:=⟨m.s.trans s,m.m,m.ha,m.hb,m.hx⟩
theorem J2.pushB{a b:Array Keyed}{st st2:SortSt}{x ia ib:Nat}{out:Array Keyed}{pb:Keyed}(m:J2 k a b st x out ia ib st2) (e:b.toList[ib]? =some pb) (h:∀y,y∈a.toList.drop ia->k pb<=k y):MI k a.toList b.toList (out.push pb).toList ia (ib+1):=by
 have hb:=m.hb;exact m.m.goB 1 (by rw[Array.length_toList];exact hb) (by rw[G0 e];exact D4.one h) (by rw[G0 e,Array.toList_push])
theorem J2.pushA{a b:Array Keyed}{st st2:SortSt}{x ia ib:Nat}{out:Array Keyed}{pa:Keyed}(m:J2 k a b st x out ia ib st2) (e:a.toList[ia]? =some pa) (h:∀y,y∈b.toList.drop ib->k pa<=k y):MI k a.toList b.toList (out.push pa).toList (ia+1) ib:=by
 have ha:=m.ha;exact m.m.goA 1 (by rw[Array.length_toList];exact Aw λZ=>A8 [_,_] [A7 x1 (.a x0 (.n 1)),A7 (.a x0 (.n 1)) x1] rT Z ha) (by rw[G0 e];exact D4.one h) (by rw[G0 e,Array.toList_push])
theorem H9{x:Nat}{out:Array Keyed}{p:Keyed}(h:x<out.size):x+1<(out.push p).size:=by rw[Array.size_push];exact Cz λZ=>A8 [_,_] [A5 (.a x1 (.n 1)) (.a x0 (.n 1)),A7 x0 x1] rT Z h
theorem Bj{a b:Nat}(h:(a==b)=true):a=b:=by simpa using h
theorem Bk{a b:Nat}(h:¬(a==b)=true):a≠b:=by simpa using h
theorem Gm{a b:Nat}(h:a<b) (g:a+1≠b):a+1<b:=by omega
noncomputable abbrev Wm:=Option (Array Keyed)×Array Keyed×Nat×Nat×Nat×Nat×Nat
noncomputable def zLI (k:Keyed->Int) (a b:Array Keyed) (st:SortSt) (x:Nat) (c:Wm) (st':SortSt):Prop:=c.1=none/\J2 k a b st x c.2.1 c.2.2.1 c.2.2.2.1 st'
noncomputable def zKN (k:Keyed->Int) (a b:Array Keyed) (st:SortSt) (Q:Array Keyed->SortSt->Prop) (x:Nat) (c:Wm) (st':SortSt):Prop:=
 (∃r,c.1=some r/\Q r st')∨(c.1=none/\J2 k a b st x c.2.1 c.2.2.1 c.2.2.2.1 st')
noncomputable def P5 (k:Keyed->Int) (a b:Array Keyed) (st:SortSt) (Q:Array Keyed->SortSt->Prop) (x:Nat) (r:ForInStep Wm) (st':SortSt):Prop:=
 match r with|.done c'=>zKN k a b st Q x c' st'|.yield c'=>zLI k a b st x c' st'
theorem P5.ret{a b:Array Keyed}{st:SortSt}{Q:Array Keyed->SortSt->Prop}{x ia ib mg ac bc:Nat}{r out:Array Keyed}{st':SortSt}(h:Q r st'):P5 k a b st Q x (.done (some r,out,ia,ib,mg,ac,bc)) st':=.inl ⟨_,rfl,h⟩
theorem P5.brk{a b:Array Keyed}{st:SortSt}{Q:Array Keyed->SortSt->Prop}{x ia ib mg ac bc:Nat}{out:Array Keyed}{st':SortSt}(h:J2 k a b st x out ia ib st'):P5 k a b st Q x (.done (none,out,ia,ib,mg,ac,bc)) st':=.inr ⟨rfl,h⟩
theorem P5.go{a b:Array Keyed}{st:SortSt}{Q:Array Keyed->SortSt->Prop}{x ia ib mg ac bc:Nat}{out:Array Keyed}{st':SortSt}(h:J2 k a b st x out ia ib st'):P5 k a b st Q x (.yield (none,out,ia,ib,mg,ac,bc)) st':=⟨rfl,h⟩
theorem J2.less{a b:Array Keyed}{st st':SortSt}{x ia ib:Nat}{out:Array Keyed}(m:J2 k a b st (x+1) out ia ib st'):J2 k a b st x out ia ib st':=⟨m.s,m.m,m.ha,m.hb,Nat.lt_of_succ_lt m.hx⟩
theorem P5.less{a b:Array Keyed}{st:SortSt}{Q:Array Keyed->SortSt->Prop}{x:Nat}{st':SortSt}:∀{r:ForInStep Wm},P5 k a b st Q (x+1) r st'->P5 k a b st Q x r st'
 |.done _,h=>Or.imp id (λh=>⟨h.1,h.2.less⟩) h
 |.yield _,h=>⟨h.1,h.2.less⟩
variable {a b:Array Keyed}{st:SortSt}{Q:Array Keyed->SortSt->Prop}
noncomputable def Vk (a b out:Array Keyed) (ia ib mg ac bc:Nat):StateT SortSt Sem (ForInStep Wm):=do
 let p ←elem' a ia
 if(ia+1+1==a.size)=true then pure (.done (some (out.push p++b.extract ib b.size++a.extract (ia+1) a.size),out.push p,ia+1,ib,mg,ac,bc))
 else if(decide (ac<7)&&decide (bc<7))=true then pure (.done (none,out.push p,ia+1,ib,mg,ac,bc))
 else pure (.yield (none,out.push p,ia+1,ib,mg,ac,bc))
theorem R6(V:Wu X k κ S a b st Q){x ia ib mg ac bc:Nat}{out:Array Keyed}{st2:SortSt}{pa:Keyed}(m:J2 k a b st x out ia ib st2) (epa:a.toList[ia]? =some pa) (hpa:∀y,y∈b.toList.drop ib->k pa<=k y):
  SW X (Vk a b out ia ib mg ac bc) (P5 k a b st Q (x+1)) st2:=by
 have m1:=m.pushA epa hpa;refine Ae (C7 (Ar epa) (Be (λd=>?_) λd=>?_))
 ·exact Ai (P5.ret (V.lastA _ _ _ _ m1 (Bj d) m.s))
 ·have m2:J2 k a b st (x+1) (out.push pa) (ia+1) ib st2:=⟨m.s,m1,Gm m.ha (Bk d),m.hb,H9 m.hx⟩
  exact Be (λ_=>Ai (P5.brk m2)) λ_=>Ai (P5.go m2)
noncomputable def zBD (a b out:Array Keyed) (ia ib mg ac r:Nat):StateT SortSt Sem (ForInStep Wm):=
 if r>0 then
  if(ib+r==b.size)=true then pure (.done (some (out++b.extract ib (ib+r)++a.extract ia a.size++b.extract (ib+r) b.size),out++b.extract ib (ib+r),ia,ib+r,mg,ac,r))
  else Vk a b (out++b.extract ib (ib+r)) ia (ib+r) mg ac r
 else Vk a b out ia ib mg ac r
theorem Zd(V:Wu X k κ S a b st Q){x ia ib mg ac r:Nat}{out:Array Keyed}{st2:SortSt}{pa:Keyed}(m:J2 k a b st x out ia ib st2) (epa:a.toList[ia]? =some pa) (hr:r<=b.size - ib) (hlow:D4 k ((b.toList.drop ib).take r) (a.toList.drop ia)) (hpa:∀y,y∈b.toList.drop (ib+r)->k pa<=k y):
  SW X (zBD a b out ia ib mg ac r) (P5 k a b st Q (x+1)) st2:=by
 refine Be (λh0=>?_) λh0=>?_
 ·have hb:=m.hb;have m1:MI k a.toList b.toList (out++b.extract ib (ib+r)).toList ia (ib+r):=m.m.goB r (by rw[Array.length_toList];exact Aw λZ=>A8 [_,_,_,_] [A7 x1 (.a x2 x0),A5 x0 x3,B9 (.a x3 x2) x1] rT Z hr (Aq (Aw λY=>A8 [_,_] [A7 x0 x1,A7 x1 x0] rT Y hb))) hlow (by rw[Array.toList_append,Xk])
  refine Be (λd=>?_) λd=>?_
  ·exact Ai (P5.ret (V.doneB _ _ _ _ m1 (Bj d) m.s))
  ·refine R6 V ⟨m.s,m1,m.ha,Nat.lt_of_le_of_ne (by exact Aw λZ=>A8 [_,_,_,_] [A7 x1 (.a x2 x0),A5 x0 x3,B9 (.a x3 x2) x1] rT Z hr (Aq (Aw λY=>A8 [_,_] [A7 x0 x1,A7 x1 x0] rT Y hb))) (Bk d),?_⟩ epa hpa
   rw[Array.size_append];exact Nat.lt_of_lt_of_le m.hx (Nat.le_add_right _ _)
 ·have:r=0:=by exact Ha (λZ=>A8 [_] [A7 x0 (.n 0),A5 (.n 0) x0] rT Z (lq5 _)) (λZ=>A8 [_] [A7 (.n 0) x0,A5 x0 (.n 0)] rT Z (Nat.not_lt.mp h0))
  subst this;exact R6 V m epa hpa
theorem zD8(V:Wu X k κ S a b st Q){ia ib:Nat}{st2:SortSt}{pa:Keyed}{R:Option Nat->SortSt->Prop}(s2:Fz st st2) (epa:a.toList[ia]? =some pa) (hib:ib<b.size)
  (h:∀r,r<=b.size - ib->D4 k ((b.toList.drop ib).take r) (a.toList.drop ia)->(∀y,y∈b.toList.drop (ib+r)->k pa<=k y)->R (some r) st2):SW X (E0 true pa b ib (b.size - ib) 0) R st2:=by
 refine Go V.H (s2.1.trans V.hk) (V.hSa _ (Df epa)) (λi hi=>?_) (by exact Cz λZ=>A8 [_,_,_] [A5 x0 (.n 0),A7 x1 x2,A5 x2 (.a x0 x1)] rT Z hib (Ax _ _)) (λi=>match b.toList[ib+i]? with|some p=>decide (k p<k pa)|none=>false) (λi hi p e=>?_) (λi j hij hj hbj=>?_) λr2 hr2 hlow2 hhigh2=>h r2 hr2 (λu hu v hv=>?_) λy hy=>?_
 ·obtain⟨p,e⟩:=Bl (a:=b) (i:=ib+i) (by exact Cz λZ=>A8 [_,_,_,_] [A5 x1 (.a x0 x2),A7 x2 x3,B9 (.a x3 x0) x1] rT Z hi (Aq (Aw λY=>A8 [_,_] [A7 x1 x0,A7 x0 x1] rT Y hib)))
  exact⟨p,Ar e,V.hSb _ (Df e)⟩
 ·have e':b.toList[ib+i]? =some p:=by simpa using e
  rw[if_pos rfl,e']
 ·apply yo;intro _ k0
  obtain⟨p,e⟩:=Bl (a:=b) (i:=ib+i) (by exact Cz λZ=>A8 [_,_,_,_,_] [A5 x1 (.a x0 x2),A5 x2 x3,A7 x3 x4,B9 (.a x4 x0) x1] rT Z hij hj (Aq (Aw λY=>A8 [_,_] [A7 x1 x0,A7 x0 x1] rT Y hib)))
  obtain⟨q,e'⟩:=Bl (a:=b) (i:=ib+j) (by exact Cz λZ=>A8 [_,_,_,_] [A5 x1 (.a x0 x2),A7 x2 x3,B9 (.a x3 x0) x1] rT Z hj (Aq (Aw λY=>A8 [_,_] [A7 x1 x0,A7 x0 x1] rT Y hib)))
  apply k0
  rw[e']at hbj;rw[e];exact decide_eq_true (Int.lt_of_le_of_lt (L7 V.sb (Nat.add_le_add_left hij _) e e') (of_decide_eq_true hbj))
 ·obtain⟨i,hi,e⟩:=Rp hu;have:=hlow2 i hi
  rw[e]at this;exact Int.le_trans (Int.le_of_lt (of_decide_eq_true this)) (En V.sa epa v hv)
 ·apply yo;intro _ k0
  obtain⟨i,e⟩:=Pq hy;obtain⟨hi,_⟩:=lq2 e;apply k0
  simp only[Array.length_toList]at hi;have:=hhigh2 (r2+i) (Nat.le_add_right _ _) (by exact Cz λZ=>A8 [_,_,_,_,_] [A5 x1 (.a x0 x2),A7 (.a (.a x3 x0) x2) x4,A5 x4 (.a x1 x3)] rT Z hi (Ax _ _))
  rw[←Nat.add_assoc,e]at this;exact Int.not_lt.mp (of_decide_eq_false this)
theorem zD5(V:Wu X k κ S a b st Q){ia ib:Nat}{st2:SortSt}{pb:Keyed}{R:Option Nat->SortSt->Prop}(s2:Fz st st2) (epb:b.toList[ib]? =some pb) (hia:ia<a.size)
  (h:∀r,r<=a.size - ia->D4 k ((a.toList.drop ia).take r) (b.toList.drop ib)->(∀y,y∈a.toList.drop (ia+r)->k pb<=k y)->R (some r) st2):SW X (E0 false pb a ia (a.size - ia) 0) R st2:=by
 refine Go V.H (s2.1.trans V.hk) (V.hSb _ (Df epb)) (λi hi=>?_) (by exact Cz λZ=>A8 [_,_,_] [A5 x0 (.n 0),A7 x1 x2,A5 x2 (.a x0 x1)] rT Z hia (Ax _ _)) (λi=>match a.toList[ia+i]? with|some p=>!decide (k pb<k p)|none=>false) (λi hi p e=>?_) (λi j hij hj hbj=>?_) λr hr hlow1 hhigh1=>h r hr (λu hu v hv=>?_) λy hy=>?_
 ·obtain⟨p,e⟩:=Bl (a:=a) (i:=ia+i) (by exact Cz λZ=>A8 [_,_,_,_] [A5 x1 (.a x0 x2),A7 x2 x3,B9 (.a x3 x0) x1] rT Z hi (Aq (Aw λY=>A8 [_,_] [A7 x1 x0,A7 x0 x1] rT Y hia)))
  exact⟨p,Ar e,V.hSa _ (Df e)⟩
 ·have e':a.toList[ia+i]? =some p:=by simpa using e
  rw[if_neg (λh=>Bool.noConfusion h),e']
 ·apply yo;intro _ k0
  obtain⟨p,e⟩:=Bl (a:=a) (i:=ia+i) (by exact Cz λZ=>A8 [_,_,_,_,_] [A5 x1 (.a x0 x2),A5 x2 x3,A7 x3 x4,B9 (.a x4 x0) x1] rT Z hij hj (Aq (Aw λY=>A8 [_,_] [A7 x1 x0,A7 x0 x1] rT Y hia)))
  obtain⟨q,e'⟩:=Bl (a:=a) (i:=ia+j) (by exact Cz λZ=>A8 [_,_,_,_] [A5 x1 (.a x0 x2),A7 x2 x3,B9 (.a x3 x0) x1] rT Z hj (Aq (Aw λY=>A8 [_,_] [A7 x1 x0,A7 x0 x1] rT Y hia)))
  apply k0
  rw[e']at hbj;rw[e];have:=L7 V.sa (Nat.add_le_add_left hij _) e e'
  have h2:=of_decide_eq_false (Bool.not_eq_true' _ |>.mp hbj)
  exact(Bool.not_eq_true' _).mpr (decide_eq_false (by exactλZ=>A4 [_,_,_] [A7 x1 x0,A5 x0 x2,A5 x2 x1] rT Z this (Int.not_lt.mp h2)))
 ·obtain⟨i,hi,e⟩:=Rp hu;have:=hlow1 i hi
  rw[e]at this;exact Int.le_trans (Int.not_lt.mp (of_decide_eq_false ((Bool.not_eq_true' _).mp this))) (En V.sb epb v hv)
 ·apply yo;intro _ k0
  obtain⟨i,e⟩:=Pq hy;obtain⟨hi,_⟩:=lq2 e;apply k0
  simp only[Array.length_toList]at hi;have:=hhigh1 (r+i) (Nat.le_add_right _ _) (by exact Cz λZ=>A8 [_,_,_,_,_] [A5 x1 (.a x0 x2),A7 (.a (.a x3 x0) x2) x4,A5 x4 (.a x1 x3)] rT Z hi (Ax _ _))
  rw[←Nat.add_assoc,e]at this;exact Int.le_of_lt (of_decide_eq_true ((Bool.not_eq_false' _).mp this))
noncomputable def zB6 (a b out:Array Keyed) (ia ib mg ac bc:Nat):StateT SortSt Sem (ForInStep Wm):=do
 let p ←elem' b ib
 if(ib+1==b.size)=true then pure (.done (some (out.push p++a.extract ia a.size++b.extract (ib+1) b.size),out.push p,ia,ib+1,mg,ac,bc))
 else
  let q ←elem' a ia
  match ←E0 true q b (ib+1) (b.size - (ib+1)) 0 with
  |some r=>zBD a b (out.push p) ia (ib+1) mg ac r
  |_=>pure (.done (some (out.push p++a.extract ia a.size++b.extract (ib+1) b.size),out.push p,ia,ib+1,mg,ac,bc))
theorem Ub(V:Wu X k κ S a b st Q){x ia ib mg ac bc:Nat}{out:Array Keyed}{st2:SortSt}{pb:Keyed}(m:J2 k a b st x out ia ib st2) (epb:b.toList[ib]? =some pb) (hpb:∀y,y∈a.toList.drop ia->k pb<=k y):
  SW X (zB6 a b out ia ib mg ac bc) (P5 k a b st Q x) st2:=by
 have m1:=m.pushB epb hpb;refine Ae (C7 (Ar epb) (Be (λd=>?_) λd=>?_))
 ·exact Ai (P5.ret (V.doneB _ _ _ _ m1 (Bj d) m.s))
 ·have hib:ib+1<b.size:=Gm m.hb (Bk d)
  have m2:J2 k a b st x (out.push pb) ia (ib+1) st2:=⟨m.s,m1,m.ha,hib,Nat.lt_of_succ_lt (H9 m.hx)⟩
  obtain⟨pa,epa⟩:=Bl (a:=a) (i:=ia) (Nat.lt_of_succ_lt m.ha)
  refine Ae (C7 (Ar epa) (Ae (zD8 V m.s epa hib λr hr h1 h2=>?_)))
  exact Bz (Zd V m2 epa hr h1 h2) λr st' q=>P5.less q
noncomputable def zFr (a b out:Array Keyed) (ia ib mg bc r:Nat):StateT SortSt Sem (ForInStep Wm):=
 if r>0 then
  if(ia+r+1==a.size)=true then pure (.done (some (out++a.extract ia (ia+r)++b.extract ib b.size++a.extract (ia+r) a.size),out++a.extract ia (ia+r),ia+r,ib,mg,r,bc))
  else if(ia+r==a.size)=true then pure (.done (some (out++a.extract ia (ia+r)++a.extract (ia+r) a.size++b.extract ib b.size),out++a.extract ia (ia+r),ia+r,ib,mg,r,bc))
  else zB6 a b (out++a.extract ia (ia+r)) (ia+r) ib mg r bc
 else zB6 a b out ia ib mg r bc
theorem zA9(V:Wu X k κ S a b st Q){x ia ib mg bc r:Nat}{out:Array Keyed}{st2:SortSt}{pb:Keyed}(m:J2 k a b st x out ia ib st2) (epb:b.toList[ib]? =some pb) (hr:r<=a.size - ia) (hlow:D4 k ((a.toList.drop ia).take r) (b.toList.drop ib)) (hpb:∀y,y∈a.toList.drop (ia+r)->k pb<=k y):
  SW X (zFr a b out ia ib mg bc r) (P5 k a b st Q x) st2:=by
 refine Be (λh0=>?_) λh0=>?_
 ·have ha:=m.ha;have m1:MI k a.toList b.toList (out++a.extract ia (ia+r)).toList (ia+r) ib:=m.m.goA r (by rw[Array.length_toList];exact Aw λZ=>A8 [_,_,_,_] [A7 x1 (.a x2 x0),A5 x0 x3,B9 (.a x3 x2) x1] rT Z hr (Aq (Aw λY=>A8 [_,_] [A7 x0 x1,A7 (.a x1 (.n 1)) x0] rT Y ha))) hlow (by rw[Array.toList_append,Xk])
  refine Be (λd=>?_) λd=>Be (λe=>?_) λe=>?_
  ·exact Ai (P5.ret (V.lastA _ _ _ _ m1 (Bj d) m.s))
  ·exact Ai (P5.ret (V.doneA _ _ _ _ m1 (Bj e) m.s))
  ·refine Ub V ⟨m.s,m1,Gm (Nat.lt_of_le_of_ne (by exact Aw λZ=>A8 [_,_,_,_] [A7 x1 (.a x2 x0),A5 x0 x3,B9 (.a x3 x2) x1] rT Z hr (Aq (Aw λY=>A8 [_,_] [A7 x0 x1,A7 (.a x1 (.n 1)) x0] rT Y ha))) (Bk e)) (Bk d),m.hb,?_⟩ epb hpb
   rw[Array.size_append];exact Nat.lt_of_lt_of_le m.hx (Nat.le_add_right _ _)
 ·have:r=0:=by exact Ha (λZ=>A8 [_] [A7 x0 (.n 0),A5 (.n 0) x0] rT Z (lq5 _)) (λZ=>A8 [_] [A7 (.n 0) x0,A5 x0 (.n 0)] rT Z (Nat.not_lt.mp h0))
  subst this;exact Ub V m epb hpb
noncomputable def Uw (a b out:Array Keyed) (ia ib mg ac bc:Nat):StateT SortSt Sem (ForInStep Wm):=do
 modify λs=>SortSt.mk' (kindOf s) (arrOf s) (pendingOf s) mg (failedOf s)
 let p ←elem' b ib
 match ←E0 false p a ia (a.size - ia) 0 with
 |some r=>zFr a b out ia ib mg bc r
 |_=>pure (.done (some (out++a.extract ia a.size++b.extract ib b.size),out,ia,ib,mg,ac,bc))
theorem R0(V:Wu X k κ S a b st Q){x ia ib mg ac bc:Nat}{out:Array Keyed}{st2:SortSt}(m:J2 k a b st x out ia ib st2):
  SW X (Uw a b out ia ib mg ac bc) (P5 k a b st Q x) st2:=by
 obtain⟨pb,epb⟩:=Bl (a:=b) (i:=ib) m.hb
 refine Ae (K6 λst3 s23=>?_)
 have m':=m.step s23;exact Ae (C7 (Ar epb) (Ae (zD5 V m'.s epb (Nat.lt_of_succ_lt m.ha) λr hr h1 h2=>zA9 V m' epb hr h1 h2)))
end
section
variable {X:SX}{k:Keyed->Int}{κ:SortKind}{S:Keyed->Prop}
theorem J2.le{a b:Array Keyed}{st st':SortSt}{x y ia ib:Nat}{out:Array Keyed}(m:J2 k a b st x out ia ib st') (h:y<=x):J2 k a b st y out ia ib st':=⟨m.s,m.m,m.ha,m.hb,Nat.lt_of_le_of_lt h m.hx⟩
theorem J2.out_lt{a b:Array Keyed}{st st':SortSt}{x ia ib:Nat}{out:Array Keyed}(m:J2 k a b st x out ia ib st') (h:a.size+b.size<=x):False:=by
 have z:=m.m.size;have h1:=m.ha;have h2:=m.hb;have h3:=m.hx;simp only[Array.length_toList]at z;exact A8 [_,_,_,_,_,_] [A5 (.a x0 x1) x2,B9 x3 (.a x4 x5),A7 (.a x4 (.n 1)) x0,A7 x5 x1,A7 x2 x3] rT h z h1 h2 h3
noncomputable abbrev zE6:=Option (Array Keyed)×Array Keyed×Nat×Nat×Nat×Nat
noncomputable def zKo (k:Keyed->Int) (a b:Array Keyed) (st:SortSt) (x:Nat) (c:zE6) (st':SortSt):Prop:=c.1=none/\J2 k a b st x c.2.1 c.2.2.1 c.2.2.2.1 st'
noncomputable def zKZ (k:Keyed->Int) (a b:Array Keyed) (st:SortSt) (Q:Array Keyed->SortSt->Prop) (x:Nat) (c:zE6) (st':SortSt):Prop:=
 (∃r,c.1=some r/\Q r st')∨(c.1=none/\J2 k a b st x c.2.1 c.2.2.1 c.2.2.2.1 st')
noncomputable def Z4 (k:Keyed->Int) (a b:Array Keyed) (st:SortSt) (Q:Array Keyed->SortSt->Prop) (x y:Nat) (r:ForInStep zE6) (st':SortSt):Prop:=
 match r with|.done c'=>zKZ k a b st Q x c' st'|.yield c'=>zKo k a b st y c' st'
variable {a b:Array Keyed}{st:SortSt}{Q:Array Keyed->SortSt->Prop}
theorem Z4.ret{x y ia ib ac bc:Nat}{r out:Array Keyed}{st':SortSt}(h:Q r st'):Z4 k a b st Q x y (.done (some r,out,ia,ib,ac,bc)) st':=.inl ⟨_,rfl,h⟩
theorem Z4.brk{x y ia ib ac bc:Nat}{out:Array Keyed}{st':SortSt}(h:J2 k a b st x out ia ib st'):Z4 k a b st Q x y (.done (none,out,ia,ib,ac,bc)) st':=.inr ⟨rfl,h⟩
theorem Z4.go{x y ia ib ac bc:Nat}{out:Array Keyed}{st':SortSt}(h:J2 k a b st y out ia ib st'):Z4 k a b st Q x y (.yield (none,out,ia,ib,ac,bc)) st':=⟨rfl,h⟩
noncomputable def zCb (a b out:Array Keyed) (ia ib ac bc mg:Nat):StateT SortSt Sem (ForInStep zE6):=do
 let y ←elem' b ib
 let x ←elem' a ia
 match ←lt' y x with
 |some w=>
  if w=true then
   let p ←elem' b ib
   if(ib+1==b.size)=true then pure (.done (some (out.push p++a.extract ia a.size++b.extract (ib+1) b.size),out.push p,ia,ib+1,0,bc+1))
   else if bc+1≥mg then pure (.done (none,out.push p,ia,ib+1,0,bc+1))else pure (.yield (none,out.push p,ia,ib+1,0,bc+1))
  else
   let p ←elem' a ia
   if(ia+1+1==a.size)=true then pure (.done (some (out.push p++b.extract ib b.size++a.extract (ia+1) a.size),out.push p,ia+1,ib,ac+1,0))
   else if ac+1≥mg then pure (.done (none,out.push p,ia+1,ib,ac+1,0))else pure (.yield (none,out.push p,ia+1,ib,ac+1,0))
 |_=>pure (.done (some (out++a.extract ia a.size++b.extract ib b.size),out,ia,ib,ac,bc))
theorem Z7(V:Wu X k κ S a b st Q){x y ia ib mg ac bc:Nat}{out:Array Keyed}{st1:SortSt}(m:J2 k a b st (x+y) out ia ib st1):
  SW X (zCb a b out ia ib ac bc mg) (Z4 k a b st Q (x+1) (x+(y+1))) st1:=by
 have hyx:x+1<=x+y+1:=Nat.succ_le_succ (Nat.le_add_right _ _)
 obtain⟨pa,epa⟩:=Bl (a:=a) (i:=ia) (Nat.lt_of_succ_lt m.ha)
 obtain⟨pb,epb⟩:=Bl (a:=b) (i:=ib) m.hb
 refine Ae (C7 (Ar epb) (Ae (C7 (Ar epa) (Ae (V.H _ _ (V.hSb _ (Df epb)) (V.hSa _ (Df epa)) st1 _ (m.s.1.trans V.hk) ?_)))))
 refine Be (λhlt=>Ae (C7 (Ar epb) ?_)) λhlt=>Ae (C7 (Ar epa) ?_)
 ·have m1:=m.pushB epb λy hy=>Int.le_trans (Int.le_of_lt (of_decide_eq_true hlt)) (En V.sa epa y hy)
  refine Be (λc1=>Ai (Z4.ret (V.doneB _ _ _ _ m1 (Bj c1) m.s))) λc1=>?_
  have m2:J2 k a b st (x+y+1) (out.push pb) ia (ib+1) st1:=⟨m.s,m1,m.ha,Gm m.hb (Bk c1),H9 m.hx⟩
  exact Be (λ_=>Ai (Z4.brk (m2.le hyx))) λ_=>Ai (Z4.go m2)
 ·have m1:=m.pushA epa λy hy=>Int.le_trans (Int.not_lt.mp λh=>hlt (decide_eq_true h)) (En V.sb epb y hy)
  refine Be (λc1=>Ai (Z4.ret (V.lastA _ _ _ _ m1 (Bj c1) m.s))) λc1=>?_
  have m2:J2 k a b st (x+y+1) (out.push pa) (ia+1) ib st1:=⟨m.s,m1,Gm m.ha (Bk c1),m.hb,H9 m.hx⟩
  exact Be (λ_=>Ai (Z4.brk (m2.le hyx))) λ_=>Ai (Z4.go m2)
theorem Wu.of(H:Sp X k κ S) (hk:kindOf st=κ) (hSa:∀p,p∈a.toList->S p) (hSb:∀p,p∈b.toList->S p) (sa:Hl k a.toList) (sb:Hl k b.toList)
  (ha0:0<a.size) (hlast:∀x y,x∈b.toList->a.toList[a.size - 1]? =some y->k x<=k y)
  (h:∀out st',Fp k a.toList b.toList out.toList->Fz st st'->Q out st'):Wu X k κ S a b st Q:=by
 refine⟨H,hk,hSa,hSb,sa,sb,λout ia ib st' m e s=>h _ st' ?_ s,λout ia ib st' m e s=>h _ st' ?_ s,λout ia ib st' m e s=>h _ st' ?_ s⟩
 ·simp only[Array.toList_append,Array.toList_append,I8,I8];refine m.endL (λx hx y hy=>?_)
  obtain⟨z,ez⟩:=Bl (a:=a) (i:=a.size - 1) (by exact Cz λZ=>A8 [_,_] [A5 x0 x1,B9 (.a x1 (.n 1)) x0] rT Z (Aq (Aw λY=>A8 [_] [A7 x0 (.n 1),A7 (.n 0) x0] rT Y ha0)))
  have e1:a.toList.drop ia=[z]:=by
   rw[show ia=a.size - 1 by exact Ha (λZ=>A8 [_,_,_] [A7 x0 x1,Gl (.a x0 (.n 1)) x2,B9 (.a x1 (.n 1)) x2] rT Z e (Aq (Aw λY=>A8 [_] [A7 x0 (.n 1),A7 (.n 0) x0] rT Y ha0))) (λZ=>A8 [_,_,_] [A7 x1 x0,B9 (.a x0 (.n 1)) x2,A5 x2 (.a x1 (.n 1))] rT Z e (Ax _ _)),←G0 ez,List.take_of_length_le]
   simp;exact Aw λZ=>A8 [_,_] [A7 (.a (.n 1) x1) x0,A5 x0 (.a x1 (.n 1))] rT Z (Ax _ _)
  rw[e1]at hy;rw[lq0 hy];exact hlast x z (List.mem_of_mem_drop hx) ez
 ·subst e;rw[Array.toList_append,Array.toList_append,I8,Ui,List.append_nil];exact m.endB Array.length_toList.symm
 ·subst e;rw[Array.toList_append,Array.toList_append,Ui,I8,List.append_nil];exact m.endA Array.length_toList.symm
theorem MI.start(sa:Hl k a.toList) (sb:Hl k b.toList) (hb0:0<b.size){b0 a0:Keyed}(eb0:b.toList[0]? =some b0) (ea0:a.toList[0]? =some a0) (hf:k b0<=k a0):MI k a.toList b.toList [b0] 0 1:=by
 have:MI k a.toList b.toList [] 0 0:=⟨lq5 _,lq5 _,.nil,List.Pairwise.nil,sa,sb,R7,R7⟩
 refine this.goB 1 (by rw[Array.length_toList];exact hb0) ?_ (by rw[G0 eb0];rfl)
 rw[G0 eb0];exact D4.one λy hy=>Int.le_trans hf (En sa ea0 y hy)
noncomputable def zJT (a b:Array Keyed) (c:Wm):StateT SortSt Sem (ForInStep Wm):=
 if c.2.2.2.2.1>1 then Uw a b c.2.1 c.2.2.1 c.2.2.2.1 (c.2.2.2.2.1 - 1) c.2.2.2.2.2.1 c.2.2.2.2.2.2 else Uw a b c.2.1 c.2.2.1 c.2.2.2.1 c.2.2.2.2.1 c.2.2.2.2.2.1 c.2.2.2.2.2.2
noncomputable def zJr (a b:Array Keyed) (mg:Nat) (c:zE6):StateT SortSt Sem (ForInStep zE6):=zCb a b c.2.1 c.2.2.1 c.2.2.2.1 c.2.2.2.2.1 c.2.2.2.2.2 mg
noncomputable abbrev zIL:=Option (Array Keyed)×Array Keyed×Nat×Nat×Nat
noncomputable def zCQ (c:Wm):StateT SortSt Sem (ForInStep zIL):=
 match c.1 with
 |some v=>pure (.done (some v,c.2.1,c.2.2.1,c.2.2.2.1,c.2.2.2.2.1))
 |none=>do
  modify λs=>SortSt.mk' (kindOf s) (arrOf s) (pendingOf s) (c.2.2.2.2.1+1) (failedOf s)
  pure (.yield (none,c.2.1,c.2.2.1,c.2.2.2.1,c.2.2.2.2.1+1))
noncomputable def Rt (a b:Array Keyed) (mg:Nat) (c:zE6):StateT SortSt Sem (ForInStep zIL):=
 match c.1 with
 |some v=>pure (.done (some v,c.2.1,c.2.2.1,c.2.2.2.1,mg))
 |none=>do
  liftM (rule "list.sort.gallop")
  let r ←forIn [0:a.size+b.size] ((none,c.2.1,c.2.2.1,c.2.2.2.1,mg+1,c.2.2.2.2.1,c.2.2.2.2.2):Wm) (λ_ c=>zJT a b c)
  zCQ r
noncomputable def zFy (a b:Array Keyed) (c:zIL):StateT SortSt Sem (ForInStep zIL):=do
 let r ←forIn [0:a.size+b.size] ((none,c.2.1,c.2.2.1,c.2.2.2.1,0,0):zE6) (λ_ c'=>zJr a b c.2.2.2.2 c')
 Rt a b c.2.2.2.2 r
noncomputable def zGH (a b:Array Keyed) (p:Keyed) (mg:Nat):StateT SortSt Sem (Array Keyed):=do
 let r ←forIn [0:a.size+b.size] ((none,#[p],0,1,mg):zIL) (λ_ c=>zFy a b c)
 match r.1 with
 |some v=>pure v
 |none=>liftM (unsupported "internal:list.sort.merge-bound":Sem (Array Keyed))
noncomputable def zKM (k:Keyed->Int) (a b:Array Keyed) (st:SortSt) (Q:Array Keyed->SortSt->Prop) (x:Nat) (r:ForInStep zIL) (st':SortSt):Prop:=
 match r with|.done c'=>∃r,c'.1=some r/\Q r st'|.yield c'=>c'.1=none/\J2 k a b st x c'.2.1 c'.2.2.1 c'.2.2.2.1 st'
theorem zCo{x:Nat}{c:Wm}{st1:SortSt}(h:zKN k a b st Q x c st1):SW X (zCQ c) (zKM k a b st Q x) st1:=by
 unfold zCQ;rcases h with⟨r,e,hq⟩|⟨e,m⟩
 ·rw[e];exact Ai ⟨r,rfl,hq⟩
 ·rw[e];exact Ae (K6 λst3 s23=>Ai ⟨rfl,m.step s23⟩)
theorem zAG(V:Wu X k κ S a b st Q){x mg:Nat}{c:zE6}{st1:SortSt}(h:zKZ k a b st Q (x+1) c st1):SW X (Rt a b mg c) (zKM k a b st Q (x+1)) st1:=by
 unfold Rt;rcases h with⟨r,e,hq⟩|⟨e,m⟩
 ·rw[e];exact Ai ⟨r,rfl,hq⟩
 rw[e];refine Ae (Kc (Ae (Bz (Do (I:=λy c st'=>zLI k a b st (x+1) c st') (Q:=zKN k a b st Q (x+1)) ⟨rfl,m⟩ (lq5 _) (λy c st1 _ hy h=>?_) (λc st' h=>.inr h)) λc st2 h=>zCo h)))
 refine Bz (Q:=P5 k a b st Q (x+1)) (Be (λ_=>R0 V h.2) λ_=>R0 V h.2) λr st' q=>?_
 cases r<;>exact q
theorem zC8(V:Wu X k κ S a b st Q){p:Keyed}{mg:Nat}(M0:J2 k a b st 0 #[p] 0 1 st):SW X (zGH a b p mg) Q st:=by
 refine Ae (Bz (Do (I:=λx c st'=>c.1=none/\J2 k a b st x c.2.1 c.2.2.1 c.2.2.2.1 st') (Q:=λc st'=>∃r,c.1=some r/\Q r st')
  ⟨rfl,M0⟩ (lq5 _) (λx c st0 _ hx h=>?_) (λc st' h=>(h.2.out_lt (Nat.le_refl _)).elim)) ?_)
 ·refine Bz (Q:=zKM k a b st Q (x+1)) (Ae (Bz (Do (I:=λy c st'=>zKo k a b st (x+y) c st') (Q:=zKZ k a b st Q (x+1))
   ⟨rfl,h.2⟩ (lq5 _) (λy c st1 _ hy h=>?_) (λc st' h=>(h.2.out_lt (Nat.le_add_left _ _)).elim)) λc st1 h=>zAG V h)) λr st' q=>?_
  ·exact Bz (Z7 V h.2) λr st' q=>by cases r<;>exact q
  ·cases r<;>exact q
 ·rintro c st0 ⟨r,e,hq⟩
  rw[e];exact Ai hq
theorem Uy(a b:Array Keyed):Ln a b=(do
  liftM (rule "list.sort.merge-lo")
  let p ←elem' b 0
  if(1==b.size)=true then pure (#[p]++a.extract 0 a.size++b.extract 1 b.size)
  else if(0+1==a.size)=true then pure (#[p]++b.extract 1 b.size++a.extract 0 a.size)
  else
   let s ←get
   zGH a b p (gallopOf s)):=by
 unfold Ln;refine bind_congr λ_=>?_
 refine bind_congr λp=>?_
 refine congrArg (λz=>if(1==b.size)=true then _ else z) ?_
 refine congrArg (λz=>if(0+1==a.size)=true then _ else z) ?_
 refine bind_congr λs=>?_
 refine congr (congrArg bind (congrArg _ (funext λ_=>funext λc=>?_))) (funext λr=>?_)
 ·unfold zFy;refine congr (congrArg bind (congrArg _ (funext λ_=>funext λc=>?_))) (funext λr=>?_)
  ·rfl
  ·unfold Rt;rcases r with⟨_|v,r⟩
   ·refine bind_congr λ_=>congr (congrArg bind (congrArg _ (funext λ_=>funext λc=>?_))) (funext λr=>?_)
    ·rfl
    ·rcases r with⟨_|v,r⟩<;>rfl
   ·rfl
 ·rcases r with⟨_|v,r⟩<;>rfl
theorem Vo(H:Sp X k κ S){a b:Array Keyed}{st:SortSt}{Q:Array Keyed->SortSt->Prop}(hk:kindOf st=κ) (hSa:∀p,p∈a.toList->S p) (hSb:∀p,p∈b.toList->S p) (sa:Hl k a.toList) (sb:Hl k b.toList)
  (ha0:0<a.size) (hb0:0<b.size) (hfirst:∀x y,b.toList[0]? =some x->a.toList[0]? =some y->k x<=k y) (hlast:∀x y,x∈b.toList->a.toList[a.size - 1]? =some y->k x<=k y)
  (h:∀out st',Fp k a.toList b.toList out.toList->Fz st st'->Q out st'):SW X (Ln a b) Q st:=by
 have V:Wu X k κ S a b st Q:=Wu.of H hk hSa hSb sa sb ha0 hlast h
 obtain⟨b0,eb0⟩:=Bl hb0;obtain⟨a0,ea0⟩:=Bl ha0;have m0:=MI.start sa sb hb0 eb0 ea0 (hfirst b0 a0 eb0 ea0);clear H hk hSa hSb hlast h hfirst sa sb ea0;rw[Uy];refine Ae (Kc (Ae (C7 (Ar eb0) ?_)))
 refine Be (λe=>Ai (V.doneB #[b0] 0 1 st m0 (Bj e) (.refl _))) λe1=>Be (λe=>Ai (V.lastA #[b0] 0 1 st m0 (Bj e) (.refl _))) λe2=>Ae (Gr ?_)
 exact zC8 V ⟨.refl _,m0,Gm ha0 (Bk e2),Nat.lt_of_le_of_ne hb0 (Bk e1),Nat.zero_lt_one⟩
end
section
variable {X:SX}{k:Keyed->Int}{κ:SortKind}{S:Keyed->Prop}
structure MH (k:Keyed->Int) (a b T:List Keyed) (na nb:Nat):Prop where
 la:na<=a.length
 lb:nb<=b.length
 perm:T.Perm (a.drop na++b.drop nb)
 srt:Hl k T
 sa:Hl k a
 sb:Hl k b
 ba:D4 k (a.take na) T
 bb:D4 k (b.take nb) T
theorem MH.symm{a b T:List Keyed}{na nb:Nat}(m:MH k a b T na nb):MH k b a T nb na:=⟨m.lb,m.la,m.perm.trans List.perm_append_comm,m.srt,m.sb,m.sa,m.bb,m.ba⟩
theorem MH.size{a b T:List Keyed}{na nb:Nat}(m:MH k a b T na nb):T.length+na+nb=a.length+b.length:=by
 have:=m.perm.length_eq
 have h1:=m.la;have h2:=m.lb;simp at this
 exact Ha (λZ=>A8 [_,_,_,_,_,_,_] [A7 (.a (.a x4 x0) x2) (.a x1 x3),Gl x4 (.a x5 x6),A5 x1 (.a x5 x0),A5 x3 (.a x6 x2)] rT Z this (Ax _ _) (Ax _ _)) (λZ=>A8 [_,_,_,_,_,_,_] [A7 (.a x1 x3) (.a (.a x4 x0) x2),B9 x4 (.a x5 x6),B9 (.a x5 x0) x1,B9 (.a x6 x2) x3] rT Z this (Aq (Aw λY=>A8 [_,_] [A7 x1 x0,A5 x0 x1] rT Y h1)) (Aq (Aw λY=>A8 [_,_] [A7 x1 x0,A5 x0 x1] rT Y h2)))
theorem zBs{a:List Keyed}{m n:Nat}(h:m<=n) (hn:n<=a.length):a.drop m=(a.take n).drop m++a.drop n:=by
 have:(a.take n++a.drop n).drop m=(a.take n).drop m++a.drop n:=List.drop_append_of_le_length (by simp;omega)
 rwa [List.take_append_drop]at this
theorem Jd{a:List Keyed}{m n:Nat}(h:m<=n):a.take n=a.take m++(a.take n).drop m:=by
 have:=List.take_append_drop m (a.take n)
 rw[List.take_take,Nat.min_eq_left h]at this;exact this.symm
theorem MH.goA{a b T T':List Keyed}{na nb:Nat}(m:MH k a b T na nb) (n:Nat) (hn:n<=na) (hle:D4 k (b.take nb) ((a.take na).drop n)) (e:T'=(a.take na).drop n++T):MH k a b T' n nb:=by
 subst e;have hst:Hl k (a.take na):=m.sa.sublist (List.take_sublist _ _)
 refine⟨Nat.le_trans hn m.la,m.lb,?_,?_,m.sa,m.sb,?_,?_⟩
 ·simp only[zBs hn m.la,lq8];exact m.perm.append_left _
 ·refine List.pairwise_append.mpr ⟨hst.sublist (List.drop_sublist _ _),m.srt,λx hx y hy=>m.ba x (List.mem_of_mem_drop hx) y hy⟩
 ·intro x hx y hy;rw[Jd hn]at hst;rcases List.mem_append.mp hy with hy|hy
  ·exact(List.pairwise_append.mp hst).2.2 x hx y hy
  ·exact m.ba x (by rw[Jd hn];exact List.mem_append_left _ hx) y hy
 ·intro x hx y hy;rcases List.mem_append.mp hy with hy|hy
  ·exact hle x hx y hy
  ·exact m.bb x hx y hy
theorem MH.goB{a b T T':List Keyed}{na nb:Nat}(m:MH k a b T na nb) (n:Nat) (hn:n<=nb) (hle:D4 k (a.take na) ((b.take nb).drop n)) (e:T'=(b.take nb).drop n++T):MH k a b T' na n:=
 (m.symm.goA n hn hle e).symm
theorem MH.endA{a b T:List Keyed}{na nb:Nat}(m:MH k a b T na nb) (h:na=0):Fp k a b (b.take nb++T):=by
 subst h;refine⟨?_,List.pairwise_append.mpr ⟨m.sb.sublist (List.take_sublist _ _),m.srt,m.bb⟩⟩
 have:=m.perm.append_left (b.take nb)
 refine this.trans ?_
 rw[List.drop_zero];refine(List.perm_append_comm).trans ?_
 rw[lq8];refine List.Perm.append_left _ ?_
 refine(List.perm_append_comm).trans ?_
 rw[List.take_append_drop]
theorem MH.endB{a b T:List Keyed}{na nb:Nat}(m:MH k a b T na nb) (h:nb=0):Fp k a b (a.take na++T):=
 let⟨p,s⟩:=m.symm.endA h
 ⟨p.trans List.perm_append_comm,s⟩
theorem MH.endF{a b T:List Keyed}{na nb:Nat}(m:MH k a b T na nb) (h:D4 k (b.take nb) (a.take na)):Fp k a b (b.take nb++a.take na++T):=by
 have m2:=m.goA 0 (lq5 _) (by rw[List.drop_zero];exact h) rfl
 have:=m2.endA rfl
 rw[List.drop_zero,←lq8]at this;exact this
theorem Qw{a:List Keyed}{n:Nat}{x:Keyed}(h:0<n) (e:a[n - 1]? =some x):(a.take n).drop (n - 1)=[x]:=by
 obtain⟨hi,rfl⟩:=lq2 e;have e2:a.take n=a.take (n - 1)++[a[n - 1]]:=by
  have:=List.take_add_one (l:=a) (i:=n - 1)
  rw[show n - 1+1=n by exact Ha (λZ=>A8 [_,_] [A7 (.a x1 (.n 1)) x0,A5 x0 (.a x1 (.n 1))] rT Z (Ax _ _)) (λZ=>A8 [_,_] [A7 x0 (.a x1 (.n 1)),B9 (.a x1 (.n 1)) x0] rT Z (Aq (Aw λY=>A8 [_] [A7 x0 (.n 1),A7 (.n 0) x0] rT Y h))),List.getElem?_eq_getElem hi]at this
  simpa using this
 rw[e2,List.drop_append_of_le_length (by simp;omega),List.drop_of_length_le (by simp;omega)]
 rfl
theorem Om{l:List Keyed}{n:Nat}{x:Keyed}(h:x∈l.take n):∃j,j<n/\l[j]? =some x:=by
 have:=Rp (l:=l) (i:=0) (n:=n) (x:=x) (by simpa using h)
 simpa using this
theorem Ka{a:List Keyed}(h:Hl k a){n:Nat}{x:Keyed}(e:a[n - 1]? =some x):∀y,y∈a.take n->k y<=k x:=λy hy=>by
 obtain⟨j,hj,e2⟩:=Om hy;exact L7 h (by exact Aw λZ=>A8 [_,_,_] [A7 x1 x0,A7 x0 x2,A5 x2 (.a x1 (.n 1))] rT Z hj (Ax _ _)) e2 e
theorem D4.one'{x:Keyed}{l:List Keyed}(h:∀y,y∈l->k y<=k x):D4 k l [x]:=λy hy z hz=>by rw[lq0 hz];exact h y hy
theorem Zu(a:Array Keyed) (n:Nat):(a.extract 0 n).toList=a.toList.take n:=by
 rw[Array.toList_extract,List.extract_eq_take_drop];simp
theorem Oc(a:Array Keyed) (m n:Nat):(a.extract m n).toList=(a.toList.take n).drop m:=by
 simp only[Array.toList_extract,List.extract_eq_take_drop,List.drop_take]
theorem Gn{l:List Keyed}{n r:Nat}{x:Keyed}(h:x∈(l.take n).drop r):∃i,r+i<n/\l[r+i]? =some x:=by
 obtain⟨i,e⟩:=Pq h;have hi:r+i<n:=by
  have:=(lq2 e).1
  rw[List.length_take]at this;omega
 rw[List.getElem?_take_of_lt hi]at e;exact⟨i,hi,e⟩
structure Xe (X:SX) (k:Keyed->Int) (κ:SortKind) (S:Keyed->Prop) (a b:Array Keyed) (st:SortSt) (Q:Array Keyed->SortSt->Prop):Prop where
 H:Sp X k κ S
 hk:kindOf st=κ
 hSa:∀p,p∈a.toList->S p
 hSb:∀p,p∈b.toList->S p
 sa:Hl k a.toList
 sb:Hl k b.toList
 firstB:∀(out:Array Keyed) (na nb:Nat) (st':SortSt),MH k a.toList b.toList out.toList.reverse na nb->nb=1->Fz st st'->Q (b.extract 0 nb++a.extract 0 na++out.reverse) st'
 doneA:∀(out:Array Keyed) (na nb:Nat) (st':SortSt),MH k a.toList b.toList out.toList.reverse na nb->na=0->Fz st st'->Q (a.extract 0 na++b.extract 0 nb++out.reverse) st'
 doneB:∀(out:Array Keyed) (na nb:Nat) (st':SortSt),MH k a.toList b.toList out.toList.reverse na nb->nb=0->Fz st st'->Q (a.extract 0 na++b.extract 0 nb++out.reverse) st'
structure Hu (k:Keyed->Int) (a b:Array Keyed) (st:SortSt) (x:Nat) (out:Array Keyed) (na nb:Nat) (st':SortSt):Prop where
 s:Fz st st'
 m:MH k a.toList b.toList out.toList.reverse na nb
 ha:0<na
 hb:1<nb
 hx:x<out.size
theorem Ts(out:Array Keyed) (p:Keyed):(out.push p).toList.reverse=[p]++out.toList.reverse:=by rw[Array.toList_push,List.reverse_append];rfl
theorem Xg(out c:Array Keyed):(out++c.reverse).toList.reverse=c.toList++out.toList.reverse:=by rw[Array.toList_append,Array.toList_reverse,List.reverse_append,List.reverse_reverse]
section
variable {a b:Array Keyed}{st st2 st3:SortSt}{x na nb:Nat}{out:Array Keyed}{pa pb:Keyed}
theorem Hu.la(m:Hu k a b st x out na nb st2):na<=a.size:=by have:=m.m.la;rwa [Array.length_toList]at this
theorem Hu.lb(m:Hu k a b st x out na nb st2):nb<=b.size:=by have:=m.m.lb;rwa [Array.length_toList]at this
theorem Hu.step(m:Hu k a b st x out na nb st2) (s:Fz st2 st3):Hu k a b st x out na nb st3:=⟨m.s.trans s,m.m,m.ha,m.hb,m.hx⟩
theorem Hu.le{y:Nat}(m:Hu k a b st x out na nb st2) (h:y<=x):Hu k a b st y out na nb st2:=⟨m.s,m.m,m.ha,m.hb,Nat.lt_of_le_of_lt h m.hx⟩
theorem Hu.out_lt(m:Hu k a b st x out na nb st2) (h:a.size+b.size<=x):False:=by
 have z:=m.m.size;have h3:=m.hx;simp only[List.length_reverse,Array.length_toList,Array.length_toList,Array.length_toList]at z;exact A8 [_,_,_,_,_,_] [A5 (.a x0 x1) x2,B9 (.a (.a x3 x4) x5) (.a x0 x1),A7 x2 x3,A5 (.n 0) x4,A5 (.n 0) x5] rT h z h3 (lq5 _) (lq5 _)
theorem Hu.atA(m:Hu k a b st x out na nb st2):∃p,a.toList[na - 1]? =some p:=Bl (Nat.lt_of_lt_of_le (Nat.sub_lt m.ha Nat.zero_lt_one) m.la)
theorem Hu.atB(m:Hu k a b st x out na nb st2):∃p,b.toList[nb - 1]? =some p:=Bl (Nat.lt_of_lt_of_le (Nat.sub_lt (Nat.lt_of_succ_lt m.hb) Nat.zero_lt_one) m.lb)
theorem Hu.pushA(m:Hu k a b st x out na nb st2) (e:a.toList[na - 1]? =some pa) (h:∀y,y∈b.toList.take nb->k y<=k pa):MH k a.toList b.toList (out.push pa).toList.reverse (na - 1) nb:=
 m.m.goA (na - 1) (Nat.sub_le _ _) (by rw[Qw m.ha e];exact D4.one' h) (by rw[Qw m.ha e];exact Ts _ _)
theorem Hu.pushB(m:Hu k a b st x out na nb st2) (e:b.toList[nb - 1]? =some pb) (h:∀y,y∈a.toList.take na->k y<=k pb):MH k a.toList b.toList (out.push pb).toList.reverse na (nb - 1):=
 m.m.goB (nb - 1) (Nat.sub_le _ _) (by rw[Qw (Nat.lt_of_succ_lt m.hb) e];exact D4.one' h) (by rw[Qw (Nat.lt_of_succ_lt m.hb) e];exact Ts _ _)
end
noncomputable abbrev Xh:=Option (Array Keyed)×Nat×Nat×Array Keyed×Nat×Nat×Nat
noncomputable def zKy (k:Keyed->Int) (a b:Array Keyed) (st:SortSt) (x:Nat) (c:Xh) (st':SortSt):Prop:=c.1=none/\Hu k a b st x c.2.2.2.1 c.2.1 c.2.2.1 st'
noncomputable def zKO (k:Keyed->Int) (a b:Array Keyed) (st:SortSt) (Q:Array Keyed->SortSt->Prop) (x:Nat) (c:Xh) (st':SortSt):Prop:=
 (∃r,c.1=some r/\Q r st')∨(c.1=none/\Hu k a b st x c.2.2.2.1 c.2.1 c.2.2.1 st')
noncomputable def Oy (k:Keyed->Int) (a b:Array Keyed) (st:SortSt) (Q:Array Keyed->SortSt->Prop) (x:Nat) (r:ForInStep Xh) (st':SortSt):Prop:=
 match r with|.done c'=>zKO k a b st Q x c' st'|.yield c'=>zKy k a b st x c' st'
variable {a b:Array Keyed}{st:SortSt}{Q:Array Keyed->SortSt->Prop}
theorem Oy.ret{x na nb mg ac bc:Nat}{r out:Array Keyed}{st':SortSt}(h:Q r st'):Oy k a b st Q x (.done (some r,na,nb,out,mg,ac,bc)) st':=.inl ⟨_,rfl,h⟩
theorem Oy.brk{x na nb mg ac bc:Nat}{out:Array Keyed}{st':SortSt}(h:Hu k a b st x out na nb st'):Oy k a b st Q x (.done (none,na,nb,out,mg,ac,bc)) st':=.inr ⟨rfl,h⟩
theorem Oy.go{x na nb mg ac bc:Nat}{out:Array Keyed}{st':SortSt}(h:Hu k a b st x out na nb st'):Oy k a b st Q x (.yield (none,na,nb,out,mg,ac,bc)) st':=⟨rfl,h⟩
theorem Oy.less{x:Nat}{st':SortSt}:∀{r:ForInStep Xh},Oy k a b st Q (x+1) r st'->Oy k a b st Q x r st'
 |.done _,h=>Or.imp id (λh=>⟨h.1,h.2.le (Nat.le_succ _)⟩) h
 |.yield _,h=>⟨h.1,h.2.le (Nat.le_succ _)⟩
noncomputable def Vl (a b out:Array Keyed) (na nb mg ac bc:Nat):StateT SortSt Sem (ForInStep Xh):=do
 let p ←elem' a (na - 1)
 if(na - 1==0)=true then pure (.done (some (a.extract 0 (na - 1)++b.extract 0 nb++(out.push p).reverse),na - 1,nb,out.push p,mg,ac,bc))
 else if(decide (ac<7)&&decide (bc<7))=true then pure (.done (none,na - 1,nb,out.push p,mg,ac,bc))
 else pure (.yield (none,na - 1,nb,out.push p,mg,ac,bc))
theorem Qt(V:Xe X k κ S a b st Q){x na nb mg ac bc:Nat}{out:Array Keyed}{st2:SortSt}{pa:Keyed}(m:Hu k a b st x out na nb st2) (epa:a.toList[na - 1]? =some pa) (hpa:∀y,y∈b.toList.take nb->k y<=k pa):
  SW X (Vl a b out na nb mg ac bc) (Oy k a b st Q (x+1)) st2:=by
 have m1:=m.pushA epa hpa;refine Ae (C7 (Ar epa) (Be (λd=>?_) λd=>?_))
 ·exact Ai (Oy.ret (V.doneA _ _ _ _ m1 (Bj d) m.s))
 ·have m2:Hu k a b st (x+1) (out.push pa) (na - 1) nb st2:=⟨m.s,m1,Nat.pos_of_ne_zero (Bk d),m.hb,H9 m.hx⟩
  exact Be (λ_=>Ai (Oy.brk m2)) λ_=>Ai (Oy.go m2)
noncomputable def zCw (a b out:Array Keyed) (na nb mg ac r:Nat):StateT SortSt Sem (ForInStep Xh):=
 if nb - r>0 then
  if(r==1)=true then pure (.done (some (b.extract 0 r++a.extract 0 na++(out++(b.extract r nb).reverse).reverse),na,r,out++(b.extract r nb).reverse,mg,ac,nb - r))
  else if(r==0)=true then pure (.done (some (a.extract 0 na++b.extract 0 r++(out++(b.extract r nb).reverse).reverse),na,r,out++(b.extract r nb).reverse,mg,ac,nb - r))
  else Vl a b (out++(b.extract r nb).reverse) na r mg ac (nb - r)
 else Vl a b out na nb mg ac (nb - r)
theorem Zb(V:Xe X k κ S a b st Q){x na nb mg ac r:Nat}{out:Array Keyed}{st2:SortSt}{pa:Keyed}(m:Hu k a b st x out na nb st2) (epa:a.toList[na - 1]? =some pa) (hr:r<=nb) (hhigh:D4 k (a.toList.take na) ((b.toList.take nb).drop r)) (hpa:∀y,y∈b.toList.take r->k y<=k pa):
  SW X (zCw a b out na nb mg ac r) (Oy k a b st Q (x+1)) st2:=by
 refine Be (λh0=>?_) λh0=>?_
 ·have m1:MH k a.toList b.toList (out++(b.extract r nb).reverse).toList.reverse na r:=m.m.goB r hr hhigh (by rw[Xg,Oc])
  refine Be (λd=>?_) λd=>Be (λe=>?_) λe=>?_
  ·exact Ai (Oy.ret (V.firstB _ _ _ _ m1 (Bj d) m.s))
  ·exact Ai (Oy.ret (V.doneB _ _ _ _ m1 (Bj e) m.s))
  ·refine Qt V ⟨m.s,m1,m.ha,Nat.lt_of_le_of_ne (Nat.pos_of_ne_zero (Bk e)) (Ne.symm (Bk d)),?_⟩ epa hpa
   rw[Array.size_append];exact Nat.lt_of_lt_of_le m.hx (Nat.le_add_right _ _)
 ·have:r=nb:=Nat.le_antisymm hr (by exact Aw λZ=>A8 [_,_,_] [A7 x0 x1,A5 x2 (.n 0),A5 x1 (.a x2 x0)] rT Z (Nat.not_lt.mp h0) (Ax _ _))
  subst this;exact Qt V m epa hpa
theorem zAw(V:Xe X k κ S a b st Q){na nb:Nat}{st2:SortSt}{pa:Keyed}{R:Option Nat->SortSt->Prop}(s2:Fz st st2) (epa:a.toList[na - 1]? =some pa) (hnb:0<nb) (lb:nb<=b.size)
  (h:∀r,r<=nb->D4 k (a.toList.take na) ((b.toList.take nb).drop r)->(∀y,y∈b.toList.take r->k y<=k pa)->R (some r) st2):SW X (E0 true pa b 0 nb (nb - 1)) R st2:=by
 refine Go V.H (s2.1.trans V.hk) (V.hSa _ (Df epa)) (λi hi=>?_) (Nat.sub_lt hnb Nat.zero_lt_one) (λi=>match b.toList[i]? with|some p=>decide (k p<k pa)|none=>false) (λi hi p e=>?_) (λi j hij hj hbj=>?_) λr hr hlow hhigh=>h r hr (λu hu v hv=>?_) λy hy=>?_
 ·obtain⟨p,e⟩:=Bl (a:=b) (i:=i) (Nat.lt_of_lt_of_le hi lb)
  exact⟨p,by rw[Nat.zero_add];exact Ar e,V.hSb _ (Df e)⟩
 ·have e':b.toList[i]? =some p:=by rw[Nat.zero_add]at e;simpa using e
  rw[if_pos rfl,e']
 ·apply yo;intro _ k0
  obtain⟨p,e⟩:=Bl (a:=b) (i:=i) (Nat.lt_of_le_of_lt hij (Nat.lt_of_lt_of_le hj lb))
  obtain⟨q,e'⟩:=Bl (a:=b) (i:=j) (Nat.lt_of_lt_of_le hj lb)
  apply k0
  rw[e']at hbj;rw[e];exact decide_eq_true (Int.lt_of_le_of_lt (L7 V.sb hij e e') (of_decide_eq_true hbj))
 ·obtain⟨i,hi,e⟩:=Gn hv;have:=hhigh (r+i) (Nat.le_add_right _ _) hi
  rw[e]at this;exact Int.le_trans (Ka V.sa epa u hu) (Int.not_lt.mp (of_decide_eq_false this))
 ·obtain⟨i,hi,e⟩:=Om hy;have:=hlow i hi
  rw[e]at this;exact Int.le_of_lt (of_decide_eq_true this)
theorem zC6(V:Xe X k κ S a b st Q){na nb:Nat}{st2:SortSt}{pb:Keyed}{R:Option Nat->SortSt->Prop}(s2:Fz st st2) (epb:b.toList[nb - 1]? =some pb) (hna:0<na) (la:na<=a.size)
  (h:∀r,r<=na->D4 k (b.toList.take nb) ((a.toList.take na).drop r)->(∀y,y∈a.toList.take r->k y<=k pb)->R (some r) st2):SW X (E0 false pb a 0 na (na - 1)) R st2:=by
 refine Go V.H (s2.1.trans V.hk) (V.hSb _ (Df epb)) (λi hi=>?_) (Nat.sub_lt hna Nat.zero_lt_one) (λi=>match a.toList[i]? with|some p=>!decide (k pb<k p)|none=>false) (λi hi p e=>?_) (λi j hij hj hbj=>?_) λr hr hlow hhigh=>h r hr (λu hu v hv=>?_) λy hy=>?_
 ·obtain⟨p,e⟩:=Bl (a:=a) (i:=i) (Nat.lt_of_lt_of_le hi la)
  exact⟨p,by rw[Nat.zero_add];exact Ar e,V.hSa _ (Df e)⟩
 ·have e':a.toList[i]? =some p:=by rw[Nat.zero_add]at e;simpa using e
  rw[if_neg (λh=>Bool.noConfusion h),e']
 ·apply yo;intro _ k0
  obtain⟨p,e⟩:=Bl (a:=a) (i:=i) (Nat.lt_of_le_of_lt hij (Nat.lt_of_lt_of_le hj la))
  obtain⟨q,e'⟩:=Bl (a:=a) (i:=j) (Nat.lt_of_lt_of_le hj la)
  apply k0
  rw[e']at hbj;rw[e];have:=L7 V.sa hij e e'
  have h2:=of_decide_eq_false (Bool.not_eq_true' _ |>.mp hbj)
  exact(Bool.not_eq_true' _).mpr (decide_eq_false (by exactλZ=>A4 [_,_,_] [A7 x1 x0,A5 x0 x2,A5 x2 x1] rT Z this (Int.not_lt.mp h2)))
 ·obtain⟨i,hi,e⟩:=Gn hv;have:=hhigh (r+i) (Nat.le_add_right _ _) hi
  rw[e]at this;exact Int.le_trans (Ka V.sb epb u hu) (Int.le_of_lt (of_decide_eq_true ((Bool.not_eq_false' _).mp this)))
 ·obtain⟨i,hi,e⟩:=Om hy;have:=hlow i hi
  rw[e]at this;exact Int.not_lt.mp (of_decide_eq_false ((Bool.not_eq_true' _).mp this))
noncomputable def zCE (a b out:Array Keyed) (na nb mg ac bc:Nat):StateT SortSt Sem (ForInStep Xh):=do
 let p ←elem' b (nb - 1)
 if(nb - 1==1)=true then pure (.done (some (b.extract 0 (nb - 1)++a.extract 0 na++(out.push p).reverse),na,nb - 1,out.push p,mg,ac,bc))
 else
  let q ←elem' a (na - 1)
  match ←E0 true q b 0 (nb - 1) (nb - 1 - 1)with
  |some r=>zCw a b (out.push p) na (nb - 1) mg ac r
  |_=>pure (.done (some (a.extract 0 na++b.extract 0 (nb - 1)++(out.push p).reverse),na,nb - 1,out.push p,mg,ac,bc))
theorem Tv(V:Xe X k κ S a b st Q){x na nb mg ac bc:Nat}{out:Array Keyed}{st2:SortSt}{pb:Keyed}(m:Hu k a b st x out na nb st2) (epb:b.toList[nb - 1]? =some pb) (hpb:∀y,y∈a.toList.take na->k y<=k pb):
  SW X (zCE a b out na nb mg ac bc) (Oy k a b st Q x) st2:=by
 have m1:=m.pushB epb hpb;refine Ae (C7 (Ar epb) (Be (λd=>?_) λd=>?_))
 ·exact Ai (Oy.ret (V.firstB _ _ _ _ m1 (Bj d) m.s))
 ·have hnb:1<nb - 1:=Nat.lt_of_le_of_ne (Nat.le_sub_of_add_le m.hb) (Ne.symm (Bk d))
  have m2:Hu k a b st x (out.push pb) na (nb - 1) st2:=⟨m.s,m1,m.ha,hnb,Nat.lt_of_succ_lt (H9 m.hx)⟩
  obtain⟨pa,epa⟩:=m.atA;refine Ae (C7 (Ar epa) (Ae (zAw V m.s epa (Nat.lt_of_succ_lt hnb) m2.lb λr hr h1 h2=>?_)))
  exact Bz (Zb V m2 epa hr h1 h2) λr st' q=>Oy.less q
noncomputable def zF5 (a b out:Array Keyed) (na nb mg bc r:Nat):StateT SortSt Sem (ForInStep Xh):=
 if na - r>0 then
  if(r==0)=true then pure (.done (some (a.extract 0 r++b.extract 0 nb++(out++(a.extract r na).reverse).reverse),r,nb,out++(a.extract r na).reverse,mg,na - r,bc))
  else zCE a b (out++(a.extract r na).reverse) r nb mg (na - r) bc
 else zCE a b out na nb mg (na - r) bc
theorem zAl(V:Xe X k κ S a b st Q){x na nb mg bc r:Nat}{out:Array Keyed}{st2:SortSt}{pb:Keyed}(m:Hu k a b st x out na nb st2) (epb:b.toList[nb - 1]? =some pb) (hr:r<=na) (hhigh:D4 k (b.toList.take nb) ((a.toList.take na).drop r)) (hpb:∀y,y∈a.toList.take r->k y<=k pb):
  SW X (zF5 a b out na nb mg bc r) (Oy k a b st Q x) st2:=by
 refine Be (λh0=>?_) λh0=>?_
 ·have m1:MH k a.toList b.toList (out++(a.extract r na).reverse).toList.reverse r nb:=m.m.goA r hr hhigh (by rw[Xg,Oc])
  refine Be (λd=>?_) λd=>?_
  ·exact Ai (Oy.ret (V.doneA _ _ _ _ m1 (Bj d) m.s))
  ·refine Tv V ⟨m.s,m1,Nat.pos_of_ne_zero (Bk d),m.hb,?_⟩ epb hpb
   rw[Array.size_append];exact Nat.lt_of_lt_of_le m.hx (Nat.le_add_right _ _)
 ·have:r=na:=Nat.le_antisymm hr (by exact Aw λZ=>A8 [_,_,_] [A7 x0 x1,A5 x2 (.n 0),A5 x1 (.a x2 x0)] rT Z (Nat.not_lt.mp h0) (Ax _ _))
  subst this;exact Tv V m epb hpb
noncomputable def Uv (a b out:Array Keyed) (na nb mg ac bc:Nat):StateT SortSt Sem (ForInStep Xh):=do
 modify λs=>SortSt.mk' (kindOf s) (arrOf s) (pendingOf s) mg (failedOf s)
 let p ←elem' b (nb - 1)
 match ←E0 false p a 0 na (na - 1)with
 |some r=>zF5 a b out na nb mg bc r
 |_=>pure (.done (some (a.extract 0 na++b.extract 0 nb++out.reverse),na,nb,out,mg,ac,bc))
theorem R8(V:Xe X k κ S a b st Q){x na nb mg ac bc:Nat}{out:Array Keyed}{st2:SortSt}(m:Hu k a b st x out na nb st2):
  SW X (Uv a b out na nb mg ac bc) (Oy k a b st Q x) st2:=by
 obtain⟨pb,epb⟩:=m.atB;refine Ae (K6 λst3 s23=>?_)
 have m':=m.step s23;exact Ae (C7 (Ar epb) (Ae (zC6 V m'.s epb m.ha m.la λr hr h1 h2=>zAl V m' epb hr h1 h2)))
noncomputable abbrev zEn:=Option (Array Keyed)×Nat×Nat×Array Keyed×Nat×Nat
noncomputable def zK7 (k:Keyed->Int) (a b:Array Keyed) (st:SortSt) (x:Nat) (c:zEn) (st':SortSt):Prop:=c.1=none/\Hu k a b st x c.2.2.2.1 c.2.1 c.2.2.1 st'
noncomputable def zKS (k:Keyed->Int) (a b:Array Keyed) (st:SortSt) (Q:Array Keyed->SortSt->Prop) (x:Nat) (c:zEn) (st':SortSt):Prop:=
 (∃r,c.1=some r/\Q r st')∨(c.1=none/\Hu k a b st x c.2.2.2.1 c.2.1 c.2.2.1 st')
noncomputable def Z9 (k:Keyed->Int) (a b:Array Keyed) (st:SortSt) (Q:Array Keyed->SortSt->Prop) (x y:Nat) (r:ForInStep zEn) (st':SortSt):Prop:=
 match r with|.done c'=>zKS k a b st Q x c' st'|.yield c'=>zK7 k a b st y c' st'
theorem Z9.ret{x y na nb ac bc:Nat}{r out:Array Keyed}{st':SortSt}(h:Q r st'):Z9 k a b st Q x y (.done (some r,na,nb,out,ac,bc)) st':=.inl ⟨_,rfl,h⟩
theorem Z9.brk{x y na nb ac bc:Nat}{out:Array Keyed}{st':SortSt}(h:Hu k a b st x out na nb st'):Z9 k a b st Q x y (.done (none,na,nb,out,ac,bc)) st':=.inr ⟨rfl,h⟩
theorem Z9.go{x y na nb ac bc:Nat}{out:Array Keyed}{st':SortSt}(h:Hu k a b st y out na nb st'):Z9 k a b st Q x y (.yield (none,na,nb,out,ac,bc)) st':=⟨rfl,h⟩
noncomputable def zA3 (a b out:Array Keyed) (na nb ac bc mg:Nat):StateT SortSt Sem (ForInStep zEn):=do
 let y ←elem' b (nb - 1)
 let x ←elem' a (na - 1)
 match ←lt' y x with
 |some w=>
  if w=true then
   let p ←elem' a (na - 1)
   if(na - 1==0)=true then pure (.done (some (a.extract 0 (na - 1)++b.extract 0 nb++(out.push p).reverse),na - 1,nb,out.push p,ac+1,0))
   else if ac+1≥mg then pure (.done (none,na - 1,nb,out.push p,ac+1,0))else pure (.yield (none,na - 1,nb,out.push p,ac+1,0))
  else
   let p ←elem' b (nb - 1)
   if(nb - 1==1)=true then pure (.done (some (b.extract 0 (nb - 1)++a.extract 0 na++(out.push p).reverse),na,nb - 1,out.push p,0,bc+1))
   else if bc+1≥mg then pure (.done (none,na,nb - 1,out.push p,0,bc+1))else pure (.yield (none,na,nb - 1,out.push p,0,bc+1))
 |_=>pure (.done (some (a.extract 0 na++b.extract 0 nb++out.reverse),na,nb,out,ac,bc))
theorem Yn(V:Xe X k κ S a b st Q){x y na nb mg ac bc:Nat}{out:Array Keyed}{st1:SortSt}(m:Hu k a b st (x+y) out na nb st1):
  SW X (zA3 a b out na nb ac bc mg) (Z9 k a b st Q (x+1) (x+(y+1))) st1:=by
 have hyx:x+1<=x+y+1:=Nat.succ_le_succ (Nat.le_add_right _ _)
 obtain⟨pa,epa⟩:=m.atA;obtain⟨pb,epb⟩:=m.atB;refine Ae (C7 (Ar epb) (Ae (C7 (Ar epa) (Ae (V.H _ _ (V.hSb _ (Df epb)) (V.hSa _ (Df epa)) st1 _ (m.s.1.trans V.hk) ?_)))))
 refine Be (λhlt=>Ae (C7 (Ar epa) ?_)) λhlt=>Ae (C7 (Ar epb) ?_)
 ·have m1:=m.pushA epa λy hy=>Int.le_trans (Ka V.sb epb y hy) (Int.le_of_lt (of_decide_eq_true hlt))
  refine Be (λc1=>Ai (Z9.ret (V.doneA _ _ _ _ m1 (Bj c1) m.s))) λc1=>?_
  have m2:Hu k a b st (x+y+1) (out.push pa) (na - 1) nb st1:=⟨m.s,m1,Nat.pos_of_ne_zero (Bk c1),m.hb,H9 m.hx⟩
  exact Be (λ_=>Ai (Z9.brk (m2.le hyx))) λ_=>Ai (Z9.go m2)
 ·have m1:=m.pushB epb λy hy=>Int.le_trans (Ka V.sa epa y hy) (Int.not_lt.mp λh=>hlt (decide_eq_true h))
  refine Be (λc1=>Ai (Z9.ret (V.firstB _ _ _ _ m1 (Bj c1) m.s))) λc1=>?_
  have m2:Hu k a b st (x+y+1) (out.push pb) na (nb - 1) st1:=⟨m.s,m1,m.ha,Nat.lt_of_le_of_ne (Nat.le_sub_of_add_le m.hb) (Ne.symm (Bk c1)),H9 m.hx⟩
  exact Be (λ_=>Ai (Z9.brk (m2.le hyx))) λ_=>Ai (Z9.go m2)
noncomputable def zIx (a b:Array Keyed) (c:Xh):StateT SortSt Sem (ForInStep Xh):=
 if c.2.2.2.2.1>1 then Uv a b c.2.2.2.1 c.2.1 c.2.2.1 (c.2.2.2.2.1 - 1) c.2.2.2.2.2.1 c.2.2.2.2.2.2 else Uv a b c.2.2.2.1 c.2.1 c.2.2.1 c.2.2.2.2.1 c.2.2.2.2.2.1 c.2.2.2.2.2.2
noncomputable def zJv (a b:Array Keyed) (mg:Nat) (c:zEn):StateT SortSt Sem (ForInStep zEn):=zA3 a b c.2.2.2.1 c.2.1 c.2.2.1 c.2.2.2.2.1 c.2.2.2.2.2 mg
noncomputable abbrev zIG:=Option (Array Keyed)×Nat×Nat×Array Keyed×Nat
noncomputable def zCe (c:Xh):StateT SortSt Sem (ForInStep zIG):=
 match c.1 with
 |some v=>pure (.done (some v,c.2.1,c.2.2.1,c.2.2.2.1,c.2.2.2.2.1))
 |none=>do
  modify λs=>SortSt.mk' (kindOf s) (arrOf s) (pendingOf s) (c.2.2.2.2.1+1) (failedOf s)
  pure (.yield (none,c.2.1,c.2.2.1,c.2.2.2.1,c.2.2.2.2.1+1))
noncomputable def Si (a b:Array Keyed) (mg:Nat) (c:zEn):StateT SortSt Sem (ForInStep zIG):=
 match c.1 with
 |some v=>pure (.done (some v,c.2.1,c.2.2.1,c.2.2.2.1,mg))
 |none=>do
  liftM (rule "list.sort.gallop")
  let r ←forIn [0:a.size+b.size] ((none,c.2.1,c.2.2.1,c.2.2.2.1,mg+1,c.2.2.2.2.1,c.2.2.2.2.2):Xh) (λ_ c=>zIx a b c)
  zCe r
noncomputable def zFU (a b:Array Keyed) (c:zIG):StateT SortSt Sem (ForInStep zIG):=do
 let r ←forIn [0:a.size+b.size] ((none,c.2.1,c.2.2.1,c.2.2.2.1,0,0):zEn) (λ_ c'=>zJv a b c.2.2.2.2 c')
 Si a b c.2.2.2.2 r
noncomputable def zGJ (a b:Array Keyed) (p:Keyed) (mg:Nat):StateT SortSt Sem (Array Keyed):=do
 let r ←forIn [0:a.size+b.size] ((none,a.size - 1,b.size,#[p],mg):zIG) (λ_ c=>zFU a b c)
 match r.1 with
 |some v=>pure v
 |none=>liftM (unsupported "internal:list.sort.merge-bound":Sem (Array Keyed))
noncomputable def zJj (k:Keyed->Int) (a b:Array Keyed) (st:SortSt) (Q:Array Keyed->SortSt->Prop) (x:Nat) (r:ForInStep zIG) (st':SortSt):Prop:=
 match r with|.done c'=>∃r,c'.1=some r/\Q r st'|.yield c'=>c'.1=none/\Hu k a b st x c'.2.2.2.1 c'.2.1 c'.2.2.1 st'
theorem zCO{x:Nat}{c:Xh}{st1:SortSt}(h:zKO k a b st Q x c st1):SW X (zCe c) (zJj k a b st Q x) st1:=by
 unfold zCe;rcases h with⟨r,e,hq⟩|⟨e,m⟩
 ·rw[e];exact Ai ⟨r,rfl,hq⟩
 ·rw[e];exact Ae (K6 λst3 s23=>Ai ⟨rfl,m.step s23⟩)
theorem Zj(V:Xe X k κ S a b st Q){x mg:Nat}{c:zEn}{st1:SortSt}(h:zKS k a b st Q (x+1) c st1):SW X (Si a b mg c) (zJj k a b st Q (x+1)) st1:=by
 unfold Si;rcases h with⟨r,e,hq⟩|⟨e,m⟩
 ·rw[e];exact Ai ⟨r,rfl,hq⟩
 rw[e];refine Ae (Kc (Ae (Bz (Do (I:=λy c st'=>zKy k a b st (x+1) c st') (Q:=zKO k a b st Q (x+1)) ⟨rfl,m⟩ (lq5 _) (λy c st1 _ hy h=>?_) (λc st' h=>.inr h)) λc st2 h=>zCO h)))
 refine Bz (Q:=Oy k a b st Q (x+1)) (Be (λ_=>R8 V h.2) λ_=>R8 V h.2) λr st' q=>?_
 cases r<;>exact q
theorem zAT(V:Xe X k κ S a b st Q){p:Keyed}{mg:Nat}(M0:Hu k a b st 0 #[p] (a.size - 1) b.size st):SW X (zGJ a b p mg) Q st:=by
 refine Ae (Bz (Do (I:=λx c st'=>c.1=none/\Hu k a b st x c.2.2.2.1 c.2.1 c.2.2.1 st') (Q:=λc st'=>∃r,c.1=some r/\Q r st')
  ⟨rfl,M0⟩ (lq5 _) (λx c st0 _ hx h=>?_) (λc st' h=>(h.2.out_lt (Nat.le_refl _)).elim)) ?_)
 ·refine Bz (Q:=zJj k a b st Q (x+1)) (Ae (Bz (Do (I:=λy c st'=>zK7 k a b st (x+y) c st') (Q:=zKS k a b st Q (x+1))
   ⟨rfl,h.2⟩ (lq5 _) (λy c st1 _ hy h=>?_) (λc st' h=>(h.2.out_lt (Nat.le_add_left _ _)).elim)) λc st1 h=>Zj V h)) λr st' q=>?_
  ·exact Bz (Yn V h.2) λr st' q=>by cases r<;>exact q
  ·cases r<;>exact q
 ·rintro c st0 ⟨r,e,hq⟩
  rw[e];exact Ai hq
theorem V3(a b:Array Keyed):M1 a b=(do
  liftM (rule "list.sort.merge-hi")
  let p ←elem' a (a.size - 1)
  if(a.size - 1==0)=true then pure (a.extract 0 (a.size - 1)++b.extract 0 b.size++(#[p]:Array Keyed).reverse)
  else if(b.size==1)=true then pure (b.extract 0 b.size++a.extract 0 (a.size - 1)++(#[p]:Array Keyed).reverse)
  else
   let s ←get
   zGJ a b p (gallopOf s)):=by
 unfold M1;refine bind_congr λ_=>?_
 refine bind_congr λp=>?_
 refine congrArg (λz=>if(a.size - 1==0)=true then _ else z) ?_
 refine congrArg (λz=>if(b.size==1)=true then _ else z) ?_
 refine bind_congr λs=>?_
 refine congr (congrArg bind (congrArg _ (funext λ_=>funext λc=>?_))) (funext λr=>?_)
 ·unfold zFU;refine congr (congrArg bind (congrArg _ (funext λ_=>funext λc=>?_))) (funext λr=>?_)
  ·rfl
  ·unfold Si;rcases r with⟨_|v,r⟩
   ·refine bind_congr λ_=>congr (congrArg bind (congrArg _ (funext λ_=>funext λc=>?_))) (funext λr=>?_)
    ·rfl
    ·rcases r with⟨_|v,r⟩<;>rfl
   ·rfl
 ·rcases r with⟨_|v,r⟩<;>rfl
theorem Xe.of(H:Sp X k κ S) (hk:kindOf st=κ) (hSa:∀p,p∈a.toList->S p) (hSb:∀p,p∈b.toList->S p) (sa:Hl k a.toList) (sb:Hl k b.toList){b0 a0:Keyed}(eb0:b.toList[0]? =some b0) (ea0:a.toList[0]? =some a0) (hf:k b0<=k a0)
  (h:∀out st',Fp k a.toList b.toList out.toList->Fz st st'->Q out st'):Xe X k κ S a b st Q:=by
 refine⟨H,hk,hSa,hSb,sa,sb,λout na nb st' m e s=>h _ st' ?_ s,λout na nb st' m e s=>h _ st' ?_ s,λout na nb st' m e s=>h _ st' ?_ s⟩
 ·simp only[Array.toList_append,Array.toList_append,Zu,Zu,Array.toList_reverse];refine m.endF (λx hx y hy=>?_)
  subst e;have e1:b.toList.take 1=[b0]:=by have:=G0 eb0;rwa [List.drop_zero]at this
  rw[e1]at hx;rw[lq0 hx];exact Int.le_trans hf (En sa ea0 y (by rw[List.drop_zero];exact List.mem_of_mem_take hy))
 ·rw[Array.toList_append,Array.toList_append,Zu,Zu,Array.toList_reverse];have:=m.endA e
  subst e;exact this
 ·rw[Array.toList_append,Array.toList_append,Zu,Zu,Array.toList_reverse];have:=m.endB e
  subst e;simp only[List.take_zero,List.append_nil];exact this
theorem Vj(H:Sp X k κ S){a b:Array Keyed}{st:SortSt}{Q:Array Keyed->SortSt->Prop}(hk:kindOf st=κ) (hSa:∀p,p∈a.toList->S p) (hSb:∀p,p∈b.toList->S p) (sa:Hl k a.toList) (sb:Hl k b.toList)
  (ha0:0<a.size) (hb0:0<b.size) (hfirst:∀x y,b.toList[0]? =some x->a.toList[0]? =some y->k x<=k y) (hlast:∀x y,x∈b.toList->a.toList[a.size - 1]? =some y->k x<=k y)
  (h:∀out st',Fp k a.toList b.toList out.toList->Fz st st'->Q out st'):SW X (M1 a b) Q st:=by
 obtain⟨b0,eb0⟩:=Bl hb0;obtain⟨a0,ea0⟩:=Bl ha0;obtain⟨al,eal⟩:=Bl (a:=a) (i:=a.size - 1) (Nat.sub_lt ha0 Nat.zero_lt_one)
 have V:Xe X k κ S a b st Q:=Xe.of H hk hSa hSb sa sb eb0 ea0 (hfirst b0 a0 eb0 ea0) h
 have m0:MH k a.toList b.toList [al] (a.size - 1) b.size:=by
  have h0:MH k a.toList b.toList [] a.size b.size:=⟨Nat.le_of_eq Array.length_toList.symm,Nat.le_of_eq Array.length_toList.symm,by rw[List.drop_of_length_le (Nat.le_of_eq Array.length_toList),List.drop_of_length_le (Nat.le_of_eq Array.length_toList)];exact .nil,List.Pairwise.nil,sa,sb,λ_ _ _ h=>absurd h List.not_mem_nil,λ_ _ _ h=>absurd h List.not_mem_nil⟩
  refine h0.goA (a.size - 1) (Nat.sub_le _ _) ?_ (by rw[Qw ha0 eal];rfl)
  simp only[Qw ha0 eal];exact D4.one' λy hy=>hlast y al (List.mem_of_mem_take hy) eal
 clear hfirst hlast h;rw[V3];refine Ae (Kc (Ae (C7 (Ar eal) ?_)))
 refine Be (λe=>Ai (V.doneA #[al] _ _ st m0 (Bj e) (.refl _))) λe1=>Be (λe=>Ai (V.firstB #[al] _ _ st m0 (Bj e) (.refl _))) λe2=>Ae (Gr ?_)
 exact zAT V ⟨.refl _,m0,Nat.pos_of_ne_zero (Bk e1),Nat.lt_of_le_of_ne hb0 (Ne.symm (Bk e2)),Nat.zero_lt_one⟩
end
section
variable {X:SX}{k:Keyed->Int}{κ:SortKind}{S:Keyed->Prop}
noncomputable def KA (k:Keyed->Int) (xs:Array Keyed) (i:Nat):Int:=match xs[i]? with
 |some p=>k p
 |none=>0
theorem Du{xs ys:Array Keyed}{i j:Nat}(h:xs[i]? =ys[j]?):KA k xs i=KA k ys j:=by unfold KA;rw[h]
theorem G9{xs:Array Keyed}{i:Nat}{p:Keyed}(h:xs[i]? =some p):KA k xs i=k p:=by unfold KA;rw[h]
noncomputable def Dz (k:Keyed->Int) (xs:Array Keyed) (lo hi:Nat):Prop:=∀i j,lo<=i->i<=j->j<hi->KA k xs i<=KA k xs j
structure Ps (st st':SortSt) (lo hi:Nat):Prop where
 kind:kindOf st'=kindOf st
 failed:failedOf st'=failedOf st
 pend:pendingOf st'=pendingOf st
 perm:(arrOf st').toList.Perm (arrOf st).toList
 out:∀i,i<lo∨hi<=i->(arrOf st')[i]? =(arrOf st)[i]?
theorem Ps.refl(st:SortSt) (lo hi:Nat):Ps st st lo hi:=⟨rfl,rfl,rfl,.refl _,λ_ _=>rfl⟩
theorem Ps.trans{a b c:SortSt}{lo hi:Nat}(x:Ps a b lo hi) (y:Ps b c lo hi):Ps a c lo hi:=⟨y.kind.trans x.kind,y.failed.trans x.failed,y.pend.trans x.pend,y.perm.trans x.perm,λi h=>(y.out i h).trans (x.out i h)⟩
theorem Ps.size{a b:SortSt}{lo hi:Nat}(x:Ps a b lo hi):(arrOf b).size=(arrOf a).size:=by have:=x.perm.length_eq;simpa using this
theorem Ps.mono{a b:SortSt}{lo hi lo' hi':Nat}(x:Ps a b lo hi) (h1:lo'<=lo) (h2:hi<=hi'):Ps a b lo' hi':=⟨x.kind,x.failed,x.pend,x.perm,λi h=>x.out i (by exact Or.elim h (λhd15=>.inl (Cz λZ=>A8 [_,_,_] [A5 x0 x1,A5 x2 x0,A7 x1 x2] rT Z h1 hd15)) (λhd15=>.inr (Aw λZ=>A8 [_,_,_] [A7 x1 x0,A5 x0 x2,A5 x2 x1] rT Z h2 hd15)))⟩
theorem Ps.mirror{st:SortSt}{lo hi:Nat}(hi':hi<=(arrOf st).size):Ps st (setArr st (mirror (arrOf st) lo hi ((hi - lo) / 2))) lo hi:=
 ⟨rfl,rfl,rfl,Array.perm_iff_toList_perm.mp (mirror_perm _ _ _ _),λi h=>by
  rw[getElem?_mirror_all hi',if_neg (by(clear hi';omega))]⟩
theorem Ps.bubble{st:SortSt}{lo src dst hi:Nat}(h1:src<(arrOf st).size) (h2:lo<=dst) (h3:dst<=src) (h4:src<hi):Ps st (setArr st (bubble (arrOf st) src (src - dst))) lo hi:=
 ⟨rfl,rfl,rfl,Array.perm_iff_toList_perm.mp (bubble_perm _ _ _),λi h=>by
  rw[getElem?_bubble h1 _ (by exact Aw λZ=>A8 [_,_] [A7 x0 x1,A5 x1 x0] rT Z (F9 _ _)),if_neg (by exact Or.elim h (λhd18=>λZ=>A8 [_,_,_,_,_,_] [Gl x0 x1,A5 x2 x3,A7 x0 x2,A5 x4 (.a x1 x5),B9 (.a x5 x3) x4] rT Z h2 hd18 (Ax _ _) (Aq (Aw λY=>A8 [_,_] [A7 x0 x1,A5 x1 x0] rT Y h3))) (λhd18=>λZ=>A8 [_,_,_,_] [B9 x0 x1,A7 x2 x3,A5 x3 x0,A5 x1 x2] rT Z h4 hd18 (F9 _ _))),if_neg (by(clear h3 h1;omega))]⟩
theorem zFq{xs:Array Keyed}(hnd:(xs.toList.map k).Nodup){i j:Nat}(hi:i<xs.size) (hj:j<xs.size) (h:i≠j):KA k xs i≠KA k xs j:=by
 rw[G9 (p:=xs[i]) (by simp[hi]),G9 (p:=xs[j]) (by simp[hj])]
 intro e;have:=List.nodup_iff_pairwise_ne.mp hnd
 rw[List.pairwise_iff_getElem]at this;rcases Nat.lt_or_gt_of_ne h with h|h
 ·have:=this i j (by simpa using hi) (by simpa using hj) h
  simp at this
  exact this e
 ·have:=this j i (by simpa using hj) (by simpa using hi) h
  simp at this
  exact this e.symm
theorem Jy(H:Sp X k κ S){st:SortSt}{i j:Nat}{Q:Option Bool->SortSt->Prop}(hk:kindOf st=κ) (hS:∀p,p∈(arrOf st).toList->S p) (hi:i<(arrOf st).size) (hj:j<(arrOf st).size)
  (h:Q (some (decide (KA k (arrOf st) i<KA k (arrOf st) j))) st):SW X (ltAt' i j) Q st:=by
 simp only[ltAt'_eq];refine Ae (Gr ?_)
 obtain⟨p,ep⟩:=Bl hi;obtain⟨q,eq⟩:=Bl hj;refine Ae (C7 (Ar ep) (Ae (C7 (Ar eq) ?_)))
 refine H p q (hS _ (Df ep)) (hS _ (Df eq)) st Q hk ?_
 rw[G9 (Ar ep),G9 (Ar eq)]at h;exact h
theorem Qs{xs:Array Keyed}{i j:Nat}(hj:j<=xs.size) (l:Nat):
  KA k (mirror xs i j ((j - i) / 2)) l=if i<=l/\l<j then KA k xs (i+j - 1 - l)else KA k xs l:=by
 have e:=getElem?_mirror_all (i:=i) hj l;by_cases h1:i<=l/\l<j
 ·rw[if_pos h1]at e ⊢; exact Du e
 ·rw[if_neg h1]at e ⊢; exact Du e
theorem Qd{xs:Array Keyed}{src d:Nat}(hs:src<xs.size) (hd:d<=src) (l:Nat):
  KA k (bubble xs src d) l=if l=src - d then KA k xs src else if src - d<l/\l<=src then KA k xs (l - 1)else KA k xs l:=by
 have e:=getElem?_bubble hs d hd l;by_cases h1:l=src - d
 ·rw[if_pos h1]at e ⊢; exact Du e
 ·rw[if_neg h1]at e ⊢;by_cases h2:src - d<l/\l<=src
  ·rw[if_pos h2]at e ⊢; exact Du e
  ·rw[if_neg h2]at e ⊢; exact Du e
theorem Pw(H:Sp X k κ S){st:SortSt}{lo n ok:Nat}{Q:Bool->SortSt->Prop}(hk:kindOf st=κ) (hS:∀p,p∈(arrOf st).toList->S p) (hn:lo+n<=(arrOf st).size) (hok:ok<=n) (h1:1<=n) (hs:Dz k (arrOf st) lo (lo+ok))
  (h:∀st',Dz k (arrOf st') lo (lo+n)->Ps st st' lo (lo+n)->Q true st'):SW X (binarySort' lo n ok) Q st:=by
 unfold binarySort';refine Ae (Bz (Do (I:=λx c st'=>c=(none,())/\Ps st st' lo (lo+n)/\Dz k (arrOf st') lo (lo+x))
  (Q:=λc st'=>c=(none,())/\Ps st st' lo (lo+n)/\Dz k (arrOf st') lo (lo+n)) ⟨rfl,.refl _ _ _,?_⟩ (by(clear h hs hn hS hk H;omega)) ?_ ?_) ?_)
 ·intro i j hi hij hj;by_cases h1:ok=0
  ·have:i=j:=by(clear h hs hok hn hS hk H;omega)
   subst this;exact Int.le_refl _
  ·exact hs i j hi hij (by(clear hij hi h hs hok hn hS hk H;omega))
 ·rintro x c st' hax hxn ⟨rfl,hC,hs'⟩
  have hz:=hC.size;have hk':=hC.kind.trans hk;have hS':∀p,p∈(arrOf st').toList->S p:=λp m=>hS p (hC.perm.mem_iff.mp m)
  refine Ae (Bz (Do (I:=λy c st''=>st''=st'/\∃l r,c=(none,l,r)/\l<=r/\r<=x/\r - l<=x - y/\
    (∀i,lo<=i->i<lo+l->KA k (arrOf st') i<=KA k (arrOf st') (lo+x))/\(∀i,lo+r<=i->i<lo+x->KA k (arrOf st') (lo+x)<KA k (arrOf st') i))
   (Q:=λc st''=>st''=st'/\∃l r,c=(none,l,r)/\l<=x/\
    (∀i,lo<=i->i<lo+l->KA k (arrOf st') i<=KA k (arrOf st') (lo+x))/\(∀i,lo+l<=i->i<lo+x->KA k (arrOf st') (lo+x)<KA k (arrOf st') i))
   ⟨rfl,0,x,rfl,by exact Aw λZ=>A8 [_,_] [A7 x0 (.n 0),A5 x1 x0,A5 (.n 0) x1] rT Z hax (lq5 _),by exact Aw λZ=>A8 [_] [A7 x0 x0] rT Z,by exact Aw λZ=>A8 [_] [A7 x0 x0] rT Z,λi _ hi=>by(clear hS' hk' hz hs' hC hxn hax h hs h1 hok hn hS hk H;omega),λi h1 h2=>by exact False.elim (A8 [_,_,_] [A5 (.a x0 x1) x2,A7 x2 (.a x0 x1)] rT h1 h2)⟩ (lq5 _) ?_ ?_) ?_)
  ·intro y c st'' _ hy h5z;apply yo;intro _ k0
   obtain⟨rfl,l,r,rfl,hlr,hrk,hm,hlo,hhi⟩:=h5z;apply k0
   dsimp only;by_cases hge:l≥r
   ·rw[if_pos hge];have:l=r:=by exact Ha (λZ=>A8 [_,_] [A7 x0 x1,A5 x1 x0] rT Z hge) (λZ=>A8 [_,_] [A7 x1 x0,A5 x0 x1] rT Z hlr)
    subst this;exact Ai ⟨rfl,l,l,rfl,hrk,hlo,hhi⟩
   ·rw[if_neg hge];refine Ae (Jy H hk' hS' (by(clear hge hhi hlo hm hrk hlr hS' hk' hs' hC hy hax h hs h1 hok hS hk H;omega)) (by(clear hge hhi hlo hm hS' hk' hs' hC hy hax h hs h1 hok hS hk H;omega)) ?_)
    by_cases hless:KA k (arrOf st'') (lo+x)<KA k (arrOf st'') (lo+(l+r) / 2)
    ·simp only[hless,decide_true,if_true];refine Ai ⟨rfl,l,(l+r) / 2,rfl,by exact Aw λZ=>A8 [_,_,_] [zCz 2 x1 x0,A7 x0 x2,A7 (.a x0 x2) (.a (.m 2 x1) (.n 2))] rT Z (Nat.not_le.mp hge) (Vw _ (Nat.succ_pos _)),by exact Aw λZ=>A8 [_,_,_,_] [zCz 2 x0 x1,A5 x2 x3,Yq 2 x3 x0,A5 (.m 2 x1) (.a x2 x3)] rT Z hlr hrk (Mk _ _),by exact Aw λZ=>A8 [_,_,_,_,_,_,_,_,_] [zCz 2 x1 x0,A5 x2 x3,A5 (.n 0) x1,A5 x5 (.a x2 x4),A5 (.m 2 x6) (.a x4 x5),A5 x7 (.a x1 (.a x8 (.n 1))),B9 (.a x3 x8) x7,zK8 2 (.a x0 x4) x6] rT Z hm (lq5 _) (Ax _ _) (Mk _ _) (Ax _ _) (Aq (Aw λY=>A8 [_,_] [A7 x0 x1,A7 x1 x0] rT Y hy)) (Aq (Aw λY=>A8 [_,_,_] [zCz 2 x1 x0,A7 x0 x2,A7 (.a x0 x2) (.a (.m 2 x1) (.n 2))] rT Y (Nat.not_le.mp hge) (Vw _ (Nat.succ_pos _)))),hlo,λi h1 h2=>?_⟩
     exact Int.lt_of_lt_of_le hless (hs' _ _ (by exact Aw λZ=>A8 [_,_] [A7 (.a x0 x1) x0,A5 (.n 0) x1] rT Z (lq5 _)) h1 (by exact Cz λZ=>A8 [_,_,_] [A5 (.a x0 x1) x2,A7 x2 (.a x0 x1)] rT Z h2))
    ·simp only[hless,decide_false,Bool.false_eq_true,if_false];refine Ai ⟨rfl,(l+r) / 2+1,r,rfl,by exact Aw λZ=>A8 [_,_,_] [zCz 2 x0 (.a x1 (.n 1)),A7 x2 x0,A5 (.m 2 x1) (.a x2 x0)] rT Z (Nat.not_le.mp hge) (Mk _ _),by exact Aw λZ=>A8 [_,_] [A7 x0 x1,A5 x1 x0] rT Z hrk,by exact Aw λZ=>A8 [_,_,_,_,_,_,_,_,_] [zCz 2 x1 x0,A5 x2 x3,A5 (.n 0) x1,A5 x5 (.a x2 x4),A7 (.a x4 x5) (.a (.m 2 x6) (.n 2)),A5 x7 (.a x1 (.a x8 (.n 1))),B9 (.a x3 x8) x7,zK8 2 (.a x0 (.a x6 (.n 1))) x5] rT Z hm (lq5 _) (Ax _ _) (Vw _ (Nat.succ_pos _)) (Ax _ _) (Aq (Aw λY=>A8 [_,_] [A7 x0 x1,A7 x1 x0] rT Y hy)) (Aq (Aw λY=>A8 [_,_,_] [zCz 2 x0 (.a x1 (.n 1)),A7 x2 x0,A5 (.m 2 x1) (.a x2 x0)] rT Y (Nat.not_le.mp hge) (Mk _ _))),λi h0 h1=>?_,hhi⟩
     exact Int.le_trans (hs' i (lo+(l+r) / 2) h0 (by exact Aw λZ=>A8 [_,_,_] [A7 (.a x0 x2) x1,A7 x1 (.a x0 (.a x2 (.n 1)))] rT Z h1) (by exact Cz λZ=>A8 [_,_,_,_,_] [Yq 2 (.a x0 x1) (.a x0 x2),Yq 2 x3 x1,A7 x4 x3,A5 (.m 2 x2) (.a x4 x3)] rT Z hrk (Nat.not_le.mp hge) (Mk _ _))) (Int.not_lt.mp hless)
  ·rintro c st'' ⟨rfl,l,r,rfl,hlr,hrk,hm,hlo,hhi⟩
   have:l=r:=by exact Ha (λZ=>A8 [_,_,_,_,_] [A7 x0 x1,A5 x2 x3,A5 x1 (.a x2 x0),B9 (.a x3 x4) x4] rT Z hm (Ax _ _) (Aq (Aw λY=>A8 [_] [A7 x0 x0] rT Y))) (λZ=>A8 [_,_] [A7 x1 x0,A5 x0 x1] rT Z hlr)
   subst this;exact⟨rfl,l,l,rfl,hrk,hlo,hhi⟩
  ·intro c st'' h2z;apply yo;intro _ k0
   obtain⟨rfl,l,r,rfl,hlk,hlo,hhi⟩:=h2z;apply k0
   show SW X (do moveDown' (lo+x) (lo+l);pure (ForInStep.yield (none,()))) _ _
   simp only[moveDown'_eq];have hks:lo+x<(arrOf st'').size:=by exact Cz λZ=>A8 [_,_,_,_,_] [A5 x2 (.a x0 x1),A5 (.a x0 x3) x4,A7 x1 x3,Gl x2 x4] rT Z hn hxn hz
   refine Ae (Dk (Ai ⟨rfl,hC.trans (Ps.bubble hks (by exact Aw λZ=>A8 [_,_] [A7 (.a x0 x1) x0,A5 (.n 0) x1] rT Z (lq5 _)) (by exact Aw λZ=>A8 [_,_,_] [A7 (.a x0 x1) (.a x0 x2),A5 x2 x1] rT Z hlk) (by exact Cz λZ=>A8 [_,_,_] [A5 (.a x0 x1) (.a x0 x2),A7 x2 x1] rT Z hxn)),?_⟩))
   intro i j hi hij hj;show KA k (bubble (arrOf st'') (lo+x) (lo+x - (lo+l))) i<=KA k (bubble (arrOf st'') (lo+x) (lo+x - (lo+l))) j
   rw[Qd hks (by exact Aw λZ=>A8 [_,_,_] [A7 (.a x0 x1) x2,A5 x2 (.a x0 x1)] rT Z (F9 _ _)),Qd hks (by exact Aw λZ=>A8 [_,_,_] [A7 (.a x0 x1) x2,A5 x2 (.a x0 x1)] rT Z (F9 _ _)),show lo+x - (lo+x - (lo+l))=lo+l by exact Ha (λZ=>A8 [_,_,_,_,_] [A7 x2 (.a x0 x1),A5 (.a x0 x3) (.a x2 x4),B9 (.a x4 (.a x0 x1)) (.a x0 x3)] rT Z (Ax _ _) (Aq (Aw λY=>A8 [_,_,_] [A7 (.a x0 x1) (.a x0 x2),A5 x2 x1] rT Y hlk))) (λZ=>A8 [_,_,_,_,_] [A7 (.a x0 x1) x2,A5 (.a x0 x3) (.a x4 (.a x0 x1)),B9 (.a x2 x4) (.a x0 x3)] rT Z (Ax _ _) (Aq (Aw λY=>A8 [_,_,_] [A7 (.a x0 x1) x2,A5 x2 (.a x0 x1)] rT Y (F9 _ _))))]
   repeat' split
   ·expose_names
    exact Int.le_refl _
   ·expose_names
    exact Int.le_of_lt (hhi _ (by exact Aw λZ=>A8 [_,_,_,_] [A7 x2 (.a x0 x1),A7 (.a x0 x1) x3,A5 x3 (.a x2 (.n 1))] rT Z h_3.1 (Ax _ _)) (by exact Cz λZ=>A8 [_,_,_,_] [A5 (.a x0 x1) x2,A7 x3 (.a x0 (.a x1 (.n 1))),B9 (.a x2 (.n 1)) x3] rT Z hj (Aq (Aw λY=>A8 [_,_,_,_] [A7 x0 (.n 1),A5 x1 x2,B9 x2 (.a x1 x3),A7 (.a x1 x3) x0,A5 (.n 0) x1] rT Y hi h_1 h_3.1 (lq5 _)))))
   ·expose_names
    (exfalso;(clear hi hks hhi hlo hlk hS' hk' hz hs' hC hxn hax h hs h1 hok hn hS hk H;omega))
   ·expose_names
    (exfalso;exact A8 [_,_,_,_] [A5 x0 x1,A7 (.a x2 x3) x0,B9 x1 (.a x2 x3)] rT hij h_2.1 h_3)
   ·expose_names
    exact hs' _ _ (by exact Aw λZ=>A8 [_,_,_,_] [A7 x1 x0,A7 (.a x0 x2) x3,A5 (.n 0) x2,A5 x3 (.a x1 (.n 1))] rT Z h_2.1 (lq5 _) (Ax _ _)) (by exact Aw λZ=>A8 [_,_,_,_] [A7 x1 x0,A5 x2 x3,A5 x3 (.a x1 (.n 1)),B9 (.a x0 (.n 1)) x2] rT Z hij (Ax _ _) (Aq (Aw λY=>A8 [_,_,_] [A7 x0 (.n 1),A7 (.a x1 x2) x0,A5 (.n 0) x1,A5 (.n 0) x2] rT Y h_2.1 (lq5 _) (lq5 _)))) (by exact Cz λZ=>A8 [_,_,_,_] [A5 (.a x0 x1) x2,A7 x3 (.a x0 (.a x1 (.n 1))),B9 (.a x2 (.n 1)) x3] rT Z hj (Aq (Aw λY=>A8 [_,_,_,_] [A7 x0 (.n 1),A5 x1 x0,A7 (.a x2 x3) x1,A5 (.n 0) x2,A5 (.n 0) x3] rT Y hij h_2.1 (lq5 _) (lq5 _))))
   ·expose_names
    (exfalso;(clear h_3 h_1 hi hks hhi hlo hlk hS' hk' hz hs' hC hxn hax h hs h1 hok hn hS hk H;omega))
   ·expose_names
    exact hlo _ (by exact Aw λZ=>A8 [_,_] [A7 x1 x0,A5 x0 x1] rT Z hi) (by(clear h_3 hi hks hhi hlo hlk hS' hk' hz hs' hC hxn hax h hs h1 hok hn hS hk H;omega))
   ·expose_names
    exact hs' _ _ (by exact Aw λZ=>A8 [_,_] [A7 x1 x0,A5 x0 x1] rT Z hi) (by(clear h_3 h_1 hj hi hks hhi hlo hlk hS' hk' hz hs' hC hxn hax h hs h1 hok hn hS hk H;omega)) (by exact Cz λZ=>A8 [_,_,_,_] [A5 (.a x0 x1) x2,A7 x3 (.a x0 (.a x1 (.n 1))),B9 (.a x2 (.n 1)) x3] rT Z hj (Aq (Aw λY=>A8 [_,_,_] [A7 x0 (.n 1),A7 (.a x1 x2) x0,A5 (.n 0) x1,A5 (.n 0) x2] rT Y h_4.1 (lq5 _) (lq5 _))))
   ·expose_names
    exact hs' _ _ (by exact Aw λZ=>A8 [_,_] [A7 x1 x0,A5 x0 x1] rT Z hi) (by exact Aw λZ=>A8 [_,_] [A7 x1 x0,A5 x0 x1] rT Z hij) (by(clear h_2 h_1 hij hi hks hhi hlo hS' hk' hz hs' hC hxn hax h hs h1 hok hn hS hk H;omega))
 ·rintro c st' ⟨hc,hC,hs'⟩
  exact⟨hc,hC,hs'⟩
 ·rintro c st' ⟨rfl,hC,hs'⟩
  exact Ai (h st' hs' hC)
inductive zLF (k:Keyed->Int) (st:SortSt) (lo x:Nat){γ:Type}(c:Option γ×Nat) (st':SortSt):Prop
 |mk (e:st'=st) (ec:c=(none,x)) (hs:Dz k (arrOf st) lo (lo+x))
inductive zLU (k:Keyed->Int) (st:SortSt) (lo nrem:Nat){γ:Type}(c:Option γ×Nat) (st':SortSt):Prop
 |mk (e:st'=st) (n:Nat) (ec:c=(none,n)) (h1:1<=n) (h2:n<=nrem) (hs:Dz k (arrOf st) lo (lo+n)) (ho:n=nrem∨KA k (arrOf st) (lo+n)<KA k (arrOf st) (lo+n - 1))
inductive zLK (k:Keyed->Int) (st:SortSt) (lo nrem:Nat){γ:Type}(c:Option γ×Nat) (st':SortSt):Prop
 |mk (e:st'=st) (n:Nat) (ec:c=(none,n)) (h1:1<=n) (h2:n<=nrem) (hs:Dz k (arrOf st) lo (lo+n))
inductive zLR (k:Keyed->Int) (st:SortSt) (lo x:Nat){γ:Type}(c:Option γ×Nat×Nat) (st':SortSt):Prop
 |mk (e:st'=st) (ec:c=(none,x,0)) (hs:∀i j,lo<=i->i<=j->j<lo+x->KA k (arrOf st) j<=KA k (arrOf st) i)
inductive zLV (k:Keyed->Int) (st:SortSt) (lo nrem:Nat){γ:Type}(c:Option γ×Nat×Nat) (st':SortSt):Prop
 |mk (e:st'=st) (m:Nat) (ec:c=(none,m,0)) (h1:2<=m) (h2:m<=nrem) (hs:∀i j,lo<=i->i<=j->j<lo+m->KA k (arrOf st) j<=KA k (arrOf st) i)
theorem zHi{r:Nat->Nat->Prop}(re:∀i,r i i) (tr:∀a b c,r a b->r b c->r a c){lo x:Nat}(hx:1<=x) (h:∀i j,lo<=i->i<=j->j<lo+x->r i j) (hl:r (lo+x - 1) (lo+x)):∀i j,lo<=i->i<=j->j<lo+(x+1)->r i j:=λi j hi hij hj=>by
 rcases Nat.lt_or_ge j (lo+x)with z|z
 ·exact h i j hi hij z
 ·have e:j=lo+x:=Nat.le_antisymm (Nat.le_of_lt_succ hj) z
  subst e;rcases Nat.lt_or_ge i (lo+x)with y|y
  ·have hp:0<lo+x:=Nat.lt_of_lt_of_le hx (Nat.le_add_left _ _)
   exact tr _ _ _ (h i (lo+x - 1) hi (Nat.le_sub_one_of_lt y) (Nat.sub_lt hp Nat.zero_lt_one)) hl
  ·have e:i=lo+x:=Nat.le_antisymm hij y
   subst e;exact re _
theorem Ud(H:Sp X k κ S){st:SortSt}{lo nrem:Nat}{Q:Option Nat->SortSt->Prop}(hk:kindOf st=κ) (hS:∀p,p∈(arrOf st).toList->S p) (hnd:((arrOf st).toList.map k).Nodup) (h1:1<=nrem) (hn:lo+nrem<=(arrOf st).size)
  (h:∀n st',1<=n->n<=nrem->Dz k (arrOf st') lo (lo+n)->Ps st st' lo (lo+nrem)->Q (some n) st'):SW X (countRun' lo nrem) Q st:=by
 unfold countRun';refine Ae (Bz (Do (I:=λx c st'=>zLF k st lo x c st')
  (Q:=λc st'=>zLU k st lo nrem c st') ⟨rfl,rfl,?_⟩ h1 ?_ ?_) ?_)
 ·intro i j hi hij hj;have:i=j:=by exact Ha (λZ=>A8 [_,_,_] [A7 x0 x1,A5 x2 x0,A7 x1 (.a x2 (.n 1))] rT Z hi hj) (λZ=>A8 [_,_] [A7 x1 x0,A5 x0 x1] rT Z hij)
  subst this;exact Int.le_refl _
 ·rintro x c st' hax hxn ⟨rfl,rfl,hs'⟩
  dsimp only;refine Ae (Jy H hk hS (by exact Cz λZ=>A8 [_,_,_,_] [A5 x2 (.a x1 x0),A7 x0 x3,A5 (.a x1 x3) x2] rT Z hxn hn) (by exact Cz λZ=>A8 [_,_,_,_,_] [A5 x0 x1,A7 x3 x2,A5 (.a x4 x2) x0,A5 x1 (.a x4 x3)] rT Z hxn hn (F9 _ _)) ?_)
  by_cases hless:KA k (arrOf st') (lo+x)<KA k (arrOf st') (lo+x - 1)
  ·simp only[hless,decide_true,if_true];exact Ai ⟨rfl,x,rfl,hax,by exact Aw λZ=>A8 [_,_] [A7 x0 x1,A7 x1 x0] rT Z hxn,hs',.inr hless⟩
  ·simp only[hless,decide_false,Bool.false_eq_true,if_false];exact Ai ⟨rfl,rfl,zHi (r:=λi j=>KA k (arrOf st') i<=KA k (arrOf st') j) (λ_=>Int.le_refl _) (λ_ _ _=>Int.le_trans) hax hs' (Int.not_lt.mp hless)⟩
 ·rintro c st' ⟨rfl,rfl,hs'⟩
  exact⟨rfl,nrem,rfl,h1,Nat.le_refl _,hs',.inl rfl⟩
 rintro c st' ⟨rfl,n,rfl,hn1,hn2,hsn,hor⟩
 dsimp only;by_cases hnn:n=nrem
 ·rw[if_pos (by simpa using hnn)];exact Ai (h n st' hn1 hn2 hsn (.refl _ _ _))
 rw[if_neg (by simpa using hnn)];have hlt:=hor.resolve_left hnn;by_cases hgt:n>1
 ·rw[if_pos hgt];refine Ae (Jy H hk hS (by exact Cz λZ=>A8 [_,_,_] [A5 x1 x0,A5 (.n 1) x2,A5 (.a x0 x2) x1] rT Z h1 hn) (by exact Cz λZ=>A8 [_,_,_,_,_] [A5 x0 x1,A5 (.a x3 x2) x0,A5 x4 x2,B9 (.a x1 (.n 1)) (.a x3 x4)] rT Z hn hn2 (Aq (Aw λY=>A8 [_,_] [A7 (.a x0 x1) (.n 1),A7 (.n 1) x1,A5 (.n 0) x0] rT Y hgt (lq5 _)))) ?_)
  have hr:KA k (arrOf st') lo<KA k (arrOf st') (lo+n - 1):=by
   have e1:=hsn lo (lo+n - 1) (by exact Aw λZ=>A8 [_] [A7 x0 x0] rT Z) (by exact Aw λZ=>A8 [_,_,_] [A7 x1 x0,A7 (.n 1) x2,A5 (.a x0 x2) (.a x1 (.n 1))] rT Z hgt (Ax _ _)) (by exact Cz λZ=>A8 [_,_,_] [A5 (.a x0 x1) x2,B9 (.a x2 (.n 1)) (.a x0 x1)] rT Z (Aq (Aw λY=>A8 [_,_] [A7 (.a x0 x1) (.n 1),A7 (.n 1) x1,A5 (.n 0) x0] rT Y hgt (lq5 _))))
   have e2:=zFq hnd (i:=lo) (j:=lo+n - 1) (by exact Cz λZ=>A8 [_,_,_] [A5 x1 x0,A5 (.n 1) x2,A5 (.a x0 x2) x1] rT Z h1 hn) (by exact Cz λZ=>A8 [_,_,_,_,_] [A5 x0 x1,A5 (.a x3 x2) x0,A5 x4 x2,B9 (.a x1 (.n 1)) (.a x3 x4)] rT Z hn hn2 (Aq (Aw λY=>A8 [_,_] [A7 (.a x0 x1) (.n 1),A7 (.n 1) x1,A5 (.n 0) x0] rT Y hgt (lq5 _)))) (by exactλZ=>A8 [_,_,_] [Gl x0 x1,A7 (.n 1) x2,A5 (.a x0 x2) (.a x1 (.n 1))] rT Z hgt (Ax _ _))
   (clear hgt hlt hnn hor hsn hn2 hn1 h hn hnd hS hk h1 H;omega)
  simp only[hr,decide_true,if_true];exact Ai (h n st' hn1 hn2 hsn (.refl _ _ _))
 rw[if_neg hgt];have hn1':n=1:=by exact Ha (λZ=>A8 [_] [A7 x0 (.n 1),A5 (.n 1) x0] rT Z hn1) (λZ=>A8 [_] [A7 (.n 1) x0,A5 x0 (.n 1)] rT Z (Nat.not_lt.mp hgt))
 subst hn1';refine Ae (Kc ?_)
 refine Ae (Bz (Do (I:=λx c st2=>zLR k st' lo x c st2)
  (Q:=λc st2=>zLV k st' lo nrem c st2) ⟨rfl,rfl,?_⟩ (by(clear hgt hlt hor hsn hn2 hn1 h hn hnd hS hk H;omega)) ?_ ?_) ?_)
 ·intro i j hi hij hj;by_cases hi':i=j
  ·subst hi';exact Int.le_refl _
  ·have hi0:i=lo:=by(clear hgt hlt hnn hor hsn hn2 hn1 h hn hnd hS hk h1 H;omega)
   have hj1:j=lo+1:=by(clear hi0 hgt hlt hnn hor hsn hn2 hn1 h hn hnd hS hk h1 H;omega)
   rw[hi0,hj1];have:lo+1 - 1=lo:=by exact Ha (λZ=>A8 [_] [A7 x0 x0] rT Z) (λZ=>A8 [_] [A7 x0 x0] rT Z)
   rw[this]at hlt;exact Int.le_of_lt hlt
 ·rintro x c st2 hax hxn ⟨rfl,rfl,hd⟩
  dsimp only;refine Ae (Jy H hk hS (by exact Cz λZ=>A8 [_,_,_,_] [A5 x2 (.a x1 x0),A7 x0 x3,A5 (.a x1 x3) x2] rT Z hxn hn) (by exact Cz λZ=>A8 [_,_,_,_,_] [A5 x0 x1,A7 x3 x2,A5 (.a x4 x2) x0,A5 x1 (.a x4 x3)] rT Z hxn hn (F9 _ _)) ?_)
  by_cases hless:KA k (arrOf st2) (lo+x)<KA k (arrOf st2) (lo+x - 1)
  ·simp only[hless,decide_true,if_true];rw[if_neg (by exactλZ=>A8 [] [A7 (.n 0) (.n 0)] rT Z)]
   exact Ai ⟨rfl,rfl,zHi (r:=λi j=>KA k (arrOf st2) j<=KA k (arrOf st2) i) (λ_=>Int.le_refl _) (λ_ _ _ p q=>Int.le_trans q p) (Nat.le_of_lt hax) hd (Int.le_of_lt hless)⟩
  ·simp only[hless,decide_false,Bool.false_eq_true,if_false];refine Ae (Jy H hk hS (by exact Cz λZ=>A8 [_,_,_,_,_] [A5 x0 x1,A7 x3 x2,A5 (.a x4 x2) x0,A5 x1 (.a x4 x3)] rT Z hxn hn (F9 _ _)) (by exact Cz λZ=>A8 [_,_,_,_] [A5 x2 (.a x1 x0),A7 x0 x3,A5 (.a x1 x3) x2] rT Z hxn hn) ?_)
   have hr:KA k (arrOf st2) (lo+x - 1)<KA k (arrOf st2) (lo+x):=by
    have e2:=zFq hnd (i:=lo+x - 1) (j:=lo+x) (by exact Cz λZ=>A8 [_,_,_,_,_] [A5 x0 x1,A7 x3 x2,A5 (.a x4 x2) x0,A5 x1 (.a x4 x3)] rT Z hxn hn (F9 _ _)) (by exact Cz λZ=>A8 [_,_,_,_] [A5 x2 (.a x1 x0),A7 x0 x3,A5 (.a x1 x3) x2] rT Z hxn hn) (by exactλZ=>A8 [_,_,_] [Gl x2 (.a x1 x0),B9 (.a x2 (.n 1)) (.a x1 x0)] rT Z (Aq (Aw λY=>A8 [_,_] [A7 (.a x1 x0) (.n 1),A5 (.a (.n 1) (.n 1)) x0,A5 (.n 0) x1] rT Y hax (lq5 _))))
    (clear hd hlt hor hsn h hn hnd hS hk hxn hax hgt hnn hn2 hn1 h1 H;omega)
   simp only[hr,decide_true,if_true];exact Ai ⟨rfl,x,rfl,by exact Aw λZ=>A8 [_] [A7 x0 (.n 2),A5 (.a (.n 1) (.n 1)) x0] rT Z hax,by exact Aw λZ=>A8 [_,_] [A7 x0 x1,A7 x1 x0] rT Z hxn,hd⟩
 ·rintro c st2 ⟨rfl,rfl,hd⟩
  exact⟨rfl,nrem,rfl,by(clear hd hlt hor hsn h hn hnd hS hk hgt hn2 hn1 H;omega),Nat.le_refl _,hd⟩
 intro c st2 h2z;apply yo;intro _ k0
 obtain⟨rfl,m,rfl,hm1,hm2,hd⟩:=h2z;apply k0
 dsimp only;rw[if_neg (by exactλZ=>A8 [] [A7 (.n 0) (.n 0)] rT Z)]
 show SW X (reverseSlice' lo (lo+m) >>= _) _ _
 simp only[reverseSlice'_eq];refine Ae (Dk ?_)
 have hC:Ps st2 (setArr st2 (mirror (arrOf st2) lo (lo+m) ((lo+m - lo) / 2))) lo (lo+nrem):=(Ps.mirror (by exact Aw λZ=>A8 [_,_,_,_] [A7 x1 (.a x0 x2),A5 (.a x0 x3) x1,A5 x2 x3] rT Z hn hm2)).mono (Nat.le_refl _) (by exact Aw λZ=>A8 [_,_,_] [A7 (.a x1 x0) (.a x1 x2),A5 x2 x0] rT Z hm2)
 have hs3:Dz k (arrOf (setArr st2 (mirror (arrOf st2) lo (lo+m) ((lo+m - lo) / 2)))) lo (lo+m):=λi j hi hij hj=>by
  show KA k (mirror (arrOf st2) lo (lo+m) ((lo+m - lo) / 2)) i<=KA k (mirror (arrOf st2) lo (lo+m) ((lo+m - lo) / 2)) j
  rw[Qs (by exact Aw λZ=>A8 [_,_,_,_] [A7 x1 (.a x0 x2),A5 (.a x0 x3) x1,A5 x2 x3] rT Z hn hm2),Qs (by exact Aw λZ=>A8 [_,_,_,_] [A7 x1 (.a x0 x2),A5 (.a x0 x3) x1,A5 x2 x3] rT Z hn hm2),if_pos (by exact⟨Aw λZ=>A8 [_,_] [A7 x1 x0,A5 x0 x1] rT Z hi,Cz λZ=>A8 [_,_,_,_] [A5 (.a x0 x1) x2,A5 x2 x3,A7 x3 (.a x0 x1)] rT Z hij hj⟩),if_pos (by exact⟨Aw λZ=>A8 [_,_,_] [A7 x1 x0,A5 x0 x2,A5 x2 x1] rT Z hi hij,Cz λZ=>A8 [_,_,_] [A5 (.a x0 x1) x2,A7 x2 (.a x0 x1)] rT Z hj⟩)]
  exact hd _ _ (by exact Aw λZ=>A8 [_,_,_,_,_] [A7 x1 x0,A7 x3 (.a x0 x2),A5 (.a x0 (.a x0 x2)) (.a x4 (.n 1)),A5 x4 (.a x1 x3)] rT Z hj (Ax _ _) (Ax _ _)) (by exact Aw λZ=>A8 [_,_,_,_,_] [A7 x1 x0,A5 x2 x3,A5 x4 (.a x1 x2),B9 (.a x0 x3) x4] rT Z hij (Ax _ _) (Aq (Aw λY=>A8 [_,_,_,_] [A7 x1 x0,A7 x0 (.a x2 x3),A5 (.n 0) x2,A5 (.a x2 (.a x2 x3)) (.a x1 (.n 1))] rT Y hj (lq5 _) (Ax _ _)))) (by exact Cz λZ=>A8 [_,_,_,_,_] [A5 (.a x0 x1) x2,A5 x0 x3,B9 (.a x4 (.n 1)) (.a x0 (.a x0 x1)),B9 (.a x2 x3) x4] rT Z hi (Aq (Aw λY=>A8 [_,_] [A7 (.a x0 (.a x0 x1)) (.n 1),A5 (.n 2) x1,Yq 2 (.n 0) x0] rT Y hm1 (lq5 _))) (Aq (Aw λY=>A8 [_,_,_,_,_] [A7 x1 x0,A5 x0 x2,A7 x2 (.a x3 x4),A5 (.n 0) x3,A5 (.a x3 (.a x3 x4)) (.a x1 (.n 1))] rT Y hij hj (lq5 _) (Ax _ _))))
 generalize setArr st2 (mirror (arrOf st2) lo (lo+m) ((lo+m - lo) / 2))=st3 at hC hs3
 have hz:=hC.size;have hk':=hC.kind.trans hk;have hS':∀p,p∈(arrOf st3).toList->S p:=λp m=>hS p (hC.perm.mem_iff.mp m)
 refine Ae (Bz (Do (I:=λx c st'=>zLF k st3 lo x c st')
  (Q:=λc st'=>zLK k st3 lo nrem c st') ⟨rfl,rfl,hs3⟩ hm2 ?_ ?_) ?_)
 ·rintro x c st' hax hxn ⟨rfl,rfl,hs'⟩
  dsimp only;refine Ae (Jy H hk' hS' (by exact Cz λZ=>A8 [_,_,_,_,_] [A5 x2 (.a x0 x1),A5 (.a x0 x3) x4,A7 x1 x3,Gl x2 x4] rT Z hn hxn hz) (by exact Cz λZ=>A8 [_,_,_,_,_,_] [A5 x0 x1,A5 (.a x3 x2) x4,A7 x5 x2,Gl x0 x4,A5 x1 (.a x3 x5)] rT Z hn hxn hz (F9 _ _)) ?_)
  by_cases hless:KA k (arrOf st') (lo+x)<KA k (arrOf st') (lo+x - 1)
  ·simp only[hless,decide_true,if_true];exact Ai ⟨rfl,x,rfl,by exact Aw λZ=>A8 [_,_] [A7 x0 (.n 1),A5 (.n 2) x1,A5 x1 x0] rT Z hm1 hax,by exact Aw λZ=>A8 [_,_] [A7 x0 x1,A7 x1 x0] rT Z hxn,hs'⟩
  ·simp only[hless,decide_false,Bool.false_eq_true,if_false];exact Ai ⟨rfl,rfl,zHi (r:=λi j=>KA k (arrOf st') i<=KA k (arrOf st') j) (λ_=>Int.le_refl _) (λ_ _ _=>Int.le_trans) (Nat.le_trans (Nat.le_of_succ_le hm1) hax) hs' (Int.not_lt.mp hless)⟩
 ·rintro c st' ⟨rfl,rfl,hs'⟩
  exact⟨rfl,nrem,rfl,h1,Nat.le_refl _,hs'⟩
 rintro c st' ⟨rfl,n,rfl,hn1,hn2,hsn⟩
 exact Ai (h n st' hn1 hn2 hsn hC)
end
section
variable {X:SX}{k:Keyed->Int}{κ:SortKind}{S:Keyed->Prop}
theorem zBX{L:List Keyed}{i:Nat}{p:Keyed}(h:i<L.length):(L.set i p).take (i+1)=L.take i++[p]:=by
 rw[List.take_add_one,List.take_set_of_le (Nat.le_refl _),List.getElem?_set_self h];rfl
theorem Ti:∀(l:List Keyed) (n:Nat) (sa:Nat) (xs:Array Keyed),sa+n+l.length<=xs.size->
  ((l.zipIdx n).foldl (λa (x:Keyed×Nat)=>a.setIfInBounds (sa+x.2) x.1) xs).toList=xs.toList.take (sa+n)++l++xs.toList.drop (sa+n+l.length)
 |[],n,sa,xs,h=>by rw[List.append_nil];exact(List.take_append_drop _ _).symm
 |p::l,n,sa,xs,h=>by
  simp only[List.length_cons]at h;rw[List.zipIdx_cons,List.foldl_cons,Ti l (n+1) sa _ (by rw[Array.size_setIfInBounds];exact Aw λZ=>A8 [_,_,_,_] [A7 x3 (.a (.a x0 (.a x1 (.n 1))) x2),A5 (.a (.a x0 x1) (.a x2 (.n 1))) x3] rT Z h),Array.toList_setIfInBounds,←Nat.add_assoc,zBX (by rw[Array.length_toList];exact Cz λZ=>A8 [_,_,_,_] [A5 x2 (.a x0 x1),A5 (.a (.a x0 x1) (.a x3 (.n 1))) x2,A5 (.n 0) x3] rT Z h (lq5 _)),List.drop_set_of_lt (by exact Cz λZ=>A8 [_,_,_] [A5 (.a (.a (.a x0 x1) (.n 1)) x2) (.a x0 x1),A5 (.n 0) x2] rT Z (lq5 _)),List.length_cons,lq8,lq8,lq8,Nat.add_assoc (sa+n) 1,Nat.add_comm 1]
  rfl
theorem U4{L:List Keyed}{lo hi m:Nat}(h:lo+m<hi):((L.take hi).drop lo)[m]? =L[lo+m]?:=by
 rw[List.getElem?_drop,List.getElem?_take_of_lt h]
theorem zH3{l:List Keyed}(h:∀(i j:Nat) (x y:Keyed),i<j->l[i]? =some x->l[j]? =some y->k x<=k y):Hl k l:=
 List.pairwise_iff_getElem.mpr λi j hi hj hij=>h i j _ _ hij (List.getElem?_eq_getElem hi) (List.getElem?_eq_getElem hj)
theorem zIB{L:List Keyed}{lo hi i:Nat}{x:Keyed}(e:((L.take hi).drop lo)[i]? =some x):lo+i<hi:=by
 have:=(lq2 e).1
 rw[List.length_drop,List.length_take]at this;exact Nat.add_lt_of_lt_sub' (Nat.lt_of_lt_of_le this (Nat.sub_le_sub_right (Nat.min_le_left _ _) _))
theorem K7{xs:Array Keyed}{lo hi:Nat}(h:hi<=xs.size):Dz k xs lo hi↔Hl k ((xs.toList.take hi).drop lo):=by
 constructor
 ·intro s;refine zH3 λi j x y hij ex ey=>?_
  have hi':=zIB ex;have hj':=zIB ey;have:=s (lo+i) (lo+j) (Nat.le_add_right _ _) (Nat.add_le_add_left (Nat.le_of_lt hij) _) hj'
  rw[U4 hi']at ex;rw[U4 hj']at ey;rwa [G9 (Ar ex),G9 (Ar ey)]at this
 ·intro s i j h1 h2 h3;obtain⟨x,ex⟩:=Bl (a:=xs) (i:=i) (by exact Cz λZ=>A8 [_,_,_,_] [A5 x0 x1,A5 x2 x0,A5 x1 x3,A7 x3 x2] rT Z h h2 h3)
  obtain⟨y,ey⟩:=Bl (a:=xs) (i:=j) (by exact Cz λZ=>A8 [_,_,_] [A5 x0 x1,A5 x2 x0,A7 x1 x2] rT Z h h3)
  rw[G9 (Ar ex),G9 (Ar ey)];refine L7 s (i:=i - lo) (j:=j - lo) (Nat.sub_le_sub_right h2 _) ?_ ?_
  ·rw[U4 (by exact Cz λZ=>A8 [_,_,_,_,_] [A5 x0 (.a x1 x2),A5 x3 x4,A7 x4 x0,B9 (.a x2 x1) x3] rT Z h2 h3 (Aq (Aw λY=>A8 [_,_] [A7 x1 x0,A5 x0 x1] rT Y h1))),Nat.add_sub_cancel' h1];exact ex
  ·rw[U4 (by exact Cz λZ=>A8 [_,_,_,_] [A5 x0 (.a x1 x2),A7 x3 x0,B9 (.a x2 x1) x3] rT Z h3 (Aq (Aw λY=>A8 [_,_,_] [A7 x1 x0,A5 x0 x2,A5 x2 x1] rT Y h1 h2))),Nat.add_sub_cancel' (Nat.le_trans h1 h2)];exact ey
theorem Sn{L:List Keyed}{a b c:Nat}(h1:a<=b) (h2:b<=c) (h3:c<=L.length):(L.take c).drop a=(L.take b).drop a++(L.take c).drop b:=by
 have hl:(L.take b).length=b:=List.length_take_of_le (Nat.le_trans h2 h3)
 conv=>lhs;rw[Jd h2,List.drop_append_of_le_length (by exact Aw λZ=>A8 [_,_,_] [A7 x1 x0,A5 x0 x2,Gl x1 x2] rT Z h1 hl)]
theorem Ym{l:List Keyed}{a b c:Nat}(h1:a<=b) (h2:b<=c):l=l.take a++((l.take b).drop a++(l.take c).drop b)++l.drop c:=by
 have e1:l.take c=l.take b++(l.take c).drop b:=Jd h2
 have e2:l.take b=l.take a++(l.take b).drop a:=Jd h1
 rw[←lq8,←e2,←e1,List.take_append_drop]
theorem Xz{A B:List Keyed}{p:Keyed}(sA:Hl k A) (sB:Hl k B) (h1:∀x,x∈A->k x<=k p) (h2:∀y,y∈B->k p<=k y):Hl k (A++B):=
 List.pairwise_append.mpr ⟨sA,sB,λx hx y hy=>Int.le_trans (h1 x hx) (h2 y hy)⟩
theorem zAz{A1 A2 B1 B2 M:List Keyed}{pa pb:Keyed}(sA:Hl k (A1++A2)) (sB:Hl k (B1++B2)) (m:Fp k A2 B1 M) (h1:∀x,x∈A1->k x<=k pb) (h2:∀y,y∈B1++B2->k pb<=k y) (h3:∀x,x∈A1++A2->k x<=k pa) (h4:∀y,y∈B2->k pa<=k y):Hl k (A1++M++B2):=by
 have a:=List.pairwise_append.mp sA;have b:=List.pairwise_append.mp sB;have hm:∀x,x∈M->x∈A2∨x∈B1:=λx hx=>List.mem_append.mp (m.1.mem_iff.mp hx)
 refine List.pairwise_append.mpr ⟨List.pairwise_append.mpr ⟨a.1,m.2,λx hx y hy=>?_⟩,b.2.1,λx hx y hy=>?_⟩
 ·rcases hm y hy with hy|hy
  ·exact a.2.2 x hx y hy
  ·exact Int.le_trans (h1 x hx) (h2 y (List.mem_append_left _ hy))
 ·rcases List.mem_append.mp hx with hx|hx
  ·exact Int.le_trans (h3 x (List.mem_append_left _ hx)) (h4 y hy)
  ·rcases hm x hx with hx|hx
   ·exact Int.le_trans (h3 x (List.mem_append_right _ hx)) (h4 y hy)
   ·exact b.2.2 x hx y hy
theorem zCj{L M:List Keyed}{p q lo hi:Nat}(h1:lo<=p) (h2:p<=q) (h3:q<=hi) (h4:hi<=L.length) (hM:M.length=q - p):((L.take p++M++L.drop q).take hi).drop lo=(L.take p).drop lo++M++(L.take hi).drop q:=by
 have hl:(L.take p).length=p:=List.length_take_of_le (by exact Aw λZ=>A8 [_,_,_,_] [A7 x1 x0,A5 x0 x2,A5 x2 x3,A5 x3 x1] rT Z h2 h3 h4)
 have hl2:(L.take p++M).length=q:=by rw[lq7,hl,hM];exact Ha (λZ=>A8 [_,_,_] [A7 (.a x0 x2) x1,A5 x1 (.a x2 x0)] rT Z (Ax _ _)) (λZ=>A8 [_,_,_] [A7 x1 (.a x0 x2),B9 (.a x2 x0) x1] rT Z (Aq (Aw λY=>A8 [_,_] [A7 x1 x0,A5 x0 x1] rT Y h2)))
 rw[List.take_append,List.take_of_length_le (by exact Aw λZ=>A8 [_,_,_] [A7 x0 x1,A5 x2 x0,B9 x1 x2] rT Z h3 hl2),hl2,lq8,List.drop_append_of_le_length (by exact Aw λZ=>A8 [_,_,_] [A7 x1 x0,A5 x0 x2,Gl x1 x2] rT Z h1 hl),lq8,←List.drop_take]
theorem zDL{L M:List Keyed}{p q j:Nat}(h2:p<=q) (h4:q<=L.length) (hM:M.length=q - p) (h:j<p∨q<=j):(L.take p++M++L.drop q)[j]? =L[j]?:=by
 have hl:(L.take p).length=p:=List.length_take_of_le (by exact Aw λZ=>A8 [_,_,_] [A7 x1 x0,A5 x0 x2,A5 x2 x1] rT Z h2 h4)
 have hl2:(L.take p++M).length=q:=by rw[lq7,hl,hM];exact Ha (λZ=>A8 [_,_,_] [A7 (.a x0 x2) x1,A5 x1 (.a x2 x0)] rT Z (Ax _ _)) (λZ=>A8 [_,_,_] [A7 x1 (.a x0 x2),B9 (.a x2 x0) x1] rT Z (Aq (Aw λY=>A8 [_,_] [A7 x1 x0,A5 x0 x1] rT Y h2)))
 rcases h with h|h
 ·rw[lq8,List.getElem?_append_left (by exact Cz λZ=>A8 [_,_,_] [A5 x0 x1,Gl x0 x2,A7 x1 x2] rT Z hl h),List.getElem?_take_of_lt h]
 ·rw[List.getElem?_append_right (by exact Aw λZ=>A8 [_,_,_] [A7 x1 x0,B9 x0 x2,A5 x2 x1] rT Z hl2 h),hl2,List.getElem?_drop,Nat.add_sub_cancel' h]
theorem O7{L:List Keyed}{a b:Nat}(h:b<=L.length):((L.take b).drop a).length=b - a:=by rw[List.length_drop,List.length_take_of_le h]
theorem zEV(H:Sp X k κ S){st:SortSt}{xs:Array Keyed}{sa na:Nat}{pb:Keyed}{Q:Option Nat->SortSt->Prop}(hk:kindOf st=κ) (hS:∀p,p∈xs.toList->S p) (hz:sa+na<=xs.size) (hna:0<na) (s1:Dz k xs sa (sa+na)) (hp:S pb)
  (h:∀r,r<=na->(∀x,x∈(xs.toList.take (sa+r)).drop sa->k x<=k pb)->(∀x,x∈(xs.toList.take (sa+na)).drop (sa+r)->k pb<=k x)->Q (some r) st):SW X (E0 false pb xs sa na 0) Q st:=by
 refine Go H hk hp (λj hj=>?_) hna (λj=>!decide (k pb<KA k xs (sa+j))) (λj hj p e=>?_) (λj l hjl hl hb=>?_) λr hr hlow hhigh=>h r hr (λx hx=>?_) λx hx=>?_
 ·obtain⟨p,e⟩:=Bl (a:=xs) (i:=sa+j) (by exact Cz λZ=>A8 [_,_,_,_] [A5 x1 (.a x0 x2),A5 (.a x0 x3) x1,A7 x2 x3] rT Z hz hj)
  exact⟨p,Ar e,hS _ (Df e)⟩
 ·rw[if_neg (λh=>Bool.noConfusion h),G9 e]
 ·have:=s1 (sa+j) (sa+l) (Nat.le_add_right _ _) (Nat.add_le_add_left hjl _) (Nat.add_lt_add_left hl _)
  have h2:=of_decide_eq_false (Bool.not_eq_true' _ |>.mp hb)
  exact(Bool.not_eq_true' _).mpr (decide_eq_false λh=>h2 (Int.lt_of_lt_of_le h this))
 ·obtain⟨i,hi,e⟩:=Gn hx;have:=hlow i (Nat.lt_of_add_lt_add_left hi)
  rw[G9 (Ar e)]at this;exact Int.not_lt.mp (of_decide_eq_false ((Bool.not_eq_true' _).mp this))
 ·obtain⟨i,hi,e⟩:=Gn hx;rw[Nat.add_assoc]at hi e;have:=hhigh (r+i) (Nat.le_add_right _ _) (Nat.lt_of_add_lt_add_left hi)
  rw[G9 (Ar e)]at this;exact Int.le_of_lt (of_decide_eq_true ((Bool.not_eq_false' _).mp this))
theorem zEE(H:Sp X k κ S){st:SortSt}{xs:Array Keyed}{sb nb:Nat}{pa:Keyed}{Q:Option Nat->SortSt->Prop}(hk:kindOf st=κ) (hS:∀p,p∈xs.toList->S p) (hz:sb+nb<=xs.size) (hnb:0<nb) (s1:Dz k xs sb (sb+nb)) (hp:S pa)
  (h:∀r,r<=nb->(∀x,x∈(xs.toList.take (sb+r)).drop sb->k x<=k pa)->(∀x,x∈(xs.toList.take (sb+nb)).drop (sb+r)->k pa<=k x)->Q (some r) st):SW X (E0 true pa xs sb nb (nb - 1)) Q st:=by
 refine Go H hk hp (λj hj=>?_) (Nat.sub_lt hnb Nat.zero_lt_one) (λj=>decide (KA k xs (sb+j)<k pa)) (λj hj p e=>?_) (λj l hjl hl hb=>?_) λr hr hlow hhigh=>h r hr (λx hx=>?_) λx hx=>?_
 ·obtain⟨p,e⟩:=Bl (a:=xs) (i:=sb+j) (by exact Cz λZ=>A8 [_,_,_,_] [A5 x1 (.a x0 x2),A5 (.a x0 x3) x1,A7 x2 x3] rT Z hz hj)
  exact⟨p,Ar e,hS _ (Df e)⟩
 ·rw[if_pos rfl,G9 e]
 ·have:=s1 (sb+j) (sb+l) (Nat.le_add_right _ _) (Nat.add_le_add_left hjl _) (Nat.add_lt_add_left hl _)
  exact decide_eq_true (Int.lt_of_le_of_lt this (of_decide_eq_true hb))
 ·obtain⟨i,hi,e⟩:=Gn hx;have:=hlow i (Nat.lt_of_add_lt_add_left hi)
  rw[G9 (Ar e)]at this;exact Int.le_of_lt (of_decide_eq_true this)
 ·obtain⟨i,hi,e⟩:=Gn hx;rw[Nat.add_assoc]at hi e;have:=hhigh (r+i) (Nat.le_add_right _ _) (Nat.lt_of_add_lt_add_left hi)
  rw[G9 (Ar e)]at this;exact Int.not_lt.mp (of_decide_eq_false this)
structure X0 (k:Keyed->Int) (L:List Keyed) (sa sb hi r r2:Nat) (pa pb:Keyed):Prop where
 h1:sa+r<sb
 h2:0<r2
 h3:sb+r2<=hi
 h4:hi<=L.length
 sA:Hl k ((L.take sb).drop sa)
 sB:Hl k ((L.take hi).drop sb)
 lowA:∀x,x∈(L.take (sa+r)).drop sa->k x<=k pb
 highB:∀x,x∈(L.take hi).drop (sb+r2)->k pa<=k x
 lowB:∀x,x∈(L.take (sb+r2)).drop sb->k x<=k pa
 highA:∀x,x∈(L.take sb).drop (sa+r)->k pb<=k x
 ea:L[sb - 1]? =some pa
 eb:L[sb]? =some pb
theorem X0.splitA{L:List Keyed}{sa sb hi r r2:Nat}{pa pb:Keyed}(V:X0 k L sa sb hi r r2 pa pb):(L.take sb).drop sa=(L.take (sa+r)).drop sa++(L.take sb).drop (sa+r):=
 Sn (Nat.le_add_right _ _) (Nat.le_of_lt V.h1) (Nat.le_trans (Nat.le_add_right _ _) (Nat.le_trans V.h3 V.h4))
theorem X0.splitB{L:List Keyed}{sa sb hi r r2:Nat}{pa pb:Keyed}(V:X0 k L sa sb hi r r2 pa pb):(L.take hi).drop sb=(L.take (sb+r2)).drop sb++(L.take hi).drop (sb+r2):=
 Sn (Nat.le_add_right _ _) V.h3 V.h4
theorem X0.leA{L:List Keyed}{sa sb hi:Nat}{pa:Keyed}(hab:sa<sb) (sA:Hl k ((L.take sb).drop sa)) (ea:L[sb - 1]? =some pa):∀x,x∈(L.take sb).drop sa->k x<=k pa:=λx hx=>by
 obtain⟨i,e⟩:=List.getElem?_of_mem hx
 have hi:=zIB e;refine L7 sA (i:=i) (j:=sb - 1 - sa) (by exact Aw λZ=>A8 [_,_,_,_,_] [A7 x1 x0,A7 (.a x2 x0) x3,A5 x3 (.a x4 (.n 1)),A5 x4 (.a x1 x2)] rT Z hi (Ax _ _) (Ax _ _)) e ?_
 rw[U4 (by exact Cz λZ=>A8 [_,_,_,_] [A5 x1 (.a x0 x2),B9 (.a x3 (.n 1)) x1,B9 (.a x2 x0) x3] rT Z (Aq (Aw λY=>A8 [_,_] [A7 x0 (.n 1),A7 x1 x0,A5 (.n 0) x1] rT Y hab (lq5 _))) (Aq (Aw λY=>A8 [_,_,_] [A7 x1 x0,A7 x0 x2,A5 x2 (.a x1 (.n 1))] rT Y hab (Ax _ _)))),show sa+(sb - 1 - sa)=sb - 1 by exact Ha (λZ=>A8 [_,_,_] [A7 (.a x0 x1) x2,A5 x2 (.a x1 x0)] rT Z (Ax _ _)) (λZ=>A8 [_,_,_] [A7 x2 (.a x0 x1),B9 (.a x1 x0) x2] rT Z (Aq (Aw λY=>A8 [_,_,_] [A7 x1 x0,A7 x0 x2,A5 x2 (.a x1 (.n 1))] rT Y hab (Ax _ _))))];exact ea
theorem X0.geB{L:List Keyed}{sb hi:Nat}{pb:Keyed}(hab:sb<hi) (sB:Hl k ((L.take hi).drop sb)) (eb:L[sb]? =some pb):∀x,x∈(L.take hi).drop sb->k pb<=k x:=λx hx=>by
 refine En sB (i:=0) ?_ x hx
 rw[U4 (by exact Cz λZ=>A8 [_,_] [A5 x1 (.a x0 (.n 0)),A7 x0 x1] rT Z hab)];exact eb
theorem X0.done{L M:List Keyed}{sa sb hi r r2:Nat}{pa pb:Keyed}(V:X0 k L sa sb hi r r2 pa pb) (m:Fp k ((L.take sb).drop (sa+r)) ((L.take (sb+r2)).drop sb) M):
  (L.take (sa+r)++M++L.drop (sb+r2)).Perm L/\(∀j,j<sa∨hi<=j->(L.take (sa+r)++M++L.drop (sb+r2))[j]? =L[j]?)/\Hl k (((L.take (sa+r)++M++L.drop (sb+r2)).take hi).drop sa):=by
 have h1:=V.h1;have h2:=V.h2;have h3:=V.h3;have h4:=V.h4;have hM:M.length=sb+r2 - (sa+r):=by
  rw[m.1.length_eq,lq7,O7 (by exact Aw λZ=>A8 [_,_,_,_] [A7 x1 x0,A7 (.n 0) x2,A5 (.a x0 x2) x3,A5 x3 x1] rT Z h2 h3 h4),O7 (by exact Aw λZ=>A8 [_,_,_,_] [A7 x2 (.a x0 x1),A5 (.a x0 x1) x3,A5 x3 x2] rT Z h3 h4)];exact Ha (λZ=>A8 [_,_,_,_,_,_,_] [A7 (.a x0 x1) x2,A5 x5 (.a x0 (.a x3 x4)),A5 (.a x5 x6) (.a x1 x5),B9 (.a x2 (.a x3 x4)) (.a x5 x6)] rT Z (Ax _ _) (Ax _ _) (Aq (Aw λY=>A8 [_,_,_,_] [A7 (.a x2 x3) (.a x0 x1),A7 (.a x0 x1) x2,A7 (.n 0) x3] rT Y h1 h2))) (λZ=>A8 [_,_,_,_,_,_,_] [A7 x2 (.a x0 x1),A5 (.a x5 x6) (.a x2 (.a x3 x4)),B9 (.a x0 (.a x3 x4)) x5,B9 (.a x1 x5) (.a x5 x6)] rT Z (Ax _ _) (Aq (Aw λY=>A8 [_,_,_] [A7 x2 (.a x0 x1),A7 (.a x0 x1) x2] rT Y h1)) (Aq (Aw λY=>A8 [_,_] [A7 (.a x0 x1) x0,A7 (.n 0) x1] rT Y h2)))
 refine⟨?_,λj hj=>zDL (by exact Aw λZ=>A8 [_,_,_,_] [A7 (.a x2 x3) (.a x0 x1),A7 (.a x0 x1) x2,A7 (.n 0) x3] rT Z h1 h2) (by exact Aw λZ=>A8 [_,_,_,_] [A7 x2 (.a x0 x1),A5 (.a x0 x1) x3,A5 x3 x2] rT Z h3 h4) hM (by(clear hM h4 h2 h1 m V;exact Or.elim hj (λhd1=>.inl (Cz λZ=>A8 [_,_,_] [A5 (.a x1 x2) x0,A7 x0 x1,A5 (.n 0) x2] rT Z hd1 (lq5 _))) (λhd1=>.inr (Aw λZ=>A8 [_,_,_,_] [A7 x2 (.a x0 x1),A5 (.a x0 x1) x3,A5 x3 x2] rT Z h3 hd1)))),?_⟩
 ·have e4:=Ym (l:=L) (a:=sa+r) (b:=sb) (c:=sb+r2) (Nat.le_of_lt h1) (Nat.le_add_right _ _);conv=>rhs;rw[e4]
  exact(m.1.append_left _).append_right _
 ·simp only[zCj (Nat.le_add_right _ _) (by exact Aw λZ=>A8 [_,_,_,_] [A7 (.a x2 x3) (.a x0 x1),A7 (.a x0 x1) x2,A7 (.n 0) x3] rT Z h1 h2) h3 h4 hM]
  have ha:=X0.leA (hi:=hi) (by exact Cz λZ=>A8 [_,_,_] [A5 x1 x0,A7 (.a x0 x2) x1,A5 (.n 0) x2] rT Z h1 (lq5 _)) V.sA V.ea
  have hb:=X0.geB (by exact Cz λZ=>A8 [_,_,_] [A5 x1 x0,A7 (.n 0) x2,A5 (.a x0 x2) x1] rT Z h2 h3) V.sB V.eb
  have sA:=V.sA;have sB:=V.sB;rw[V.splitA]at sA ha;rw[V.splitB]at sB hb;exact zAz sA sB m V.lowA hb ha V.highB
noncomputable def zJB (sa na nb sb:Nat) (arr:Array Keyed):StateT SortSt Sem Bool:=do
 let x:=arr.extract sa sb
 let y:=arr.extract sb (sb+nb)
 let out ←if na<=nb then Ln x y else M1 x y
 modify λs=>setArr s (out.toList.zipIdx.foldl (λa (x:Keyed×Nat)=>a.setIfInBounds (sa+x.2) x.1) (arrOf s))
 let s ←get
 pure (failedOf s).isNone
theorem zAm(H:Sp X k κ S){st:SortSt}{xs:Array Keyed}{sa sb hi r r2 nr:Nat}{pa pb:Keyed}{Q:Bool->SortSt->Prop}(hk:kindOf st=κ) (hx:arrOf st=xs) (hf:failedOf st=none) (hS:∀p,p∈xs.toList->S p) (V:X0 k xs.toList sa sb hi r r2 pa pb)
  (h:∀st',kindOf st'=kindOf st->failedOf st'=none->pendingOf st'=pendingOf st->(arrOf st').toList.Perm xs.toList->(∀j,j<sa∨hi<=j->(arrOf st')[j]? =xs[j]?)->Dz k (arrOf st') sa hi->Q true st'):
  SW X (zJB (sa+r) nr r2 sb xs) Q st:=by
 have h1:=V.h1;have h2:=V.h2;have h3:=V.h3;have h4:=V.h4;simp only[Array.length_toList]at h4;have ex:(xs.extract (sa+r) sb).toList=(xs.toList.take sb).drop (sa+r):=Oc _ _ _
 have ey:(xs.extract sb (sb+r2)).toList=(xs.toList.take (sb+r2)).drop sb:=Oc _ _ _
 have zx:(xs.extract (sa+r) sb).size=sb - (sa+r):=by rw[Array.size_extract,Nat.min_eq_left (by exact Aw λZ=>A8 [_,_,_,_] [A7 x1 x0,A7 (.n 0) x2,A5 (.a x0 x2) x3,A5 x3 x1] rT Z h2 h3 h4)]
 have zy:(xs.extract sb (sb+r2)).size=r2:=by rw[Array.size_extract,Nat.min_eq_left (by exact Aw λZ=>A8 [_,_,_,_] [A7 x2 (.a x0 x1),A5 (.a x0 x1) x3,A5 x3 x2] rT Z h3 h4),Nat.add_sub_cancel_left]
 have sA:=V.sA;have sB:=V.sB;rw[V.splitA]at sA;rw[V.splitB]at sB;have hSx:∀p,p∈(xs.extract (sa+r) sb).toList->S p:=λp m=>by rw[ex]at m;exact hS p (List.mem_of_mem_take (List.mem_of_mem_drop m))
 have hSy:∀p,p∈(xs.extract sb (sb+r2)).toList->S p:=λp m=>by rw[ey]at m;exact hS p (List.mem_of_mem_take (List.mem_of_mem_drop m))
 have sx:Hl k (xs.extract (sa+r) sb).toList:=by rw[ex];exact(List.pairwise_append.mp sA).2.1
 have sy:Hl k (xs.extract sb (sb+r2)).toList:=by rw[ey];exact(List.pairwise_append.mp sB).1
 have hfirst:∀x y,(xs.extract sb (sb+r2)).toList[0]? =some x->(xs.extract (sa+r) sb).toList[0]? =some y->k x<=k y:=λx y e3 e4=>by
  rw[ey,U4 (by exact Cz λZ=>A8 [_,_] [A5 (.a x0 x1) (.a x0 (.n 0)),A7 (.n 0) x1] rT Z h2),Nat.add_zero,V.eb]at e3
  cases e3;rw[ex]at e4;exact V.highA y (Df e4)
 have hlast:∀x y,x∈(xs.extract sb (sb+r2)).toList->(xs.extract (sa+r) sb).toList[(xs.extract (sa+r) sb).size - 1]? =some y->k x<=k y:=λx y m e4=>by
  rw[ey]at m;rw[zx,ex,U4 (by exact Cz λZ=>A8 [_,_,_,_,_] [A5 x2 (.a (.a x0 x1) x3),B9 (.a x4 (.a x0 x1)) x2,B9 (.a x3 (.n 1)) x4] rT Z (Aq (Aw λY=>A8 [_,_,_] [A7 x2 (.a x0 x1),A7 (.a x0 x1) x2] rT Y h1)) (Aq (Aw λY=>A8 [_,_,_,_] [A7 x0 (.n 1),A7 (.a x1 x2) x3,A5 x3 (.a x0 (.a x1 x2))] rT Y h1 (Ax _ _)))),show sa+r+(sb - (sa+r) - 1)=sb - 1 by exact Ha (λZ=>A8 [_,_,_,_,_,_] [A7 (.a (.a x0 x1) x2) x3,A5 x4 (.a x5 (.a x0 x1)),A5 x5 (.a x2 (.n 1)),B9 (.a x3 (.n 1)) x4] rT Z (Ax _ _) (Ax _ _) (Aq (Aw λY=>A8 [_,_,_] [A7 x0 (.n 1),A7 (.a x1 x2) x0,A5 (.n 0) x1,A5 (.n 0) x2] rT Y h1 (lq5 _) (lq5 _)))) (λZ=>A8 [_,_,_,_,_,_] [A7 x3 (.a (.a x0 x1) x2),A5 x4 (.a x3 (.n 1)),B9 (.a x5 (.a x0 x1)) x4,B9 (.a x2 (.n 1)) x5] rT Z (Ax _ _) (Aq (Aw λY=>A8 [_,_,_] [A7 x2 (.a x0 x1),A7 (.a x0 x1) x2] rT Y h1)) (Aq (Aw λY=>A8 [_,_,_,_] [A7 x0 (.n 1),A7 (.a x1 x2) x3,A5 x3 (.a x0 (.a x1 x2))] rT Y h1 (Ax _ _)))),V.ea]at e4
  cases e4;exact V.lowB x m
 have behind:∀(out:Array Keyed) (st2:SortSt),Fp k (xs.extract (sa+r) sb).toList (xs.extract sb (sb+r2)).toList out.toList->Fz st st2->
   SW X (do modify λs=>setArr s (out.toList.zipIdx.foldl (λa (x:Keyed×Nat)=>a.setIfInBounds (sa+r+x.2) x.1) (arrOf s));let s ←get;pure (failedOf s).isNone) Q st2:=λout st2 hm hs=>by
  simp only[ex,ey]at hm;have hM:out.toList.length=sb+r2 - (sa+r):=by
   rw[hm.1.length_eq,lq7,O7 (by rw[Array.length_toList];exact Aw λZ=>A8 [_,_,_,_] [A7 x1 x0,A7 (.n 0) x2,A5 (.a x0 x2) x3,A5 x3 x1] rT Z h2 h3 h4),O7 (by rw[Array.length_toList];exact Aw λZ=>A8 [_,_,_,_] [A7 x2 (.a x0 x1),A5 (.a x0 x1) x3,A5 x3 x2] rT Z h3 h4)];exact Ha (λZ=>A8 [_,_,_,_,_,_,_] [A7 (.a x0 x1) x2,A5 x5 (.a x0 (.a x3 x4)),A5 (.a x5 x6) (.a x1 x5),B9 (.a x2 (.a x3 x4)) (.a x5 x6)] rT Z (Ax _ _) (Ax _ _) (Aq (Aw λY=>A8 [_,_,_,_] [A7 (.a x2 x3) (.a x0 x1),A7 (.a x0 x1) x2,A7 (.n 0) x3] rT Y h1 h2))) (λZ=>A8 [_,_,_,_,_,_,_] [A7 x2 (.a x0 x1),A5 (.a x5 x6) (.a x2 (.a x3 x4)),B9 (.a x0 (.a x3 x4)) x5,B9 (.a x1 x5) (.a x5 x6)] rT Z (Ax _ _) (Aq (Aw λY=>A8 [_,_,_] [A7 x2 (.a x0 x1),A7 (.a x0 x1) x2] rT Y h1)) (Aq (Aw λY=>A8 [_,_] [A7 (.a x0 x1) x0,A7 (.n 0) x1] rT Y h2)))
  have e5:arrOf st2=xs:=hs.2.1.trans hx
  have hfold:=Ti out.toList 0 (sa+r) xs (by exact Aw λZ=>A8 [_,_,_,_,_,_,_,_] [A7 x2 (.a (.a (.a x0 x1) (.n 0)) x3),A5 (.a x4 x5) x6,A5 x6 x2,B9 x3 x7,B9 (.a x7 (.a x0 x1)) (.a x4 x5)] rT Z h3 h4 hM (Aq (Aw λY=>A8 [_,_,_,_] [A7 (.a x2 x3) (.a x0 x1),A7 (.a x0 x1) x2,A7 (.n 0) x3] rT Y h1 h2)))
  simp only[hM,Nat.add_zero,show sa+r+(sb+r2 - (sa+r))=sb+r2 by exact Ha (λZ=>A8 [_,_,_,_,_] [A7 (.a (.a x0 x1) x4) (.a x2 x3),A5 (.a x2 x3) (.a x4 (.a x0 x1))] rT Z (Ax _ _)) (λZ=>A8 [_,_,_,_,_] [A7 (.a x2 x3) (.a (.a x0 x1) x4),B9 (.a x4 (.a x0 x1)) (.a x2 x3)] rT Z (Aq (Aw λY=>A8 [_,_,_,_] [A7 (.a x2 x3) (.a x0 x1),A7 (.a x0 x1) x2,A7 (.n 0) x3] rT Y h1 h2)))]at hfold
  obtain⟨d1,d2,d3⟩:=V.done hm;rw[←hfold]at d1 d2 d3;have dz:=d1.length_eq;simp only[Array.length_toList,Array.length_toList]at dz;refine Ae (Dk (Ae (Gr ?_)))
  have hq:=h (setArr st2 (out.toList.zipIdx.foldl (λa (x:Keyed×Nat)=>a.setIfInBounds (sa+r+x.2) x.1) (arrOf st2))) hs.1 (hs.2.2.2.trans hf) hs.2.2.1 (by rw[e5];exact d1)
   (λj hj=>by rw[e5];have:=d2 j hj;rwa [Array.getElem?_toList,Array.getElem?_toList]at this)
   (by rw[e5];exact(K7 (Nat.le_trans h4 (Nat.le_of_eq dz.symm))).mpr d3)
  have hfn:(failedOf st2).isNone=true:=by rw[show failedOf st2=none from hs.2.2.2.trans hf];rfl
  rw[←hfn]at hq;exact Ai hq
 have px:0<(xs.extract (sa+r) sb).size:=by rw[zx];exact Cz λZ=>A8 [_,_,_,_] [A5 x0 (.n 0),A7 (.a x1 x2) x3,A5 x3 (.a x0 (.a x1 x2))] rT Z h1 (Ax _ _)
 have py:0<(xs.extract sb (sb+r2)).size:=by rw[zy];exact h2
 refine Be (c:=nr<=r2) (λ_=>Ae ?_) λ_=>Ae ?_
 ·exact Vo H hk hSx hSy sx sy px py hfirst hlast behind
 ·exact Vj H hk hSx hSy sx sy px py hfirst hlast behind
theorem Vu(H:Sp X k κ S){st:SortSt}{i sa na pw sb nb pw2:Nat}{Q:Bool->SortSt->Prop}(hk:kindOf st=κ) (hS:∀p,p∈(arrOf st).toList->S p) (hf:failedOf st=none)
  (e1:(pendingOf st)[i]? =some (sa,na,pw)) (e2:(pendingOf st)[i+1]? =some (sb,nb,pw2)) (hab:sa+na=sb) (hna:0<na) (hnb:0<nb) (hz:sb+nb<=(arrOf st).size)
  (s1:Dz k (arrOf st) sa sb) (s2:Dz k (arrOf st) sb (sb+nb))
  (h:∀st',kindOf st'=kindOf st->failedOf st'=none->pendingOf st'=((pendingOf st).setIfInBounds i (sa,na+nb,pw)).eraseIdxIfInBounds (i+1)->(arrOf st').toList.Perm (arrOf st).toList->
   (∀j,j<sa∨sb+nb<=j->(arrOf st')[j]? =(arrOf st)[j]?)->Dz k (arrOf st') sa (sb+nb)->Q true st'):SW X (mergeAt' i) Q st:=by
 subst hab;have hz1:sa+na<=(arrOf st).size:=by exact Aw λZ=>A8 [_,_,_,_] [A7 x2 (.a x1 x0),A7 (.n 0) x3,A5 (.a (.a x1 x0) x3) x2] rT Z hnb hz
 have sA:=(K7 hz1).mp s1;have sB:=(K7 hz).mp s2;obtain⟨pb,epb⟩:=Bl (a:=arrOf st) (i:=sa+na) (by exact Cz λZ=>A8 [_,_,_,_] [A5 x2 (.a x1 x0),A7 (.n 0) x3,A5 (.a (.a x1 x0) x3) x2] rT Z hnb hz)
 obtain⟨pa,epa⟩:=Bl (a:=arrOf st) (i:=sa+na - 1) (by exact Cz λZ=>A8 [_,_,_,_,_] [A5 x0 x1,A7 (.n 0) x2,A5 (.a (.a x4 x3) x2) x0,A5 x1 (.a x4 x3)] rT Z hnb hz (F9 _ _))
 have ha:=X0.leA (hi:=sa+na+nb) (by exact Cz λZ=>A8 [_,_] [A5 (.a x1 x0) x1,A7 (.n 0) x0] rT Z hna) sA epa
 have hb:=X0.geB (by exact Cz λZ=>A8 [_,_,_] [A5 (.a (.a x2 x0) x1) (.a x2 x0),A7 (.n 0) x1] rT Z hnb) sB epb
 have stay:Hl k (((arrOf st).toList.take (sa+na)).drop sa++((arrOf st).toList.take (sa+na+nb)).drop (sa+na))->Q true (setPending st (((pendingOf st).setIfInBounds i (sa,na+nb,pw)).eraseIdxIfInBounds (i+1))):=λg=>
  h _ rfl hf rfl (.refl _) (λ_ _=>rfl) ((K7 hz).mpr (by rw[Sn (Nat.le_add_right _ _) (Nat.le_add_right _ _) (by rw[Array.length_toList];exact hz)];exact g))
 unfold mergeAt';refine Ae (Gr ?_)
 rw[e1,e2];refine Ae (zGb (Ae (C7 (Ar epb) (Ae (zEV H hk hS hz1 hna s1 (hS _ (Df epb)) λr hr l1 g1=>?_)))))
 refine Be (λc1=>Ai (stay ?_)) λc1=>?_
 ·have:r=na:=by have:=Bj c1;exact Ha (λZ=>A8 [_,_,_] [A7 x1 x0,B9 x2 (.n 0),A5 x0 (.a x2 x1)] rT Z this (Ax _ _)) (λZ=>A8 [_,_] [A7 x0 x1,A5 x1 x0] rT Z hr)
  subst this;exact Xz sA sB l1 hb
 have c1':r<na:=by have:=Bk c1;(clear c1 g1 l1 hr stay hb ha epa epb sB sA hz1 h s2 s1 hz e2 hnb hna e1 hf hS hk H;omega)
 have hea:sa+r+(na - r) - 1=sa+na - 1:=by exact Ha (λZ=>A8 [_,_,_,_,_,_] [A7 x0 x1,A5 x2 (.a x4 x3),A5 (.a (.a x5 x3) x4) (.a x0 (.n 1)),B9 (.a x1 (.n 1)) (.a x5 x2)] rT Z (Ax _ _) (Ax _ _) (Aq (Aw λY=>A8 [_,_] [A7 (.a x1 x0) (.n 1),A7 (.n 0) x0,A5 (.n 0) x1] rT Y hna (lq5 _)))) (λZ=>A8 [_,_,_,_,_,_] [A7 x1 x0,A5 (.a x3 x2) (.a x1 (.n 1)),B9 (.a x5 x4) x2,B9 (.a x0 (.n 1)) (.a (.a x3 x4) x5)] rT Z (Ax _ _) (Aq (Aw λY=>A8 [_,_] [A7 x0 x1,A5 x1 x0] rT Y hr)) (Aq (Aw λY=>A8 [_,_,_,_] [A7 (.a (.a x0 x1) x2) (.n 1),A7 (.n 0) x3,A5 (.n 0) x0,A5 x3 (.a x2 x1)] rT Y hna (lq5 _) (Ax _ _))))
 refine Ae (C7 (p:=pa) (by rw[hea];exact Ar epa) (Ae (zEE H hk hS hz hnb s2 (hS _ (Df epa)) λr2 hr2 l2 g2=>?_)))
 refine Be (λc2=>Ai (stay ?_)) λc2=>?_
 ·have:r2=0:=Bj c2
  subst this;exact Xz sA sB ha g2
 have V:X0 k (arrOf st).toList sa (sa+na) (sa+na+nb) r r2 pa pb:=⟨by exact Cz λZ=>A8 [_,_,_] [A5 (.a x1 x0) (.a x1 x2),A7 x2 x0] rT Z c1',Nat.pos_of_ne_zero (Bk c2),by exact Aw λZ=>A8 [_,_,_,_] [A7 (.a (.a x2 x0) x1) (.a (.a x2 x0) x3),A5 x3 x1] rT Z hr2,by rw[Array.length_toList];exact hz,sA,sB,l1,g2,l2,g1,epa,epb⟩
 exact zAm (nr:=na - r) H (st:=setPending st (((pendingOf st).setIfInBounds i (sa,na+nb,pw)).eraseIdxIfInBounds (i+1))) hk rfl hf hS V λst' q1 q2 q3 q4 q5 q6=>h st' q1 q2 q3 q4 q5 q6
end
section
variable {X:SX}{k:Keyed->Int}{κ:SortKind}{S:Keyed->Prop}
noncomputable def C9 (k:Keyed->Int) (xs:Array Keyed):List (Nat×Nat×Nat)->Nat->Nat->Prop
 |[],s,e=>s=e
 |q::r,s,e=>q.1=s/\0<q.2.1/\Dz k xs s (s+q.2.1)/\C9 k xs r (s+q.2.1) e
theorem C9.le{xs:Array Keyed}:∀{l:List (Nat×Nat×Nat)}{s e:Nat},C9 k xs l s e->s+l.length<=e
 |[],s,e,h=>by have:s=e:=h;simp;exact Aw λZ=>A8 [_,_] [A7 x1 x0,B9 x0 x1] rT Z this
 |q::r,s,e,h=>by
  have:=C9.le h.2.2.2
  have:=h.2.1
  simp;omega
theorem C9.congr{xs ys:Array Keyed}:∀{l:List (Nat×Nat×Nat)}{s e:Nat},C9 k xs l s e->(∀j,s<=j->j<e->ys[j]? =xs[j]?)->C9 k ys l s e
 |[],s,e,h,_=>h
 |q::r,s,e,h,hc=>by
  have hle:=C9.le h.2.2.2;refine⟨h.1,h.2.1,λi j h1 h2 h3=>?_,C9.congr h.2.2.2 λj h1 h2=>hc j (by exact Aw λZ=>A8 [_,_,_] [A7 x1 x0,A5 (.a x0 x2) x1,A5 (.n 0) x2] rT Z h1 (lq5 _)) h2⟩
  simp only[Du (hc i (by exact Aw λZ=>A8 [_,_] [A7 x1 x0,A5 x0 x1] rT Z h1) (by exact Cz λZ=>A8 [_,_,_,_,_,_] [A5 x0 x1,A5 (.a (.a x2 x3) x4) x0,A5 x1 x5,A7 x5 (.a x2 x3),A5 (.n 0) x4] rT Z hle h2 h3 (lq5 _))),Du (hc j (by exact Aw λZ=>A8 [_,_,_] [A7 x1 x0,A5 x0 x2,A5 x2 x1] rT Z h1 h2) (by exact Cz λZ=>A8 [_,_,_,_,_] [A5 x0 x1,A5 (.a (.a x2 x3) x4) x0,A7 x1 (.a x2 x3),A5 (.n 0) x4] rT Z hle h3 (lq5 _)))]
  exact h.2.2.1 i j h1 h2 h3
theorem C9.app{xs:Array Keyed}:∀{l m:List (Nat×Nat×Nat)}{s e:Nat},C9 k xs (l++m) s e↔∃u,C9 k xs l s u/\C9 k xs m u e
 |[],m,s,e=>⟨λh=>⟨s,rfl,h⟩,λ⟨u,h1,h2⟩=>by have:s=u:=h1;subst this;exact h2⟩
 |q::r,m,s,e=>by
  constructor
  ·intro h0z;apply yo;intro _ k0
   obtain⟨h1,h2,h3,h4⟩:=h0z;apply k0
   obtain⟨u,h5,h6⟩:=C9.app.mp h4;exact⟨u,⟨h1,h2,h3,h5⟩,h6⟩
  ·rintro⟨u,⟨h1,h2,h3,h5⟩,h6⟩
   exact⟨h1,h2,h3,C9.app.mpr ⟨u,h5,h6⟩⟩
theorem C9.modify{xs:Array Keyed}{pw:Nat}:∀{l:List (Nat×Nat×Nat)}{s e:Nat}(i:Nat),C9 k xs l s e->C9 k xs (l.modify i λq=>(q.1,q.2.1,pw)) s e
 |[],s,e,i,h=>by simpa using h
 |q::r,s,e,0,h=>h
 |q::r,s,e,i+1,h=>⟨h.1,h.2.1,h.2.2.1,C9.modify i h.2.2.2⟩
theorem zAv{α:Type}:∀{l:List α}{i:Nat}{x y:α},l[i]? =some x->l[i+1]? =some y->∃a b,l=a++x::y::b/\a.length=i
 |[],i,x,y,h,_=>by simp at h
 |z::l,0,x,y,h1,h2=>by
  simp at h1 h2
  cases l with
  |nil=>simp at h2
  |cons w l=>simp at h2;exact⟨[],l,by rw[h1,h2];rfl,rfl⟩
 |z::l,i+1,x,y,h1,h2=>by
  simp at h1 h2
  obtain⟨a,b,e,n⟩:=zAv h1 h2;exact⟨z::a,b,by rw[e];rfl,by simp[n]⟩
theorem Y4{α:Type}(a b:List α) (x y v:α):((a++x::y::b).set a.length v).eraseIdx (a.length+1)=a++v::b:=by
 rw[List.set_append_right _ _ (Nat.le_refl _),Nat.sub_self,List.eraseIdx_append_of_length_le (by exact Aw λZ=>A8 [_] [A7 (.a x0 (.n 1)) x0] rT Z)]
 simp
theorem zHT{c:Prop} [Decidable c] {a b n:Nat}(ha:a+1<n) (hb:b+1<n):(if c then a else b)+1<n:=by split<;>assumption
structure Ye (k:Keyed->Int) (κ:SortKind) (a₀:List Keyed) (st:SortSt):Prop where
 perm:(arrOf st).toList.Perm a₀
 kind:kindOf st=κ
 failed:failedOf st=none
theorem Ye.size{a₀:List Keyed}{st:SortSt}(h:Ye k κ a₀ st):(arrOf st).size=a₀.length:=by have:=h.perm.length_eq;simpa using this
theorem Hx(H:Sp X k κ S){a₀:List Keyed}(hS:∀p,p∈a₀->S p){st:SortSt}{i e:Nat}{Q:Bool->SortSt->Prop}(O:Ye k κ a₀ st) (R:C9 k (arrOf st) (pendingOf st).toList 0 e) (he:e<=a₀.length) (hi:i+1<(pendingOf st).size)
  (h:∀st',Ye k κ a₀ st'->C9 k (arrOf st') (pendingOf st').toList 0 e->(pendingOf st').size+1=(pendingOf st).size->(∀j,e<=j->(arrOf st')[j]? =(arrOf st)[j]?)->Q true st'):SW X (mergeAt' i) Q st:=by
 have hi0:i<(pendingOf st).size:=by exact Cz λZ=>A8 [_,_] [A5 x1 x0,A7 (.a x0 (.n 1)) x1] rT Z hi
 have g1:(pendingOf st).toList[i]? =some (pendingOf st)[i]:=by simp[hi0]
 have g2:(pendingOf st).toList[i+1]? =some (pendingOf st)[i+1]:=by simp[hi]
 apply yo;intro _ k0
 obtain⟨A,B,eAB,hlen⟩:=zAv g1 g2;obtain⟨⟨sa,na,pw⟩,ea⟩:∃x,x=(pendingOf st)[i]:=⟨_,rfl⟩
 obtain⟨⟨sb,nb,pw2⟩,eb⟩:∃x,x=(pendingOf st)[i+1]:=⟨_,rfl⟩
 apply k0
 simp only[←ea,←eb]at eAB;have R':=R;rw[eAB]at R';apply yo;intro _ k0
 obtain⟨u,RA,RB⟩:=C9.app.mp R';obtain⟨h1,h2,h3,h4,h5,h6,h7⟩:=RB;apply k0
 dsimp only at h1 h2 h3 h4 h5 h6 h7;have hle:=h7.le;have hleA:=RA.le;subst h1;subst h4;have hz:=O.size;refine Vu H (sa:=sa) (na:=na) (pw:=pw) (sb:=sa+na) (nb:=nb) (pw2:=pw2) O.kind (λp m=>hS p (O.perm.mem_iff.mp m)) O.failed (by rw[ea];simp[hi0]) (by rw[eb];simp[hi]) rfl h2 h5 (by exact Aw λZ=>A8 [_,_,_,_,_,_,_] [A7 x3 (.a (.a x2 x0) x1),A5 x4 x5,A5 (.a (.a (.a x2 x0) x1) x6) x4,Gl x3 x5,A5 (.n 0) x6] rT Z he hle hz (lq5 _)) h3 h6 λst' q1 q2 q3 q4 q5 q6=>?_
 have ep:(pendingOf st').toList=A++(sa,na+nb,pw)::B:=by
  rw[q3];have:(((pendingOf st).setIfInBounds i (sa,na+nb,pw)).eraseIdxIfInBounds (i+1)).toList=((pendingOf st).toList.set i (sa,na+nb,pw)).eraseIdx (i+1):=by simp
  rw[this,eAB,←hlen];exact Y4 A B _ _ _
 refine h st' ⟨q4.trans O.perm,q1.trans O.kind,q2⟩ ?_ ?_ λj hj=>q5 j (by exact .inr (Aw λZ=>A8 [_,_,_,_,_,_] [A7 x3 (.a (.a x2 x0) x1),A5 (.a (.a (.a x2 x0) x1) x5) x4,A5 x4 x3,A5 (.n 0) x5] rT Z hle hj (lq5 _)))
 ·rw[ep];refine C9.app.mpr ⟨sa,RA.congr λj _ hj=>q5 j (by exact .inl (Cz λZ=>A8 [_,_] [A5 x0 x1,A7 x1 x0] rT Z hj)),rfl,by exact Cz λZ=>A8 [_,_] [A5 (.a x0 x1) (.n 0),A7 (.n 0) x0,A7 (.n 0) x1] rT Z h2 h5,?_,?_⟩
  ·show Dz k (arrOf st') sa (sa+(na+nb))
   rw[←Nat.add_assoc];exact q6
  ·show C9 k (arrOf st') B (sa+(na+nb)) e
   rw[←Nat.add_assoc];exact h7.congr λj hj _=>q5 j (by exact .inr (Aw λZ=>A8 [_,_,_,_] [A7 x3 (.a (.a x2 x0) x1),A5 (.a (.a x2 x0) x1) x3] rT Z hj))
 ·have e1:=congrArg List.length ep;have e2:=congrArg List.length eAB;simp at e1 e2
  exact Ha (λZ=>A8 [_,_,_,_] [A7 (.a x1 (.n 1)) x0,Gl x1 (.a x2 (.a x3 (.n 1))),B9 x0 (.a x2 (.a (.a x3 (.n 1)) (.n 1)))] rT Z e1 e2) (λZ=>A8 [_,_,_,_] [A7 x0 (.a x1 (.n 1)),B9 x1 (.a x2 (.a x3 (.n 1))),Gl x0 (.a x2 (.a (.a x3 (.n 1)) (.n 1)))] rT Z e1 e2)
inductive zJd (k:Keyed->Int) (κ:SortKind) (a₀:List Keyed) (lo m:Nat){γ:Type}(c:Option γ×PUnit) (st':SortSt):Prop
 |mk (e:c=(none,())) (O:Ye k κ a₀ st') (R:C9 k (arrOf st') (pendingOf st').toList 0 lo) (h:Dz k (arrOf st') lo (lo+m))
inductive zLZ (k:Keyed->Int) (κ:SortKind) (a₀:List Keyed) (x:Nat){γ:Type}(c:Option γ×Nat) (st':SortSt):Prop
 |mk (lo:Nat) (e:c=(none,lo)) (O:Ye k κ a₀ st') (R:C9 k (arrOf st') (pendingOf st').toList 0 lo) (h:lo<=a₀.length) (g:lo=a₀.length∨x<=lo)
inductive zLS (k:Keyed->Int) (κ:SortKind) (a₀:List Keyed){γ:Type}(c:Option γ×Nat) (st':SortSt):Prop
 |mk (e:c=(none,a₀.length)) (O:Ye k κ a₀ st') (R:C9 k (arrOf st') (pendingOf st').toList 0 a₀.length)
inductive zK5 (k:Keyed->Int) (κ:SortKind) (a₀:List Keyed) (p:Prop){γ:Type}(c:Option γ×PUnit) (st':SortSt):Prop
 |mk (e:c=(none,())) (O:Ye k κ a₀ st') (R:C9 k (arrOf st') (pendingOf st').toList 0 a₀.length) (h:p)
theorem Sy(H:Sp X k κ S){a₀:List Keyed}(hS:∀p,p∈a₀->S p) (hnd:(a₀.map k).Nodup){st:SortSt}{Q:Unit->SortSt->Prop}(O:Ye k κ a₀ st) (hp:pendingOf st= #[])
  (h:∀st',Ye k κ a₀ st'->Dz k (arrOf st') 0 a₀.length->Q () st'):SW X sortRuns' Q st:=by
 have hzs:=O.size;unfold sortRuns';refine Ae (Gr ?_)
 rw[hzs];refine Ae (Bz (Do (I:=λx c st'=>zLZ k κ a₀ x c st')
  (Q:=λc st'=>zLS k κ a₀ c st') ⟨0,rfl,O,by rw[hp];rfl,by exact Aw λZ=>A8 [_,_] [A7 x0 (.n 0),B9 x1 x0,A5 (.n 0) x1] rT Z hzs (lq5 _),.inr (Nat.le_refl _)⟩ (lq5 _) ?_ ?_) ?_)
 ·rintro x c st1 _ hx ⟨lo,rfl,O1,R1,hlo,hpr⟩
  dsimp only;have hz1:=O1.size;by_cases c1:lo≥a₀.length
  ·rw[if_pos c1];have:lo=a₀.length:=by exact Ha (λZ=>A8 [_,_] [A7 x1 x0,A5 x0 x1] rT Z c1) (λZ=>A8 [_,_] [A7 x0 x1,A5 x1 x0] rT Z hlo)
   subst this;exact Ai ⟨rfl,O1,R1⟩
  rw[if_neg c1];refine Ae (Ud H O1.kind (λp m=>hS p (O1.perm.mem_iff.mp m)) ((O1.perm.map k).nodup_iff.mpr hnd) (by exact Aw λZ=>A8 [_,_,_] [A7 x0 (.n 1),A7 x2 x1,A5 x1 (.a x0 x2)] rT Z (Nat.not_le.mp c1) (Ax _ _)) (by exact Aw λZ=>A8 [_,_,_,_] [A7 x1 (.a x0 x2),Gl x1 x3,B9 (.a x2 x0) x3] rT Z hz1 (Aq (Aw λY=>A8 [_,_] [A7 x0 x1,A5 x1 x0] rT Y hlo))) λn st2 hn1 hn2 hs2 hC2=>?_)
  have O2:Ye k κ a₀ st2:=⟨hC2.perm.trans O1.perm,hC2.kind.trans O1.kind,hC2.failed.trans O1.failed⟩
  have R2:C9 k (arrOf st2) (pendingOf st2).toList 0 lo:=by rw[hC2.pend];exact R1.congr λj _ hj=>hC2.out j (.inl hj)
  refine Be (λc2=>?_) (λc2=>?_)
  ·refine Ae (Kc ?_)
   have hfo:1<=min (a₀.length - lo) (minRun' a₀.length a₀.length 0):=by
    have:n<minRun' a₀.length a₀.length 0:=c2
    omega
   have hfn:n<=min (a₀.length - lo) (minRun' a₀.length a₀.length 0):=by
    have:n<minRun' a₀.length a₀.length 0:=c2
    omega
   have hfm:min (a₀.length - lo) (minRun' a₀.length a₀.length 0)<=a₀.length - lo:=Nat.min_le_left _ _
   have hz2:=O2.size;refine Ae (Pw H O2.kind (λp m=>hS p (O2.perm.mem_iff.mp m)) (n:=min (a₀.length - lo) (minRun' a₀.length a₀.length 0)) (by exact Aw λZ=>A8 [_,_,_,_,_] [A7 x2 (.a x0 x1),A5 x1 x3,Gl x2 x4,B9 (.a x3 x0) x4] rT Z hfm hz2 (Aq (Aw λY=>A8 [_,_] [A7 x0 x1,A5 x1 x0] rT Y hlo))) hfn hfo hs2 λst3 hs3 hC3=>?_)
   refine Be (λz=>by cases z) (λ_=>?_)
   have O3:Ye k κ a₀ st3:=⟨hC3.perm.trans O2.perm,hC3.kind.trans O2.kind,hC3.failed.trans O2.failed⟩
   have R3:C9 k (arrOf st3) (pendingOf st3).toList 0 lo:=by rw[hC3.pend];exact R2.congr λj _ hj=>hC3.out j (.inl hj)
   obtain⟨m,hm⟩:∃m,m=min (a₀.length - lo) ((sortPriv% PySem.Builtin.minRun) a₀.length a₀.length 0):=⟨_,rfl⟩
   have hm':min (a₀.length - lo) (minRun' a₀.length a₀.length 0)=m:=hm.symm
   rw[hm']at hfo hfn hfm hs3 hC3;rw[←hm];clear hm hm';refine Ae (Gr ?_)
   have tail:∀(st4:SortSt) (P:List (Nat×Nat×Nat)),C9 k (arrOf st4) P 0 lo->Dz k (arrOf st4) lo (lo+m)->C9 k (arrOf st4) (P++[(lo,m,0)]) 0 (lo+m):=λst4 P R hs=>C9.app.mpr ⟨lo,R,rfl,by show 0<m;exact Cz λZ=>A8 [_,_] [A5 x0 (.n 0),A5 (.n 1) x1,A5 x1 x0] rT Z hn1 hfn,hs,rfl⟩
   split
   ·refine Ae (Bz (Do (I:=λy c st'=>zJd k κ a₀ lo m c st')
     (Q:=λc st'=>zJd k κ a₀ lo m c st') ⟨rfl,O3,R3,hs3⟩ (lq5 _) ?_ ?_) ?_)
    ·rintro y c st4 _ hy ⟨rfl,O4,R4,hs4⟩
     refine Ae (Gr ?_)
     split
     ·rename_i hm;have hsz:1<(pendingOf st4).size:=by
       rcases Nat.lt_or_ge 1 (pendingOf st4).size with g|g
       ·exact g
       ·rw[if_neg (Nat.not_lt.mpr g)]at hm;cases hm
      refine Be (λ_=>Ai ⟨rfl,O4,R4,hs4⟩) (λ_=>?_)
      refine Ae (Hx (i:=(pendingOf st4).size - 2) H hS O4 R4 hlo (by exact Cz λZ=>A8 [_,_] [A5 x0 (.a x1 (.n 1)),B9 (.a x1 (.n 2)) x0] rT Z (Aq (Aw λY=>A8 [_] [A7 x0 (.n 2),A7 (.n 1) x0] rT Y hsz))) λst5 O5 R5 _ hk5=>?_)
      refine Be (λz=>by cases z) (λ_=>Ai ⟨rfl,O5,R5,λi j h1 h2 h3=>?_⟩)
      rw[Du (hk5 i h1),Du (hk5 j (by exact Aw λZ=>A8 [_,_,_] [A7 x1 x0,A5 x0 x2,A5 x2 x1] rT Z h1 h2))]
      exact hs4 i j h1 h2 h3
     ·exact Ai ⟨rfl,O4,R4,hs4⟩
    ·rintro c st4 hh
     exact hh
    ·rintro c st4 ⟨rfl,O4,R4,hs4⟩
     refine Ae (Dk (Ae (Dk (Ai ⟨lo+m,rfl,⟨O4.perm,O4.kind,O4.failed⟩,?_,by exact Aw λZ=>A8 [_,_,_,_] [A7 x0 (.a x1 x2),A5 x2 x3,B9 (.a x3 x1) x0] rT Z hfm (Aq (Aw λY=>A8 [_,_] [A7 x0 x1,A5 x1 x0] rT Y hlo)),by exact Or.elim hpr (λhd8=>.inl (Ha (λZ=>A8 [_,_,_,_] [A7 (.a x1 x2) x0,A5 (.n 1) x3,A5 x3 x2,Gl x1 x0] rT Z hn1 hfn hd8) (λZ=>A8 [_,_] [A7 x1 x0,Gl x1 x0] rT (Nat.not_le.mp c1) hd8))) (λhd8=>.inr (Aw λZ=>A8 [_,_,_,_] [A7 (.a x1 x2) (.a x0 (.n 1)),A5 (.n 1) x3,A5 x3 x2,A5 x0 x1] rT Z hn1 hfn hd8))⟩))))
     show C9 k (arrOf st4) (((pendingOf st4).modify ((pendingOf st4).size - 1) _).push (lo,m,0)).toList 0 (lo+m)
     rw[Array.toList_push,Array.toList_modify];exact tail st4 _ (R4.modify _) hs4
   ·refine Ae (Dk (Ai ⟨lo+m,rfl,⟨O3.perm,O3.kind,O3.failed⟩,?_,by exact Aw λZ=>A8 [_,_,_,_] [A7 x0 (.a x1 x2),A5 x2 x3,B9 (.a x3 x1) x0] rT Z hfm (Aq (Aw λY=>A8 [_,_] [A7 x0 x1,A5 x1 x0] rT Y hlo)),by exact Or.elim hpr (λhd9=>.inl (Ha (λZ=>A8 [_,_,_,_] [A7 (.a x1 x2) x0,A5 (.n 1) x3,A5 x3 x2,Gl x1 x0] rT Z hn1 hfn hd9) (λZ=>A8 [_,_] [A7 x1 x0,Gl x1 x0] rT (Nat.not_le.mp c1) hd9))) (λhd9=>.inr (Aw λZ=>A8 [_,_,_,_] [A7 (.a x1 x2) (.a x0 (.n 1)),A5 (.n 1) x3,A5 x3 x2,A5 x0 x1] rT Z hn1 hfn hd9))⟩))
    have:=tail st3 _ R3 hs3
    rw[←Array.toList_push]at this;exact this
  ·have hs3:=hs2;have O3:=O2;have R3:=R2;clear hs2 O2 R2 hC2;generalize st2=st3 at*
   refine Ae (Gr ?_)
   have tail:∀(st4:SortSt) (P:List (Nat×Nat×Nat)),C9 k (arrOf st4) P 0 lo->Dz k (arrOf st4) lo (lo+n)->C9 k (arrOf st4) (P++[(lo,n,0)]) 0 (lo+n):=λst4 P R hs=>C9.app.mpr ⟨lo,R,rfl,by show 0<n;exact Cz λZ=>A8 [_] [A5 x0 (.n 0),A5 (.n 1) x0] rT Z hn1,hs,rfl⟩
   split
   ·refine Ae (Bz (Do (I:=λy c st'=>zJd k κ a₀ lo n c st')
     (Q:=λc st'=>zJd k κ a₀ lo n c st') ⟨rfl,O3,R3,hs3⟩ (lq5 _) ?_ ?_) ?_)
    ·rintro y c st4 _ hy ⟨rfl,O4,R4,hs4⟩
     refine Ae (Gr ?_)
     split
     ·rename_i hm;have hsz:1<(pendingOf st4).size:=by
       rcases Nat.lt_or_ge 1 (pendingOf st4).size with g|g
       ·exact g
       ·rw[if_neg (Nat.not_lt.mpr g)]at hm;cases hm
      refine Be (λ_=>Ai ⟨rfl,O4,R4,hs4⟩) (λ_=>?_)
      refine Ae (Hx (i:=(pendingOf st4).size - 2) H hS O4 R4 hlo (by exact Cz λZ=>A8 [_,_] [A5 x0 (.a x1 (.n 1)),B9 (.a x1 (.n 2)) x0] rT Z (Aq (Aw λY=>A8 [_] [A7 x0 (.n 2),A7 (.n 1) x0] rT Y hsz))) λst5 O5 R5 _ hk5=>?_)
      refine Be (λz=>by cases z) (λ_=>Ai ⟨rfl,O5,R5,λi j h1 h2 h3=>?_⟩)
      rw[Du (hk5 i h1),Du (hk5 j (by exact Aw λZ=>A8 [_,_,_] [A7 x1 x0,A5 x0 x2,A5 x2 x1] rT Z h1 h2))]
      exact hs4 i j h1 h2 h3
     ·exact Ai ⟨rfl,O4,R4,hs4⟩
    ·rintro c st4 hh
     exact hh
    ·rintro c st4 ⟨rfl,O4,R4,hs4⟩
     refine Ae (Dk (Ae (Dk (Ai ⟨lo+n,rfl,⟨O4.perm,O4.kind,O4.failed⟩,?_,by exact Aw λZ=>A8 [_,_,_,_] [A7 x0 (.a x1 x2),A5 x2 x3,B9 (.a x3 x1) x0] rT Z hn2 (Aq (Aw λY=>A8 [_,_] [A7 x0 x1,A5 x1 x0] rT Y hlo)),by exact Or.elim hpr (λhd10=>.inl (Ha (λZ=>A8 [_,_,_] [A7 (.a x1 x2) x0,A5 (.n 1) x2,Gl x1 x0] rT Z hn1 hd10) (λZ=>A8 [_,_] [A7 x1 x0,Gl x1 x0] rT (Nat.not_le.mp c1) hd10))) (λhd10=>.inr (Aw λZ=>A8 [_,_,_] [A7 (.a x1 x2) (.a x0 (.n 1)),A5 (.n 1) x2,A5 x0 x1] rT Z hn1 hd10))⟩))))
     show C9 k (arrOf st4) (((pendingOf st4).modify ((pendingOf st4).size - 1) _).push (lo,n,0)).toList 0 (lo+n)
     rw[Array.toList_push,Array.toList_modify];exact tail st4 _ (R4.modify _) hs4
   ·refine Ae (Dk (Ai ⟨lo+n,rfl,⟨O3.perm,O3.kind,O3.failed⟩,?_,by exact Aw λZ=>A8 [_,_,_,_] [A7 x0 (.a x1 x2),A5 x2 x3,B9 (.a x3 x1) x0] rT Z hn2 (Aq (Aw λY=>A8 [_,_] [A7 x0 x1,A5 x1 x0] rT Y hlo)),by exact Or.elim hpr (λhd11=>.inl (Ha (λZ=>A8 [_,_,_] [A7 (.a x1 x2) x0,A5 (.n 1) x2,Gl x1 x0] rT Z hn1 hd11) (λZ=>A8 [_,_] [A7 x1 x0,Gl x1 x0] rT (Nat.not_le.mp c1) hd11))) (λhd11=>.inr (Aw λZ=>A8 [_,_,_] [A7 (.a x1 x2) (.a x0 (.n 1)),A5 (.n 1) x2,A5 x0 x1] rT Z hn1 hd11))⟩))
    have:=tail st3 _ R3 hs3
    rw[←Array.toList_push]at this;exact this
 ·rintro c st1 ⟨lo,rfl,O1,R1,hlo,hpr⟩
  have:lo=a₀.length:=by exact Or.elim hpr (λhd12=>Ha (λZ=>A8 [_,_] [A7 x1 x0,Gl x1 x0] rT Z hd12) (λZ=>A8 [_,_] [A7 x0 x1,A5 x1 x0] rT Z hlo)) (λhd12=>Ha (λZ=>A8 [_,_] [A7 x1 x0,A5 x0 x1] rT Z hd12) (λZ=>A8 [_,_] [A7 x0 x1,A5 x1 x0] rT Z hlo))
  subst this;exact⟨rfl,O1,R1⟩
 rintro c st1 ⟨rfl,O1,R1⟩
 refine Ae (Bz (Do (I:=λx c st'=>zK5 k κ a₀ ((pendingOf st').size<=a₀.length - x∨(pendingOf st').size<=1) c st')
  (Q:=λc st'=>zK5 k κ a₀ ((pendingOf st').size<=1) c st') ⟨rfl,O1,R1,.inl ?_⟩ (lq5 _) ?_ ?_) ?_)
 ·have:=R1.le
  simp at this
  exact Aw λZ=>A8 [_,_] [A7 x0 x1,A5 x1 x0] rT Z this
 ·rintro x c st2 _ hx ⟨rfl,O2,R2,hp2⟩
  refine Ae (Gr ?_)
  refine Be (λg=>Ai ⟨rfl,O2,R2,g⟩) (λg=>?_)
  have g':1<(pendingOf st2).size:=Nat.lt_of_not_le g
  refine Ae (Hx H hS O2 R2 (Nat.le_refl _) ?_ λst5 O5 R5 hsz _=>?_)
  ·exact zHT (n:=(pendingOf st2).size) (a:=(pendingOf st2).size - 2 - 1) (b:=(pendingOf st2).size - 2) (by exact Cz λZ=>A8 [_,_,_] [A5 x0 (.a x1 (.n 1)),A5 x1 x2,B9 (.a x2 (.n 2)) x0] rT Z (F9 _ _) (Aq (Aw λY=>A8 [_] [A7 x0 (.n 2),A7 (.n 1) x0] rT Y (Nat.not_le.mp g)))) (by exact Cz λZ=>A8 [_,_] [A5 x0 (.a x1 (.n 1)),B9 (.a x1 (.n 2)) x0] rT Z (Aq (Aw λY=>A8 [_] [A7 x0 (.n 2),A7 (.n 1) x0] rT Y (Nat.not_le.mp g))))
  ·refine Be (λz=>by cases z) (λ_=>Ai ⟨rfl,O5,R5,?_⟩)
   exact Or.elim hp2 (λhd13=>.inl (Aw λZ=>A8 [_,_,_,_,_,_] [A7 x1 x0,B9 (.a x0 (.n 1)) x2,A5 x2 x3,A5 x4 (.a x1 (.a x5 (.n 1))),B9 (.a x3 x5) x4] rT Z hsz hd13 (Ax _ _) (Aq (Aw λY=>A8 [_,_] [A7 x0 x1,A7 x1 x0] rT Y hx)))) (λhd13=>.inl (Aw λZ=>A8 [_] [A7 (.n 1) x0,A5 x0 (.n 1)] rT (Nat.not_le.mp g) hd13))
 ·rintro c st2 ⟨rfl,O2,R2,hp2⟩
  exact⟨rfl,O2,R2,by exact Or.elim hp2 (λhd14=>Aw λZ=>A8 [_,_,_] [A7 (.n 1) x0,A5 x0 x1,B9 (.a x1 x2) x2] rT Z hd14 (Aq (Aw λY=>A8 [_] [A7 x0 x0] rT Y))) (λhd14=>Aw λZ=>A8 [_] [A7 (.n 1) x0,A5 x0 (.n 1)] rT Z hd14)⟩
 ·rintro c st2 ⟨rfl,O2,R2,hp2⟩
  refine Ai (h st2 O2 ?_)
  revert R2 hp2
  have e:(pendingOf st2).size=(pendingOf st2).toList.length:=by simp
  rw[e];generalize(pendingOf st2).toList=P
  intro R2 hp2
  match P,R2,hp2 with
  |[],R2,_=>
   have:0=a₀.length:=R2
   intro i j _ _ h3;exact False.elim (A8 [_,_] [Gl (.n 0) x0,A7 x1 x0,A5 (.n 0) x1] rT this h3 (lq5 _))
  |[q],R2,_=>
   have h1:0+q.2.1=a₀.length:=R2.2.2.2
   have h2:=R2.2.2.1;simp only[h1]at h2;exact h2
end
noncomputable def Cr (p:Int×Int):Int:=p.1*1048576+p.2
structure L8 (F:List D->Mn D) (st:St) (ds:List D) (ks:List (Int×Int)):Prop where
 len:ds.length<=100000
 all:C2 (λd p=>F [d] st=.ok (.tup [.int p.1,.int p.2]) st/\0<=p.2/\p.2<1048576) ds ks
 nd:(ks.map Cr).Nodup
noncomputable def Jl (ds:List D) (ks:List (Int×Int)):List D:=((ds.zip ks).mergeSort (λa b=>decide (Cr a.2<=Cr b.2))).map (·.1)
open Classical in
noncomputable def Bo (F:List D->Mn D):List D->Mn D
 |[.ref k]=>λst=>match st.sto[k]? with
  |some (.list ds)=>if h:∃ks,L8 F st ds ks then D2 (Jl ds (choose h)) st else .bot
  |_=>.bot
 |_=>botM
noncomputable def He (h:Heap) (v:Value):Int:=match v with
 |.ref a=>match h.get? a with
  |some o=>match o.data with
   |.seq xs _=>match xs.toList with
    |[.int r _,.int c _]=>Cr (r,c)
    |_=>0
   |_=>0
  |none=>0
 |_=>0
noncomputable def Iw (h:Heap) (v:Value) (p:Int×Int):Prop:=∃a t u,v=.ref a/\N5 h a #[.int p.1 t,.int p.2 u]
theorem Iw.rank{h:Heap}{v:Value}{p:Int×Int}(k:Iw h v p):He h v=Cr p:=by
 obtain⟨a,t,u,rfl,n,e⟩:=k;unfold He;simp only[e]
theorem zAg{p q:Int×Int}(hp:0<=p.2) (hp2:p.2<1048576) (hq:0<=q.2) (hq2:q.2<1048576):(p.1<q.1∨(p.1=q.1/\p.2<q.2))↔Cr p<Cr q:=by
 unfold Cr;constructor
 ·intro h;rcases h with h|⟨h1,h2⟩
  ·omega
  ·omega
 ·intro h;rcases Int.lt_trichotomy p.1 q.1 with z|z|z
  ·exact .inl z
  ·exact .inr ⟨z,by omega⟩
  ·exfalso;omega
section
variable {prog:Program}{w:World}{A:Around}{E:Value->Shared->Prop}{s:Shared}
theorem zGl{x y:Value}{p q:Int×Int}(hx:Iw s.heap x p) (hy:Iw s.heap y q){Q:Bool->Shared->Prop}(h:Q (decide (p.1<q.1∨(p.1=q.1/\p.2<q.2))) s):wpAny (model prog w) A (keyLt' (tuples' true) x y) Q E s:=by
 apply yo;intro _ k0
 obtain⟨a,t,u,rfl,n,ea⟩:=hx;obtain⟨b,t',u',rfl,n',eb⟩:=hy;apply k0
 refine PySem.W.kat_lt ea rfl eb rfl ?_
 refine PySem.W.kat_cons (wpAny_eqBool_int ?_)
 by_cases h1:p.1=q.1
 ·rw[beq_iff_eq.mpr h1];refine PySem.W.kat_yes (PySem.W.kat_cons (wpAny_eqBool_int ?_))
  by_cases h2:p.2=q.2
  ·rw[beq_iff_eq.mpr h2];refine PySem.W.kat_yes (PySem.W.kat_nil ?_)
   rw[show decide (p.1<q.1∨p.1=q.1/\p.2<q.2)=false from decide_eq_false λz=>z.elim (λy=>Int.ne_of_lt y h1) λy=>Int.ne_of_lt y.2 h2]at h
   exact h
  ·rw[beq_false_of_ne h2];refine PySem.W.kat_no (PySem.W.kat_one _ _ (wpAny_lt_int ?_))
   rw[show decide (p.1<q.1∨p.1=q.1/\p.2<q.2)=decide (p.2<q.2)from decide_eq_decide.mpr ⟨λz=>z.elim (λy=>absurd h1 (Int.ne_of_lt y)) (·.2),λy=>.inr ⟨h1,y⟩⟩]at h
   exact h
 ·rw[beq_false_of_ne h1];refine PySem.W.kat_no (oneLt_int ?_)
  rw[show decide (p.1<q.1∨p.1=q.1/\p.2<q.2)=decide (p.1<q.1)from decide_eq_decide.mpr ⟨λz=>z.elim id λy=>absurd y.1 h1,.inl⟩]at h
  exact h
noncomputable def zIs (h:Heap) (x:Keyed):Prop:=∃p,Iw h x.1 p/\0<=p.2/\p.2<1048576
theorem zDH:Sp ⟨prog,w,A,E,s⟩ (λx=>He s.heap x.1) (tuples' true) (zIs s.heap):=by
 intro x y h2z h3z st Q hk h;apply yo;intro _ k0
 obtain⟨p,hp,p0,p1⟩:=h2z;obtain⟨q,hq,q0,q1⟩:=h3z;apply k0
 show wpS _ _ _ _ _ _ _
 simp only[lt'_eq];refine wpS_bind (wpS_get ?_)
 rw[hk];refine wpS_bind (wpS_lift (wpAny_attempt (zGl hp hq ⟨rfl,?_⟩)))
 refine wpS_pure ?_
 rw[show decide (p.1<q.1∨p.1=q.1/\p.2<q.2)=decide (He s.heap x.1<He s.heap y.1)from decide_eq_decide.mpr (by rw[hp.rank,hq.rank];exact zAg p0 p1 q0 q1)]
 exact h
end
theorem C2.perm{α β:Type}{R:α->β->Prop}{l l':List α}(p:l'.Perm l):∀{m:List β},C2 R l m->∃m',m'.Perm m/\C2 R l' m':=by
 induction p with
 |nil=>intro m h;exact⟨m,.refl _,h⟩
 |cons x p ih=>
  intro m h
  cases h with
  |cons r rs=>
   obtain⟨m',p',h'⟩:=ih rs;exact⟨_,p'.cons _,.cons r h'⟩
 |swap x y l=>
  intro m h
  cases h with
  |cons r rs=>
   cases rs with
   |cons r' rs'=>exact⟨_,.swap _ _ _,.cons r' (.cons r rs')⟩
 |trans p q ih1 ih2=>
  intro m h;apply yo;intro _ k0
  obtain⟨m1,p1,h1⟩:=ih2 h;obtain⟨m2,p2,h2⟩:=ih1 h1;apply k0
  exact⟨m2,p2.trans p1,h2⟩
theorem C2.map2{α β γ δ:Type}{R:α->β->Prop}{S:γ->δ->Prop}{f:α->γ}{g:β->δ}(hs:∀a b,R a b->S (f a) (g b)){l:List α}{m:List β}(h:C2 R l m):C2 S (l.map f) (m.map g):=by
 induction h with
 |nil=>exact .nil
 |cons r _ ih=>exact .cons (hs _ _ r) ih
theorem C2.flip{α β:Type}{R:α->β->Prop}{l:List α}{m:List β}(h:C2 R l m):C2 (λb a=>R a b) m l:=by
 induction h with
 |nil=>exact .nil
 |cons r _ ih=>exact .cons r ih
theorem Kq{α:Type}{f:α->Int}:∀{l m:List α},l.Perm m->l.Pairwise (λa b=>f a<=f b)->m.Pairwise (λa b=>f a<=f b)->(m.map f).Nodup->l=m
 |[],m,p,_,_,_=>p.nil_eq
 |x::l,[],p,_,_,_=>by have:=p.length_eq;simp at this
 |x::l,y::m,p,h1,h2,nd=>by
  have hxm:x∈y::m:=p.mem_iff.mp lq1
  have hyl:y∈x::l:=p.mem_iff.mpr lq1
  have hxy:x=y:=by
   rcases List.mem_cons.mp hxm with e|mx
   ·exact e
   ·rcases List.mem_cons.mp hyl with e|my
    ·exact e.symm
    ·have a1:=(List.pairwise_cons.mp h1).1 y my;have a2:=(List.pairwise_cons.mp h2).1 x mx;have e:f x=f y:=by exact Ur (λZ=>A4 [_,_] [A7 x0 x1,A5 x1 x0] rT Z a2) (λZ=>A4 [_,_] [A7 x1 x0,A5 x0 x1] rT Z a1)
     rw[List.map_cons,List.nodup_cons]at nd;exact absurd (List.mem_map.mpr ⟨x,mx,e⟩) nd.1
  subst hxy;rw[Kq (List.Perm.cons_inv p) (List.pairwise_cons.mp h1).2 (List.pairwise_cons.mp h2).2 (by rw[List.map_cons,List.nodup_cons]at nd;exact nd.2)]
theorem Mc(ds:List D) (ks:List (Int×Int)):((ds.zip ks).mergeSort (λa b=>decide (Cr a.2<=Cr b.2))).Pairwise (λa b=>Cr a.2<=Cr b.2):=by
 have:=List.pairwise_mergeSort (le:=λ(a b:D×(Int×Int))=>decide (Cr a.2<=Cr b.2)) (λa b c h1 h2=>by simp at h1 h2 ⊢; exact Am λZ=>A4 [_,_,_] [A7 x1 x0,A5 x0 x2,A5 x2 x1] rT Z h1 h2) (λa b=>by simp;omega) (ds.zip ks)
 exact this.imp λh=>by simpa using h
noncomputable def zDO (p:Int×Int):D:=.tup [.int p.1,.int p.2]
section
variable {G:Gd}{A:Around}{env:Env}{s:Shared}{ρ:List Addr}{σ:Bm}{st:St}
theorem zDP{h:Heap}{p:Int×Int}{v:Value}(r:Cn G h ρ (zDO p) v):Iw h v p:=by
 dsimp only[zDO,Cn,B7]at r
 apply yo;intro _ k0
 obtain⟨a,vs,rfl,_,t,v1,r1,e1,⟨t1,rfl⟩,v2,r2,e2,⟨t2,rfl⟩,rfl⟩:=r;apply k0
 subst e2;have:vs= #[.int p.1 t1,.int p.2 t2]:=by
  have:=congrArg List.toArray e1
  simpa using this
 subst this;exact⟨a,t1,t2,rfl,t⟩
theorem zCs{ρ ρ':List Addr}(pre:∀(k:Nat) (a:Addr),ρ[k]? =some a->ρ'[k]? =some a) (hl:ρ'.length=ρ.length):ρ'=ρ:=by
 refine List.ext_getElem? λi=>?_
 cases e:ρ[i]? with
 |some a=>exact pre i a e
 |none=>
  rw[List.getElem?_eq_none_iff]at e ⊢;exact Aw λZ=>A8 [_,_,_] [A7 x1 x0,B9 x0 x2,A5 x2 x1] rT Z hl e
theorem zDA.keep{h h':Heap}{ρ':List Addr}(b:zDA G A h ρ) (x:Ev [] h ρ h' ρ'):zDA G A h' ρ':=⟨b.1,λfs e=>(b.2 fs e).keep x⟩
theorem zDA.only{h h':Heap}(b:zDA G A h ρ){S:List Addr}(x:Hs S h h') (i:∀q,q∈S->Up G h ρ σ q):zDA G A h' ρ:=⟨b.1,λfs e en m=>by
 apply yo;intro _ k0
 obtain⟨hk,L,o,es,n,hf,h0,hr,ho,hd⟩:=b.2 fs e en m;apply k0
 exact⟨hk,L,o,es,n,hf,h0,hr,x.1 L o (λmm=>((i _ mm).ne_dict hr ho).1 _ _ hd) ho,hd⟩⟩
structure zJY (G:Gd) (A:Around) (ρ:List Addr) (σ:Bm) (hs:Heap) (b kS:Addr) (e1:Nat) (kvs:List Value) (ks:List (Int×Int)) (s:Shared):Prop where
 inv:Cy G s ρ σ
 ev:Ev [] hs ρ s.heap ρ
 bel:zDA G A s.heap ρ
 hb:hs.objs.size<=b
 hk:hs.objs.size<=kS
 ne:b≠kS
 atb:s.heap.get? b=some (G2 #[] e1)
 atk:∃e,s.heap.get? kS=some (G2 kvs.toArray e)
 rel:B7 G s.heap ρ (ks.map zDO) kvs
theorem Gx{hs:Heap}{q:Addr}(I0:Cy G s ρ σ) (h:s.heap.objs.size<=q):G.h0.get? q=none/\q∉ρ:=⟨I0.h0_le h,λm=>Nat.lt_irrefl _ (Nat.lt_of_lt_of_le (I0.mem_lt m) h)⟩
theorem P6{h:Heap}{q:Addr}{vs:Array Value}{n:Nat}{g:Array Value->Array Value}(e:h.get? q=some (G2 vs n)):Hs [q] h (h.update q (Obj.mapSeq g)):=
 Nr (λb o hne ho=>(Heap.get?_update_other _ _ (Ne.symm hne)).trans ho) (by rw[Heap.size_after_update];exact Nat.le_refl _) λ⟨x,y,z⟩=>by rw[e]at z;exact Im (Option.some.inj z).symm
theorem Jv{h:Heap}{q:Addr}{vs:Array Value}{n:Nat}(g:Array Value->Array Value) (e:h.get? q=some (G2 vs n)):∃n',(h.update q (Obj.mapSeq g)).get? q=some (G2 (g vs) n'):=⟨_,get?_update_seq e g⟩
theorem Ql(env:Env){F:List D->Mn D}{f:Addr}{n:Nat}{hs:Heap}(hF:∀s,Ev [] hs ρ s.heap ρ->Yc G n f F s ρ st.sto) (R:Pl n A){s₀:Shared}(I₀:Cy G s₀ ρ st.sto) (hs0:s₀.heap=hs){b kS:Addr}{e1:Nat}{E:Value->Shared->Prop}
  {body:Value->PUnit->Sem (ForInStep PUnit)}
  (hbody:∀x (s:Shared) (Q:ForInStep PUnit->Shared->Prop),wpAny G.M A (call (.ref f) [x]) (λk s'=>wpAny G.M A (Builtin.List.listUpdate (.ref kS) (·.push k)) (λ_ s''=>Q (.yield ⟨⟩) s'') (λ_ _=>False) s') (λ_ _=>False) s->wpAny G.M A (body x ⟨⟩) Q E s):
  ∀(vs:List Value) (ds:List D) (ks:List (Int×Int)) (kvs:List Value) (pre:List (Int×Int)) (s:Shared) (Q:PUnit->Shared->Prop),zJY G A ρ st.sto hs b kS e1 kvs pre s->B7 G s.heap ρ ds vs->
   C2 (λd p=>F [d] st=.ok (.tup [.int p.1,.int p.2]) st/\0<=p.2/\p.2<1048576) ds ks->kvs.length+vs.length<=100000->
   (∀s' kvs',zJY G A ρ st.sto hs b kS e1 kvs' (pre++ks) s'->kvs'.length=kvs.length+vs.length->Ev [] s.heap ρ s'.heap ρ∨True->Q ⟨⟩ s')->wpAny G.M A (forIn vs PUnit.unit body) Q E s
 |[],ds,ks,kvs,pre,s,Q,J,r,a,hl,h=>by
  simp only[List.forIn_nil]
  cases ds with
  |nil=>
   cases a;refine wpAny_pure (h s kvs (by rw[List.append_nil];exact J) (by simp) (.inr trivial))
  |cons d ds=>obtain⟨v,r',e,_⟩:=r;cases e
 |x::vs,ds,ks,kvs,pre,s,Q,J,r,a,hl,h=>by
  rw[List.forIn_cons]
  cases ds with
  |nil=>cases r
  |cons d ds=>
   obtain⟨v,r',e,rx,rr⟩:=r
   cases e
   cases a with
   | @cons _ p _ ks' a1 a2=>
    obtain⟨aF,a0,am⟩:=a1;refine wpAny_bind (hbody x s _ ?_)
    have hcall:=hF s J.ev A env st.loc [d] [x] R J.inv J.bel (by exact⟨x,[],rfl,rx,rfl⟩) (by rw[aF];intro z;cases z)
    refine wpAny_mono hcall (λk s' q=>?_) λy s' q=>?_
    ·refine H3.elim q λρ' d' σ' eF I' x' rk=>?_
     rw[aF]at eF;obtain⟨rfl,hst⟩:D.tup [.int p.1,.int p.2]=d'/\st=⟨st.loc,σ'⟩:=by injection eF with e1 e2;exact⟨e1,e2⟩
     have hσ:σ'=st.sto:=by rw[hst]
     subst hσ;have hρ:ρ=ρ':=(zCs x'.pre (by rw[I'.len,J.inv.len])).symm
     subst hρ;have nb:=Gx (hs:=hs) I₀ (q:=b) (by rw[hs0];exact J.hb)
     have nk:=Gx (hs:=hs) I₀ (q:=kS) (by rw[hs0];exact J.hk)
     obtain⟨ek,hek⟩:=J.atk;have keep:∀{q:Addr}{o:Obj},q∉ρ->s.heap.get? q=some o->(∀es n,o.data≠.dict es n)->s'.heap.get? q=some o:=λhq ho hd=>by
      obtain⟨o',ho',so⟩:=x'.keep _ _ ho hq (λm=>nomatch m)
      rw[so.eq hd]at ho';exact ho'
     have hb':=keep nb.2 J.atb (λ_ _ z=>by cases z)
     have hk':=keep nk.2 hek (λ_ _ z=>by cases z)
     have hsz:(100001:Nat)<=sizeLine:=by decide
     simp only[List.length_cons]at hl;refine listUpdate_at hk' rfl ?_ (by rw[List.size_toArray];exact Aw λZ=>A8 [_,_,_] [A7 x1 x0,A5 (.a x0 (.a x2 (.n 1))) (.n 100000),A5 (.n 100001) x1,A5 (.n 0) x2] rT Z hl hsz (lq5 _)) (by rw[Array.size_push,List.size_toArray];exact Aw λZ=>A8 [_,_,_] [A7 (.a x1 (.n 1)) (.a x0 (.n 1)),A5 (.a x0 (.a x2 (.n 1))) (.n 100000),A5 (.n 100001) x1,A5 (.n 0) x2] rT Z hl hsz (lq5 _))
     have hO:=P6 (g:=(·.push k)) hk';have hOwn:∀q,q∈[kS]->Up G s'.heap ρ st.sto q:=λq m=>by
      simp only[lq0 m];exact .inl (.inr ⟨nk.1,nk.2,_,_,hk'⟩)
     have I2:=I'.only hO hOwn s'.toks;have S2:=hO.stb hOwn;have S1:=x'.stb J.inv .nil;obtain⟨n',hk2⟩:=Jv (·.push k) hk'
     have hb2:(s'.heap.update kS (Obj.mapSeq (·.push k))).get? b=some (G2 #[] e1):=(Heap.get?_update_other _ _ (Ne.symm J.ne)).trans hb'
     refine Ql env hF R I₀ hs0 hbody vs ds ks' (kvs++[k]) (pre++[p]) _ Q ⟨I2,?_,(J.bel.keep x').only hO hOwn,J.hb,J.hk,J.ne,hb2,⟨n',?_⟩,?_⟩ (B7.mono S2 _ _ (B7.mono S1 _ _ rr)) a2 (by rw[lq7];exact Aw λZ=>A8 [_,_] [A7 (.n 100000) (.a (.a x0 (.a (.n 0) (.n 1))) x1),A5 (.a x0 (.a x1 (.n 1))) (.n 100000)] rT Z hl) (λs'' kvs' J' hl' _=>h s'' kvs' (by simpa using J') (by simp at hl' ⊢; exact Ha (λZ=>A8 [_,_,_] [A7 x2 (.a x0 (.a x1 (.n 1))),Gl x2 (.a (.a x0 (.n 1)) x1)] rT Z hl') (λZ=>A8 [_,_,_] [A7 (.a x0 (.a x1 (.n 1))) x2,B9 x2 (.a (.a x0 (.n 1)) x1)] rT Z hl')) (.inr trivial))
     ·exact(J.ev.trans x').only hO λq m=>.inl (by rw[lq0 m];exact J.hk)
     ·rw[hk2];simp
     ·rw[List.map_append];refine B7.of_all2 ((B7.all2 (B7.mono S2 _ _ (B7.mono S1 _ _ J.rel))).append ?_)
      exact .cons (Cn.mono S2 _ _ rk) .nil
    ·obtain⟨ρ',c,σ',a',e',_⟩:=q;rw[aF]at e';cases e'
end
section
variable {G:Gd}{A:Around}{env:Env}{s:Shared}{ρ:List Addr}{σ:Bm}{st:St}{hs:Heap}{b kS:Addr}{e1:Nat}{kvs:List Value}{ks:List (Int×Int)}{E:Value->Shared->Prop}
theorem Ks.trans{h h' h'':Heap}{ρ ρ' ρ'':List Addr}(x:Ks h ρ h' ρ') (y:Ks h' ρ' h'' ρ''):Ks h ρ h'' ρ'':=
 ⟨λk a e=>y.pre k a (x.pre k a e),λa i n t=>let⟨n',t'⟩:=x.tup a i n t;y.tup a i n' t',λa c n t=>let⟨n',t'⟩:=x.exc a c n t;y.exc a c n' t'⟩
theorem Qe{s₀:Shared}(I₀:Cy G s₀ ρ σ) (hs0:s₀.heap=hs) (J:zJY G A ρ σ hs b kS e1 kvs ks s) (hl:kvs.length<=100000){sst:SortSt}(hf:failedOf sst=none) (hz:(arrOf sst).size<=100000)
  {Q:PySem.Fin->Shared->Prop}(h:∀s',Cy G s' ρ σ->Ev [] hs ρ s'.heap ρ->(∃n',s'.heap.get? b=some (G2 ((arrOf sst).map (·.2)) n'))->Ks s.heap ρ s'.heap ρ->Q (.done (.ret .none)) s'):
  wpAny G.M A (ksk_tail b false e1 (.ref kS) sst) Q E s:=by
 have nb:=Gx (hs:=hs) I₀ (q:=b) (by rw[hs0];exact J.hb)
 have nk:=Gx (hs:=hs) I₀ (q:=kS) (by rw[hs0];exact J.hk)
 obtain⟨ek,hek⟩:=J.atk;have hsz:(100001:Nat)<=sizeLine:=by decide
 unfold ksk_tail;simp only[Bool.false_eq_true,if_false];refine wpAny_bind (listUpdate_at hek rfl ?_ (by rw[List.size_toArray];exact Aw λZ=>A8 [_,_] [A7 x1 x0,A5 x0 (.n 100000),A5 (.n 100001) x1] rT Z hl hsz) (lq5 _))
 have hO:=P6 (g:=λ_=> #[]) hek
 have hOwn:∀q,q∈[kS]->Up G s.heap ρ σ q:=λq m=>by
  simp only[lq0 m];exact .inl (.inr ⟨nk.1,nk.2,_,_,hek⟩)
 have I2:=J.inv.only hO hOwn s.toks;have hb2:(s.heap.update kS (Obj.mapSeq λ_=> #[])).get? b=some (G2 #[] e1):=(Heap.get?_update_other _ _ (Ne.symm J.ne)).trans J.atb
 refine wpAny_bind (wpAny_letGo ?_)
 refine wpAny_bind (seqEpoch_at hb2 rfl ?_)
 refine wpAny_bind (listUpdate_at hb2 rfl ?_ (lq5 _) (by rw[Array.size_map];exact Aw λZ=>A8 [_,_] [A7 (.a x1 (.n 1)) x0,A5 x0 (.n 100000),A5 (.n 100001) x1] rT Z hz hsz))
 simp only[hf];simp only[bne_self_eq_false,Bool.false_eq_true,if_false];have hO2:=P6 (g:=λ_=>(arrOf sst).map (·.2)) hb2
 have hOwn2:∀q,q∈[b]->Up G (s.heap.update kS (Obj.mapSeq λ_=> #[])) ρ σ q:=λq m=>by
  simp only[lq0 m];exact .inl (.inr ⟨nb.1,nb.2,_,_,hb2⟩)
 have I3:=Cy.only (s:={s with heap:=s.heap.update kS (Obj.mapSeq λ_=> #[])}) I2 hO2 hOwn2 s.toks
 have hx:=(J.ev.only hO λq m=>.inl (by rw[lq0 m];exact J.hk)).only hO2 λq m=>.inl (by rw[lq0 m];exact J.hb)
 have hS:=(hO.stb hOwn).trans (hO2.stb hOwn2);have hu:=Jv (λ_=>(arrOf sst).map (·.2)) hb2
 have fin:=h _ I3 hx hu hS;exact wpAny_pure fin
theorem Hi{α β:Type}{R:α->β->Prop}{l:List α}{m:List β}(h:C2 R l m):∀a,a∈l->∃b,b∈m/\R a b:=by
 induction h with
 |nil=>intro a m;cases m
 |cons r _ ih=>
  intro a m;rcases List.mem_cons.mp m with rfl|m
  ·exact⟨_,lq1,r⟩
  ·obtain⟨b,mb,r'⟩:=ih a m;exact⟨b,lq4 _ mb,r'⟩
theorem Nj:∀{kvs:List Value}{ks:List (Int×Int)}{h:Heap},C2 (λv p=>Iw h v p) kvs ks->∃fs,fs.length=kvs.length/\PySem.W.KatTups h kvs fs/\∀v,v∈fs->∃i t,v=Value.int i t
 |_,_,h,.nil=>⟨[],rfl,PySem.W.KatTups.nil,λ_ m=>nomatch m⟩
 |_,_,h,.cons (b:=p) r rs=>by
  apply yo;intro _ k0
  obtain⟨fs,e,t,hi⟩:=Nj rs;obtain⟨a,t1,u1,rfl,n,ea⟩:=r;apply k0
  refine⟨.int p.1 t1::fs,by simp[e],PySem.W.KatTups.cons ea rfl rfl rfl t,λv m=>?_⟩
  rcases List.mem_cons.mp m with rfl|m
  ·exact⟨_,_,rfl⟩
  ·exact hi v m
theorem zAi{h:Heap}{kvs:List Value}{ks:List (Int×Int)}(rk:C2 (λv p=>Iw h v p) kvs ks):kvs.map (He h)=ks.map Cr:=by
 induction rk with
 |nil=>rfl
 |cons r _ ih=>rw[List.map_cons,List.map_cons,r.rank,ih]
theorem U0{h:Heap}:∀{ks:List (Int×Int)}{kvs:List Value},B7 G h ρ (ks.map zDO) kvs->C2 (λv p=>Iw h v p) kvs ks
 |[],kvs,r=>by simp only[List.map_nil,B7]at r;subst r;exact .nil
 |p::ks,kvs,r=>by
  obtain⟨v,rr,rfl,r1,r2⟩:=r;exact .cons (zDP r1) (U0 r2)
theorem Xn{h:Heap}{vs:List Value}{ds:List D}{arr:List Keyed}(rk:C2 (λv p=>Iw h v p) kvs ks) (rv:B7 G h ρ ds vs) (nd:(ks.map Cr).Nodup) (hp:arr.Perm (kvs.zip vs)) (hsrt:arr.Pairwise (λx y=>He h x.1<=He h y.1)):
  B7 G h ρ (Jl ds ks) (arr.map (·.2)):=by
 have hlen:ds.length=vs.length:=rv.all2.length.symm
 have hz:C2 (λ(x:Keyed) (y:D×(Int×Int))=>Iw h x.1 y.2/\Cn G h ρ y.1 x.2) (kvs.zip vs) (ds.zip ks):=by
  clear hp hsrt nd;have rv':=rv.all2;clear rv
  induction rk generalizing vs ds with
  |nil=>
   cases ds with
   |nil=>exact .nil
   |cons d ds=>exact .nil
  |cons r rs ih=>
   cases rv' with
   |nil=>exact .nil
   |cons r' rs'=>exact .cons ⟨r,r'⟩ (ih (by simpa using hlen) rs')
 obtain⟨q,pq,aq⟩:=hz.perm hp;have hq:q.Pairwise (λa b=>Cr a.2<=Cr b.2):=by
  clear pq hz hp
  induction aq with
  |nil=>exact .nil
  |cons r rs ih=>
   rw[List.pairwise_cons]at hsrt ⊢;refine⟨λy my=>?_,ih hsrt.2⟩
   obtain⟨x,mx,rx⟩:=Hi rs.flip y my;have:=hsrt.1 x mx
   simp only[r.1.rank,rx.1.rank]at this;exact this
 have hnd:((ds.zip ks).map (λa=>Cr a.2)).Nodup:=by
  have e:(ds.zip ks).map (λa=>Cr a.2)=((ds.zip ks).map (·.2)).map Cr:=by rw[List.map_map];rfl
  simp only[e];refine List.Nodup.sublist (List.Sublist.map _ ?_) nd
  have:∀(a:List D) (b:List (Int×Int)),((a.zip b).map (·.2)).Sublist b:=by
   intro a
   induction a with
   |nil=>intro b;simp
   |cons x a ih=>
    intro b
    cases b with
    |nil=>simp
    |cons y b=>exact(ih b).cons_cons y
  exact this ds ks
 have eq:q=(ds.zip ks).mergeSort (λa b=>decide (Cr a.2<=Cr b.2)):=by
  have pm:=List.mergeSort_perm (ds.zip ks) (λa b=>decide (Cr a.2<=Cr b.2))
  exact Kq (f:=λa=>Cr a.2) (pq.trans pm.symm) hq (Mc ds ks) ((pm.map _).nodup_iff.mpr hnd)
 unfold Jl;rw[←eq];exact B7.of_all2 (aq.map2 (λa b r=>r.2))
theorem zCD{α:Type}{R:α->α->Prop}:∀{l:List α},l.length<2->l.Pairwise R
 |[],_=>.nil
 |[_],_=>List.pairwise_singleton _ _
 |_::_::_,h=>absurd h (by exactλZ=>A8 [_] [A7 (.a (.a x0 (.n 1)) (.n 1)) (.n 2),A5 (.n 0) x0] rT Z (lq5 _))
theorem zAe{s₀:Shared}(I₀:Cy G s₀ ρ σ) (hs0:s₀.heap=hs) (J:zJY G A ρ σ hs b kS e1 kvs ks s){vs:List Value}{ds:List D}(rv:B7 G s.heap ρ ds vs) (hl:kvs.length=vs.length) (hl2:vs.length<=100000) (nd:(ks.map Cr).Nodup) (hr:∀p,p∈ks->0<=p.2/\p.2<1048576)
  {Q:PySem.Fin->Shared->Prop}(h:∀s' out n',Cy G s' ρ σ->Ev [] hs ρ s'.heap ρ->s'.heap.get? b=some (G2 out n')->B7 G s'.heap ρ (Jl ds ks) out.toList->Q (.done (.ret .none)) s'):
  wpAny G.M A (ksk_end b false vs.toArray e1 (.ref kS) kvs.toArray) Q E s:=by
 have rk:C2 (λv p=>Iw s.heap v p) kvs ks:=U0 J.rel
 unfold ksk_end;dsimp only;simp only[Bool.false_eq_true,if_false];have hzip:(kvs.toArray.zip vs.toArray).toList=kvs.zip vs:=by rw[Array.toList_zip]
 by_cases h2:vs.toArray.size<2
 ·rw[if_pos h2,if_pos h2];refine wpAny_bind (wpAny_pure ?_)
  refine wpAny_bind ?_
  refine wpAny_pure ?_
  dsimp only;refine Qe I₀ hs0 J (by exact Aw λZ=>A8 [_,_] [A7 (.n 100000) x0,B9 x0 x1,A5 x1 (.n 100000)] rT Z hl hl2) rfl (by rw[←Array.length_toList,hzip,List.length_zip];(clear h2 hzip rk h hr nd hl rv J hs0 I₀;omega)) λs' I' x' ⟨n',hb⟩ S=>?_
  refine h s' _ n' I' x' hb (B7.mono S _ _ ?_)
  have:=Xn (arr:=kvs.zip vs) rk rv nd (.refl _) (by
   have:(kvs.zip vs).length<2:=by rw[List.length_zip];simp at h2;(clear hb S x' I' hzip rk h hr nd hl2 hl rv J hs0 I₀;omega)
   exact zCD this)
  simp only[Array.toList_map];rw[hzip];exact this
 ·rw[if_neg h2,if_neg h2];obtain⟨fs,hfl,ht,hfi⟩:=Nj rk;refine wpAny_bind (PySem.W.kat_kind (T:=.type "int") ht (by simp at h2;exact Cz λZ=>A8 [_,_,_] [A5 x0 (.n 0),Gl x1 x2,Gl x0 x1,A5 (.n 2) x2] rT Z hl hfl h2) (λv m=>?_) rfl ?_)
  ·obtain⟨i,t,rfl⟩:=hfi v m;exact PySem.W.Looks.now
  have hkz:(kvs.zip vs).length=vs.length:=by rw[List.length_zip];(clear hfi ht hfl h2 hzip rk h hr nd hl2 rv J hs0 I₀;omega)
  have run:=Sy (X:=⟨G.prog,G.w,A,E,s⟩) (k:=λx=>He s.heap x.1) (κ:=tuples' true) (S:=zIs s.heap) zDH (a₀:=kvs.zip vs) (λx m=>?_) ?_ (st:=SortSt.mk' (tuples' true) (kvs.toArray.zip vs.toArray) #[] 7 none)
   (Q:=λ_ st'=>Ye (λx=>He s.heap x.1) (tuples' true) (kvs.zip vs) st'/\Dz (λx=>He s.heap x.1) (arrOf st') 0 (kvs.zip vs).length) ⟨by show(kvs.toArray.zip vs.toArray).toList.Perm _;rw[hzip],rfl,rfl⟩ rfl λst' o1 o2=>⟨o1,o2⟩
  ·refine wpAny_bind (wpAny_mono run ?_ λ_ _ x=>x)
   rintro⟨⟨⟩,st'⟩ s' ⟨rfl,O,hsrt⟩
   have hsize:=O.size;refine Qe I₀ hs0 J (by exact Aw λZ=>A8 [_,_] [A7 (.n 100000) x0,B9 x0 x1,A5 x1 (.n 100000)] rT Z hl hl2) O.failed (by exact Aw λZ=>A8 [_,_,_] [A7 (.n 100000) x0,A5 x1 (.n 100000),B9 x2 x1,B9 x0 x2] rT Z hl2 hkz hsize) λs'' I' x' ⟨n',hb⟩ S=>?_
   refine h s'' _ n' I' x' hb (B7.mono S _ _ ?_)
   simp only[Array.toList_map];refine Xn rk rv nd O.perm ?_
   refine List.pairwise_iff_getElem.mpr λi j hi hj hij=>?_
   have hi':i<(arrOf st').size:=by simpa using hi
   have hj':j<(arrOf st').size:=by simpa using hj
   have:=hsrt i j (lq5 _) (Nat.le_of_lt hij) (by rw[←hsize];exact hj')
   rw[G9 (p:=(arrOf st')[i]) (by simp[hi']),G9 (p:=(arrOf st')[j]) (by simp[hj'])]at this
   simpa using this
  ·have mx:x.1∈kvs:=(List.of_mem_zip m).1
   obtain⟨p,mp,kp⟩:=Hi rk _ mx;exact⟨p,kp,hr p mp⟩
  ·have e:(kvs.zip vs).map (λx=>He s.heap x.1)=ks.map Cr:=by
    have e1:(kvs.zip vs).map (λx=>He s.heap x.1)=((kvs.zip vs).map (·.1)).map (He s.heap):=by rw[List.map_map];rfl
    simp only[e1,List.map_fst_zip (by exact Aw λZ=>A8 [_,_] [A7 x1 x0,B9 x0 x1] rT Z hl)]
    exact zAi rk
   rw[e];exact nd
end
section
variable {G:Gd}{C:Cx}{A:Around}{P:List Addr}{env:Env}{s:Shared}{ρ:List Addr}{st:St}
theorem Pl.in1{n:Nat}(R:Pl (n+1) A):Pl n A.in1.in1:=⟨R.hd,by have:=R.depth;show A.depth+n<=900;exact Aw λZ=>A8 [_,_] [A7 (.n 900) (.a x0 x1),A5 (.a x0 (.a x1 (.n 1))) (.n 900)] rT Z this,by have:=R.units;show A.units+1+1+10*n<=9000;exact Aw λZ=>A8 [_,_] [A7 (.n 9000) (.a (.a (.a x0 (.n 1)) (.n 1)) (.m 10 x1)),A5 (.a x0 (.m 10 (.a x1 (.n 1)))) (.n 9000)] rT Z this⟩
theorem Z5{F:List D->Mn D}{f:Addr}{n:Nat}(hF:∀s',Ev [] s.heap ρ s'.heap ρ->Yc G n f F s' ρ st.sto) (hC:C.inh=false) (K:Ok G C A P env s ρ st) (hlv:n+1<=C.lvl){k:Nat}{a:Addr}{ds:List D}{ks:List (Int×Int)}(hk:ρ[k]? =some a) (hds:st.sto[k]? =some (.list ds)) (hK:L8 F st ds ks)
  {Q:Value->Shared->Prop}{E:Value->Shared->Prop}(h:∀s' b out n',Cy G s' ρ st.sto->Ev [] s.heap ρ s'.heap ρ->s.heap.objs.size<=b->s'.heap.get? b=some (G2 out n')->B7 G s'.heap ρ (Jl ds ks) out.toList->Q (.ref b) s'):
  wpAny G.M A (call (.builtin "sorted") [.ref a] [(Str.ofString "key",.ref f)]) Q E s:=by
 apply yo;intro _ k0
 obtain⟨vs,⟨n0,hl⟩,rv⟩:=K.inv.sto k a _ hk hds;apply k0
 have hlen:vs.toList.length=ds.length:=rv.all2.length
 have hsz:(100001:Nat)<=sizeLine:=by decide
 have hK1:=hK.len;have hin:s.heap.IsList a vs.toList.toArray:=by rw[Array.toArray_toList];exact Jj.list ⟨n0,hl⟩
 refine call_function_entry_kw kind_sorted plain_sorted entry_sorted (ksk_s1 _ _) ?_
 unfold Builtin.«sorted»
 refine wpAny_bind (m:=checkCount "sorted" 1 1 _) (wpAny_pure ?_)
 refine wpAny_bind (collect_list hin ?_ (by exact Aw λZ=>A8 [_,_,_] [A7 x1 x0,B9 x0 x2,A5 (.n 100001) x1,A5 x2 (.n 100000)] rT Z hlen hsz hK1))
 refine wpAny_bind (wpAny_newList ?_ (by exact Aw λZ=>A8 [_,_,_] [A7 x1 x0,B9 x0 x2,A5 (.n 100001) x1,A5 x2 (.n 100000)] rT Z hlen hsz hK1))
 have hsz1:((s.heap.push (seqObj "list" #[] 0)).update s.heap.objs.size (Obj.mapSeq (· ++vs.toList.toArray))).objs.size=s.heap.objs.size+1:=by
  simp only[Heap.size_update,size_push']
 have hoL:(((s.heap.push (seqObj "list" #[] 0)).update s.heap.objs.size (Obj.mapSeq (· ++vs.toList.toArray))).push (seqObj "list" vs.toList.toArray 0)).get? (s.heap.objs.size+1)=some (seqObj "list" vs.toList.toArray 0):=by
  rw[←hsz1];exact Heap.get?_push_size _ rfl
 have keep:B8 s.heap (((s.heap.push (seqObj "list" #[] 0)).update s.heap.objs.size (Obj.mapSeq (· ++vs.toList.toArray))).push (seqObj "list" vs.toList.toArray 0)):=λb o q=>by
  have hlt:b<s.heap.objs.size:=Heap.lt_size q
  rw[Heap.get?_push_ne _ _ _ (by rw[hsz1];exact Nat.ne_of_lt (Nat.lt_succ_of_lt hlt)),Heap.get?_update_ne _ _ _ _ (Nat.ne_of_lt hlt),Heap.get?_push_ne _ _ _ (Nat.ne_of_lt hlt)]
  exact q
 have hsz2:(((s.heap.push (seqObj "list" #[] 0)).update s.heap.objs.size (Obj.mapSeq (· ++vs.toList.toArray))).push (seqObj "list" vs.toList.toArray 0)).objs.size=s.heap.objs.size+2:=by rw[size_push',hsz1]
 show wpAny _ _ _ _ _ {s with heap:=((s.heap.push (seqObj "list" #[] 0)).update s.heap.objs.size (Obj.mapSeq (· ++vs.toList.toArray))).push (seqObj "list" vs.toList.toArray 0)}
 rw[hsz1];generalize(((s.heap.push (seqObj "list" #[] 0)).update s.heap.objs.size (Obj.mapSeq (· ++vs.toList.toArray))).push (seqObj "list" vs.toList.toArray 0))=h2 at hoL keep hsz2
 refine wpAny_bind (wpAny_holding (wpAny_call_entry_kw (s:={s with heap:=h2}) slot_list_sort ⟨_,hoL,rfl⟩ entry_list_sort ?body (ksk_l1 _ _)))
 simp only[ksk_t1];refine wpAny_bind (listItems_at hoL rfl ?_)
 refine wpAny_bind (listUpdate_at hoL rfl ?_ (by rw[List.size_toArray];exact Aw λZ=>A8 [_,_,_] [A7 x1 x0,B9 x0 x2,A5 (.n 100001) x1,A5 x2 (.n 100000)] rT Z hlen hsz hK1) (lq5 _))
 obtain⟨e1,ho1⟩:∃e1,(h2.update (s.heap.objs.size+1) (Obj.mapSeq λ_=>(#[]:Array Value))).get? (s.heap.objs.size+1)=some (G2 #[] e1):=⟨_,get?_update_seq hoL λ_=> #[]⟩
 refine wpAny_bind (seqEpoch_at ho1 rfl ?_)
 refine wpAny_bind (wpAny_newTuple ?_ (by exact Aw λZ=>A8 [_,_,_] [A7 x1 x0,B9 x0 x2,A5 (.n 100001) x1,A5 x2 (.n 100000)] rT Z hlen hsz hK1))
 refine wpAny_bind (wpAny_newList ?_ (lq5 _))
 refine wpAny_holding ?_
 have hsz3:((h2.update (s.heap.objs.size+1) (Obj.mapSeq λ_=>(#[]:Array Value))).push (seqObj "tuple" vs.toList.toArray 0)).objs.size=s.heap.objs.size+3:=by rw[size_push',Heap.size_update,hsz2]
 have g3:B8 s.heap (((h2.update (s.heap.objs.size+1) (Obj.mapSeq λ_=>(#[]:Array Value))).push (seqObj "tuple" vs.toList.toArray 0)).push (seqObj "list" #[] 0)):=λb o q=>by
  have hlt:b<s.heap.objs.size:=Heap.lt_size q
  refine Heap.get?_push_of_some _ (Heap.get?_push_of_some _ ?_)
  rw[Heap.get?_update_ne _ _ _ _ (Nat.ne_of_lt (Nat.lt_succ_of_lt hlt))];exact keep b o q
 have hb3:(((h2.update (s.heap.objs.size+1) (Obj.mapSeq λ_=>(#[]:Array Value))).push (seqObj "tuple" vs.toList.toArray 0)).push (seqObj "list" #[] 0)).get? (s.heap.objs.size+1)=some (G2 #[] e1):=Heap.get?_push_of_some _ (Heap.get?_push_of_some _ ho1)
 have hk3:(((h2.update (s.heap.objs.size+1) (Obj.mapSeq λ_=>(#[]:Array Value))).push (seqObj "tuple" vs.toList.toArray 0)).push (seqObj "list" #[] 0)).get? (s.heap.objs.size+3)=some (G2 #[] 0):=by
  rw[←hsz3];exact Heap.get?_push_size _ rfl
 have hz3:s.heap.objs.size≤(((h2.update (s.heap.objs.size+1) (Obj.mapSeq λ_=>(#[]:Array Value))).push (seqObj "tuple" vs.toList.toArray 0)).push (seqObj "list" #[] 0)).objs.size:=by rw[size_push',hsz3];exact Aw λZ=>A8 [_] [A7 (.a (.a x0 (.n 3)) (.n 1)) x0] rT Z
 show wpAny G.M A.in1.in1 (ksk_rest _ _ _ _ _ (.ref ((h2.update (s.heap.objs.size+1) (Obj.mapSeq λ_=>(#[]:Array Value))).push (seqObj "tuple" vs.toList.toArray 0)).objs.size)) _ _ {s with heap:=((h2.update (s.heap.objs.size+1) (Obj.mapSeq λ_=>(#[]:Array Value))).push (seqObj "tuple" vs.toList.toArray 0)).push (seqObj "list" #[] 0)}
 simp only[hsz3];generalize(((h2.update (s.heap.objs.size+1) (Obj.mapSeq λ_=>(#[]:Array Value))).push (seqObj "tuple" vs.toList.toArray 0)).push (seqObj "list" #[] 0))=h3 at g3 hb3 hk3 hz3
 have I3:=K.inv.grow g3 hz3 s.toks;have J:zJY G A.in1.in1 ρ st.sto s.heap (s.heap.objs.size+1) (s.heap.objs.size+3) e1 [] [] {s with heap:=h3}:=⟨I3,g3.ev hz3,K.bel.keep (g3.ev hz3),Nat.le_add_right _ 1,Nat.le_add_right _ 3,Nat.ne_of_lt (Nat.add_lt_add_left (by decide) _),hb3,⟨0,hk3⟩,by exact(show B7 _ _ _ _ _ from rfl)⟩
 refine wpAny_bind (wpAny_rule ?_)
 rw[←Array.forIn_toList];have hR:Pl n A.in1.in1:=((K.room.room hC).le hlv).in1
 refine wpAny_bind (Ql env hF hR K.inv rfl (b:=s.heap.objs.size+1) (kS:=s.heap.objs.size+3) (e1:=e1) ?_ vs.toList.toArray.toList ds ks [] [] {s with heap:=h3} _ J (by rw[List.toList_toArray];exact B7.mono g3.stb _ _ rv) hK.all (by simp at hlen ⊢; exact Aw λZ=>A8 [_,_] [A7 (.n 100000) x0,B9 x0 x1,A5 x1 (.n 100000)] rT Z hlen hK1) λs' kvs' J' hl' _=>?_)
 ·intro x s1 Q1 hq;refine wpAny_bind (wpAny_attempt (wpAny_mono hq (λv s2 h2=>?_) λ_ _ z=>z.elim))
  exact wpAny_bind (wpAny_mono h2 (λ_ s3 h3=>wpAny_pure h3) λ_ _ z=>z.elim)
 ·obtain⟨e,hke⟩:=J'.atk;refine wpAny_bind (listItems_at hke rfl ?_)
  have S:Ks s.heap ρ s'.heap ρ:=J'.ev.stb K.inv .nil
  refine zAe K.inv rfl J' (vs:=vs.toList) (B7.mono S _ _ rv) (by simpa using hl') (by exact Aw λZ=>A8 [_,_] [A7 (.n 100000) x0,B9 x0 x1,A5 x1 (.n 100000)] rT Z hlen hK1) (by simpa using hK.nd) (λp m=>?_) λs'' out n' I' x' hb' r'=>⟨_,rfl,wpAny_pure ⟨_,rfl,h s'' _ out n' I' x' (Nat.le_add_right _ 1) hb' (by simpa using r')⟩⟩
  obtain⟨d,_,r⟩:=Hi hK.all.flip p (by simpa using m);exact r.2
theorem Np{F:List D->Mn D}{k:Nat}{ds:List D}{ks:List (Int×Int)}(hds:st.sto[k]? =some (.list ds)) (hK:L8 F st ds ks):Bo F [.ref k] st=D2 (Jl ds ks) st:=by
 have hex:∃ks,L8 F st ds ks:=⟨ks,hK⟩
 have hu:Classical.choose hex=ks:=by
  have h2:=Classical.choose_spec hex;generalize Classical.choose hex=ks' at h2
  have a1:=h2.all;have a2:=hK.all;clear h2 hK hex hds
  induction a1 generalizing ks with
  |nil=>cases a2;rfl
  |cons r _ ih=>
   cases a2 with
   |cons r' rs'=>
    rw[ih rs'];have e:=r.1.symm.trans r'.1;injection e with e1 e2
    injection e1 with e3
    injection e3 with e4 e5
    injection e4 with e6
    injection e5 with e7 e8
    injection e7 with e9
    rw[Prod.ext e6 e9]
 unfold Bo;simp only[hds];rw[dif_pos hex,hu]
theorem Qp{F:List D->Mn D}{f:Addr}{n:Nat}(hF:∀s',Ev [] s.heap ρ s'.heap ρ->Yc G n f F s' ρ st.sto) (hC:C.inh=false) (K:Ok G C A P env s ρ st) (hlv:n+1<=C.lvl){ds:List D}{vs:List Value}(r:B7 G s.heap ρ ds vs):
  At G A env s ρ st (RV G) (call (.builtin "sorted") vs [(Str.ofString "key",.ref f)]) (Bo F ds):=λhb=>by
 match ds,r,hb with
 |[.ref k],r,hb=>
  obtain⟨v,r',rfl,⟨a,rfl,hk⟩,rfl⟩:=r
  cases hds:st.sto[k]? with
  |none=>exact absurd (by unfold Bo;simp only[hds]) hb
  |some o=>
   cases o with
   |list ls=>
    by_cases hex:∃ks,L8 F st ls ks
    ·apply yo;intro _ k0
     obtain⟨ks,hK⟩:=hex;apply k0
     refine Z5 hF hC K hlv hk hds hK λs' b out n' I' x' hb' hat r'=>?_
     have nb:=Gx (hs:=s.heap) K.inv (q:=b) hb';obtain⟨I2,S2⟩:=I'.adopt (q:=b) (p:=.list (Jl ls ks)) nb.1 nb.2 (λo ho=>by rw[hat]at ho;cases ho;exact⟨by simp,λc z=>by cases z⟩) (λS=>⟨out,⟨n',hat⟩,B7.mono S _ _ r'⟩) s'.toks
     refine⟨ρ++[b],.ref st.sto.length,st.sto++[.list (Jl ls ks)],by rw[Np hds hK];rfl,I2,J8 x' hb',?_⟩
     show Cn G _ _ _ _
     exact⟨b,rfl,by rw[←K.inv.len];simp⟩
    ·exact absurd (by unfold Bo;simp only[hds];rw[dif_neg hex]) hb
   |_=>exact absurd (by unfold Bo;simp only[hds]) hb
 |[],_,hb=>exact absurd rfl hb
 |.none::_,_,hb=>exact absurd rfl hb
 |.bool _::_,_,hb=>exact absurd rfl hb
 |.int _::_,_,hb=>exact absurd rfl hb
 |.str _::_,_,hb=>exact absurd rfl hb
 |.tup _::_,_,hb=>exact absurd rfl hb
 |.scr _::_,_,hb=>exact absurd rfl hb
 |.exc _::_,_,hb=>exact absurd rfl hb
 |.ref _::_::_,_,hb=>exact absurd rfl hb
theorem Z6{g:Str}{F:List D→Mn D}{f:Addr}{n:Nat}{e:Expr}{ms:Mn (List D)}{sp np pos kp:Pos}(hs:Dj G (Str.ofString "sorted") (.builtin "sorted")) (hsn:C.names.lookup (Str.ofString "sorted")=some .globalImplicit)
  (hg:D8 G g (.ref f)) (hn:C.names.lookup g=some .globalImplicit) (hd:(g==("__debug__":Str))=false) (hF:SF G n f F) (hC:C.inh=false) (hlv:n+1≤C.lvl) (he:SA G C [e] ms) (hst:∀env,starEach [e] env=[(false,eval e env)]):
  SE G C (.Call (.Name (Str.ofString "sorted") sp) [e] [⟨some (Str.ofString "key"),.Name g np,kp⟩] pos) (bnd ms (Bo F)):=.mk <| λA P env s ρ st K hb=>by
 refine wpAny_bind (F0 K hs hsn (by decide) ?_)
 have hev:backTo pos (starEach [e] env)=(false,eval e env)::backTo pos (starEach [] env):=by rw[hst];rfl
 have h1:=he.run A P env s ρ st pos K (B6 hb);refine callWith_kw (wpAny_mono h1 (λvs s' q=>?_) λx s' q=>?_) hev (by rw[hev];rfl)
 ·refine H3.elim q λρ' ds σ' e' I' x' r=>?_
  have K':=K.step I' x';have e2:bnd ms (Bo F) st=Bo F ds ⟨st.loc,σ'⟩:=by simp only[bnd,e']
  rw[e2]at hb ⊢;refine kws_cons (Fd K' hg hn hd (kws_nil ?_))
  refine wpAny_mono (Qp (λs' _=>hF.at s' _ _) hC K' hlv r hb) (λw s'' q=>?_) λw s'' q=>?_
  ·exact H3.tr q x'
  ·exact C1.tr q x'
 ·exact C1.bnd q
end
section
variable {G:Gd}{C:Cx}{A:Around}{P:List Addr}{env:Env}{s:Shared}{ρ:List Addr}{σ:Bm}{st:St}
noncomputable def Fk (ds:List D):List D:=ds.zipIdx.map λp=>D.tup [.int p.2,p.1]
theorem P8{ds:List D}{i:Nat}{d:D}(h:(Fk ds)[i]? =some d):∃a,ds[i]? =some a/\d=.tup [.int i,a]:=by
 simp only[Fk,List.getElem?_map,Option.map_eq_some_iff]at h;obtain⟨⟨a,j⟩,h,rfl⟩:=h;rw[List.getElem?_zipIdx]at h;obtain⟨a',h1,h2⟩:=Option.map_eq_some_iff.mp h;injection h2 with e1 e2
 subst e1;rw[Nat.zero_add]at e2;subst e2;exact⟨_,h1,rfl⟩
theorem Pj{ds:List D}:(Fk ds).length=ds.length:=by simp[Fk]
inductive zL4 (e it:Addr) (k:Nat) (ds:List D) (out:Option Addr) (rem:List D) (h:Heap) (ρ:List Addr):Prop
 |mk (l:Addr) (i:Nat) (old:Value) (e1:ρ[k]? =some l) (h1:h.IsListIter it l i) (h2:match out with|none=>IsEnum h e it (i:Nat) old|some a=>IsEnumOut h e it (i:Nat) old a) (e3:rem=(Fk ds).drop i)
theorem zHR{P:Addr->Prop}{a b:Addr}(h1:P a) (h2:P b) (q:Addr) (m:q∈[a,b]):P q:=by
 simp only[List.mem_cons,List.not_mem_nil,or_false]at m;rcases m with rfl|rfl<;>assumption
structure zJ4 (G:Gd) (e it:Addr) (k:Nat) (ds:List D) (out:Option Addr) (rem:List D) (h:Heap) (ρ:List Addr) (σ:Bm):Prop where
 ie:Sq G h ρ e
 ji:Sq G h ρ it
 s1:σ[k]? =some (.list ds)
 ne:e≠it
 ex:zL4 e it k ds out rem h ρ
noncomputable def Qk (k:Nat) (ds:List D) (σ:Bm):Prop:=σ[k]? =some (.list ds)
theorem zJ4.own{e it:Addr}{k:Nat}{ds rem:List D}{out:Option Addr}{h:Heap}{σ:Bm}(t:zJ4 G e it k ds out rem h ρ σ):∀q,q∈[e,it]->Up G h ρ σ q:=zHR (.inl (.inl t.ie)) (.inl (.inl t.ji))
theorem zBd{e it:Addr}{k:Nat}{ds:List D}:zGI G e [e,it] J5 (Qk k ds) (zJ4 G e it k ds none)
  (λv rem h ρ σ=>∃T,v=.ref T/\zJ4 G e it k ds (some T) rem h ρ σ) where
 own rem h ρ σ t:=t.own
 ownM v rem h ρ σ t:=t.elim λT z=>z.2.own
 keep P rem s ρ σ s' ρ' σ' t I0 I' x N g:=by
  obtain⟨l,i,old,e1,h1,h2,e3⟩:=t.ex;obtain⟨ie',ee⟩:=t.ie.keep x N;obtain⟨ji',ej⟩:=t.ji.keep x N;obtain⟨o1,ho1,r1⟩:=h1;exact⟨ie',ji',g,t.ne,l,i,old,x.pre _ _ e1,⟨o1,ej.trans ho1,r1⟩,ee.trans h2,e3⟩
 next A s ρ σ rem Q E hh I0 t h1 h2:=by
  obtain⟨l,i,old,e1,hi1,he,e3⟩:=t.ex;replace he:IsEnum s.heap e it i old:=he
  obtain⟨xs,hl1,r1⟩:=I0.sto k l _ e1 t.s1;have np:=zHR (P:=λq=>¬zCy s.heap q) t.ie.notPrv t.ji.notPrv
  cases rem with
  |nil=>
   have hend:xs[i]? =none:=by
    have h3:=Lr e3;rw[Pj,←r1.size]at h3;simp;omega
   refine Ff (wpAny_pyNext_enum_end hh he hi1 hl1.list hend λh' hk zz=>?_)
   exact h1 rfl h' s.toks ⟨λc o n ee=>hk c o (zId n) ee,zz,λq m p=>absurd p (np q m)⟩
  |cons d rest=>
   obtain⟨hd,hr⟩:=Kd e3;obtain⟨da,ha,rfl⟩:=P8 hd;obtain⟨va,hva,ra⟩:=r1.all2.get i da ha;refine wpAny_pyNext_enum_item he hi1 hl1.list (by simpa using hva) t.ne λh' a1 a2 a3 a4 hk=>?_
   have ho:Hs [e,it] s.heap h':=⟨λc o n ee=>hk c o (zIJ n) (zId n) ee,by rw[a4];exact Nat.le_succ _,λq m p=>absurd p (np q m)⟩
   have S:=ho.stb t.own;refine h2 _ rest rfl (.ref s.heap.objs.size) h' (s.toks+1) ho ?_ ⟨_,rfl,?_⟩
   ·refine⟨_,#[.int i s.toks,va],rfl,I0.size_notin,⟨0,a3⟩,?_⟩
    exact⟨_,_,rfl,⟨_,rfl⟩,_,_,rfl,Cn.mono S _ _ ra,rfl⟩
   ·have it1:Sq G h' ρ it:=by obtain⟨o,ho,hc,hd⟩:=a2;exact⟨t.ji.1,t.ji.2.1,o,_,_,ho,hc,by decide,hd⟩
    exact⟨⟨t.ie.1,t.ie.2.1,_,_,_,a1,rfl,by decide,rfl⟩,it1,t.s1,t.ne,l,i+1,va,e1,a2,a1,hr⟩
 go A s ρ σ tgt v rest Q E ht I0 t h:=by
  obtain⟨T,rfl,t⟩:=t;obtain⟨elts,k',pos,rfl⟩:=ht;obtain⟨l,i,old,e1,hi1,he,e3⟩:=t.ex;replace he:IsEnumOut s.heap e it i old T:=he
  refine wpAny_letOwnedTupleGo_enum he λh' hz' hs'=>h h' ⟨λb o n ee=>hs'.extBut _ _ (zIJ n) ee,Nat.le_of_eq hs'.1.symm,λq m p=>?_⟩ ?_
  ·obtain⟨x,y,p⟩:=p;by_cases hq:q=e
   ·subst hq;exact absurd ⟨x,y,p⟩ t.ie.notPrv
   ·exact⟨x,y,hs'.extBut _ _ hq p⟩
  ·obtain⟨_,_,o1,T1,vs1,ho1,hc1,hT1,hd1⟩:=id t.ji;exact⟨⟨t.ie.1,t.ie.2.1,_,_,_,hz',rfl,by decide,rfl⟩,⟨t.ji.1,t.ji.2.1,o1,T1,vs1,hs'.extBut _ _ (Ne.symm t.ne) ho1,hc1,hT1,hd1⟩,t.s1,t.ne,l,i,old,e1,hi1.extBut hs'.extBut (Ne.symm t.ne),hz',e3⟩
theorem Nm{e it:Addr}{i:Int}{old:Value}{Q:Value->Shared->Prop}{E:Value->Shared->Prop}(he:IsEnum s.heap e it i old) (h:Q (.ref e) s):wpAny G.M A (pyIter (.ref e)) Q E s:=wpAny_pyIter_enum he h
theorem Yy{e it:Addr}{k:Nat}{ds:List D}:Mz G e (zJ4 G e it k ds none):=λA s ρ σ rem Q E hh t h=>by
 obtain⟨l,i,old,e1,hi1,he,e3⟩:=t.ex;exact Nm he h
noncomputable def Lk:List D->Mn Ix
 |[.ref k]=>λst=>match st.sto[k]? with
  |some (.list a)=>.ok ⟨Fk a,Qk k a⟩ st
  |_=>.bot
 |_=>botM
theorem zA7{P:Prop}{ds:List D}{st:St}(hb:Lk ds st≠.bot) (w:∀k a,ds=[.ref k]->st.sto[k]? =some (.list a)->Lk ds st=.ok ⟨Fk a,Qk k a⟩ st->P):P:=by
 rcases ds with _|⟨d,_|⟨d2,l⟩⟩
 ·exact absurd rfl hb
 ·cases h:zIM d with
  |none=>exact absurd (by cases d<;>first|rfl|cases h) hb
  |some k=>
   obtain rfl:=P4 h;have e:Lk [.ref k] st=Nn st.sto[k]? λa=>.ok ⟨Fk a,Qk k a⟩ st:=by
    generalize ho:st.sto[k]? =o
    unfold Lk;dsimp only;rw[ho]
    cases o with
    |none=>rfl
    |some o=>cases o<;>rfl
   rw[e]at hb;exact Hv hb λa e1 e2=>w k a rfl e1 (e.trans e2)
 ·exact absurd (by cases d<;>rfl) hb
theorem zAu{P:Prop}{h:Heap}{k:Nat}{vs:List Value}(r:B7 G h ρ [.ref k] vs) (w:∀l,vs=[.ref l]->ρ[k]? =some l->P):P:=by
 obtain⟨v1,_,rfl,⟨l1,rfl,e1⟩,rfl⟩:=r;exact w l1 rfl e1
theorem zEs:Yk G "enumerate" J5 Lk:=λC A P env s ρ st ds vs hC K r hb=>zA7 hb λk a ed q1 ee=>by
 subst ed;refine zAu r λl1 ev e1=>?_
 subst ev;obtain⟨xs,hl1,rr1⟩:=K.inv.sto k l1 _ e1 q1;refine call_enumerate_list hl1.list λh' he hi hsz hk=>?_
 refine Nm he ?_
 have zz:s.heap.objs.size<=h'.objs.size:=by rw[hsz];exact Nat.le_add_right _ _
 have g:B8 s.heap h':=hk
 have hnew:∀j,s.heap.objs.size+j∉ρ:=λj m=>Nat.lt_irrefl _ (Nat.lt_of_lt_of_le (K.inv.mem_lt m) (Nat.le_add_right _ j))
 have h0:∀j,G.h0.get? (s.heap.objs.size+j)=none:=λj=>K.inv.h0_le (Nat.le_add_right _ _)
 obtain⟨o1,ho1,hc1,hd1⟩:=id hi;exact⟨_,⟨Fk a,Qk k a⟩,_,s.heap.objs.size+1,[s.heap.objs.size+1,s.heap.objs.size],_,_,ee,K.inv.grow g zz s.toks,g.ev zz,rfl,zBd,Yy,⟨⟨h0 1,hnew 1,_,_,_,he,rfl,by decide,rfl⟩,⟨h0 0,hnew 0,o1,_,_,ho1,hc1,by decide,hd1⟩,q1,Nat.ne_of_gt (Nat.lt_succ_self _),l1,0,.none,e1,hi,he,rfl⟩,zHR (Nat.le_add_right _ _) (Nat.le_refl _)⟩
end
mutual
noncomputable def T8:D->Option PyData
 |.none=>some .none
 |.bool b=>some (.bool b)
 |.int i=>some (.int i)
 |.str x=>some (.str x)
 |.tup ds=>(G4 ds).map .tuple
 |.ref _=>none
 |.scr _=>none
 |.exc _=>none
noncomputable def G4:List D->Option (List PyData)
 |[]=>some []
 |d::ds=>(T8 d).bind λx=>(G4 ds).map (x:: ·)
end
mutual
theorem P3{G:Gd}{h:Heap}{ρ:List Addr}:∀(d:D) (v:Value) (p:PyData),T8 d=some p->Cn G h ρ d v->∃as,Reads h v p as
 |.none,v,p,e,r=>by cases Option.some.inj e;cases(show v=_ from r);exact⟨_,.none⟩
 |.bool b,v,p,e,r=>by cases Option.some.inj e;cases(show v=_ from r);exact⟨_,.bool b⟩
 |.int i,v,p,e,r=>by cases Option.some.inj e;obtain⟨t,rfl⟩:=r;exact⟨_,.int i t⟩
 |.str x,v,p,e,r=>by cases Option.some.inj e;obtain⟨t,rfl⟩:=r;exact⟨_,.str x t⟩
 |.tup ds,v,p,e,r=>by
  obtain⟨ps,e1,rfl⟩:=Option.map_eq_some_iff.mp (show(G4 ds).map .tuple=some p from e)
  obtain⟨a,vs,rfl,_,⟨n,ho⟩,r2⟩:=r;obtain⟨as,ra⟩:=Jn ds _ ps e1 r2;exact⟨_,.tuple ho rfl rfl ra⟩
 |.ref _,_,_,e,_=>by cases(show none=some _ from e)
 |.scr _,_,_,e,_=>by cases(show none=some _ from e)
 |.exc _,_,_,e,_=>by cases(show none=some _ from e)
theorem Jn{G:Gd}{h:Heap}{ρ:List Addr}:∀(ds:List D) (vs:List Value) (ps:List PyData),G4 ds=some ps->B7 G h ρ ds vs->∃as,ReadsAll h vs ps as
 |[],vs,ps,e,r=>by cases Option.some.inj e;cases(show vs=_ from r);exact⟨_,.nil⟩
 |d::ds,vs,ps,e,r=>by
  obtain⟨x,e1,e⟩:=Option.bind_eq_some_iff.mp (show(T8 d).bind (λx=>(G4 ds).map (x:: ·))=some ps from e)
  obtain⟨xs,e2,rfl⟩:=Option.map_eq_some_iff.mp e;obtain⟨v,r',rfl,r1,r2⟩:=r;obtain⟨as,h1⟩:=P3 d v x e1 r1;obtain⟨bs,h2⟩:=Jn ds r' xs e2 r2;exact⟨_,.cons h1 h2⟩
end
noncomputable def Hg (σ:Bm):D->Option PyData
 |.ref k=>(zFk σ[k]?).bind λds=>(G4 ds).map .list
 |d=>T8 d
theorem Ie{G:Gd}{s:Shared}{ρ:List Addr}{σ:Bm}(I:Cy G s ρ σ){d:D}{v:Value}{p:PyData}(e:Hg σ d=some p) (r:Cn G s.heap ρ d v):∃as,Reads s.heap v p as:=by
 cases d with
 |ref k=>
  obtain⟨a,rfl,hk⟩:=r;obtain⟨ds,hs,e⟩:=Option.bind_eq_some_iff.mp (show(zFk σ[k]?).bind (λds=>(G4 ds).map .list)=some p from e)
  obtain⟨ps,e1,rfl⟩:=Option.map_eq_some_iff.mp e;obtain⟨vs,⟨n,ho⟩,rr⟩:=I.sto k a _ hk (On hs);obtain⟨as,ra⟩:=Jn ds _ ps e1 rr;exact⟨_,.list ho rfl rfl ra⟩
 |_=>exact P3 _ _ _ e r
theorem Ig{σ:Bm}{k:Nat}{ds:List D}(h:σ[k]? =some (.list ds)):Hg σ (.ref k)=(G4 ds).map .list:=by
 show(zFk σ[k]?).bind _=_
 rw[h];rfl
noncomputable def Sd (a b:D):Mn D:=λst=>match Hg st.sto a,Hg st.sto b with
 |some x,some y=>if x.canLay0=true/\y.canLay0=true/\x.depth<=50 then .ok (.bool (x.eqv y)) st else .bot
 |_,_=>.bot
noncomputable def Ex:D->D->Mn D
 |.ref k,.ref l=>Sd (.ref k) (.ref l)
 |.tup x,.tup y=>Sd (.tup x) (.tup y)
 |a,b=>zDx a b
section
variable {G:Gd}{C:Cx}{A:Around}{P:List Addr}{env:Env}{s:Shared}{ρ:List Addr}{st:St}
theorem zBj{d1 d2:D}{v1 v2:Value}(K:Ok G C A P env s ρ st) (r1:Cn G s.heap ρ d1 v1) (r2:Cn G s.heap ρ d2 v2):At G A env s ρ st (RV G) (compareOp .Eq v1 v2) (Sd d1 d2):=by
 refine At.leaf (λhb=>?_) K
 cases e1:Hg st.sto d1 with
 |none=>exact absurd (by simp only[Sd,e1]) hb
 |some x=>
  cases e2:Hg st.sto d2 with
  |none=>exact absurd (by simp only[Sd,e1,e2]) hb
  |some y=>
   by_cases hc:x.canLay0=true/\y.canLay0=true/\x.depth<=50
   ·obtain⟨as,ra⟩:=Ie K.inv e1 r1;obtain⟨bs,rb⟩:=Ie K.inv e2 r2;refine SeqAt.compareEq_reads ra rb hc.1 hc.2.1 ?_ ⟨.bool (x.eqv y),by simp only[Sd,e1,e2,hc,and_self,if_true],B8.same0,rfl⟩
    have:=K.room.units
    have hl:cLine=9900:=rfl
    have:=hc.2.2
    omega
   ·exact absurd (by simp only[Sd,e1,e2,hc,if_false]) hb
theorem zGk{P:Prop}{d1 d2:D}(k1:∀a b,d1=.ref a->d2=.ref b->P) (k3:∀a b,d1=.tup a->d2=.tup b->P) (k2:Ex d1 d2=zDx d1 d2->P):P:=by
 cases d1 with
 |ref a=>cases d2<;>first|exact k1 _ _ rfl rfl|exact k2 rfl
 |tup a=>cases d2<;>first|exact k3 _ _ rfl rfl|exact k2 rfl
 |_=>exact k2 rfl
theorem zFP:Ed G .Eq Ex:=λC A P env s ρ st d1 d2 v1 v2 K r1 r2=>zGk (d1:=d1) (d2:=d2) (λa b e1 e2=>by subst e1 e2;exact zBj K r1 r2) (λa b e1 e2=>by subst e1 e2;exact zBj K r1 r2) λe=>by rw[e];exact zDp C A P env s ρ st d1 d2 v1 v2 K r1 r2
noncomputable def TF (G:Gd) (T:String) (F:List D->Mn D):Prop:=
 ∀C A P env s ρ st ds vs,Ok G C A P env s ρ st->B7 G s.heap ρ ds vs->At G A env s ρ st (RV G) (call (.type T) vs) (F ds)
theorem zCP{T:String}{f:Str}{F:List D→Mn D}{e:Expr}{es:List Expr}{ms:Mn (List D)}{np pos:Pos}(hg:Dj G f (.type T)) (hn:C.names.lookup f=some .globalImplicit) (hd:(f==("__debug__":Str))=false)
  (hF:TF G T F) (hs:SA G C (e::es) ms) (hst:∀env,starEach (e::es) env=(false,eval e env)::starEach es env) (hpl:∀env,(backTo pos (starEach es env)).any (·.1)=false):
  SE G C (.Call (.Name f np) (e::es) [] pos) (bnd ms F):=.mk <| λA P env s ρ st K hb=>by
 show wpAny G.M A (eval (.Name f np) env >>= λfv=>callWith pos fv [] (backTo pos (starEach (e::es) env)) []) _ _ s
 refine wpAny_bind (F0 K hg hn hd ?_)
 have hev:backTo pos (starEach (e::es) env)=(false,eval e env)::backTo pos (starEach es env):=by rw[hst];rfl
 have h1:=hs.run A P env s ρ st pos K (B6 hb);rw[hev]at h1 ⊢;refine PySem.callWith_type (by show(false||_)=false;rw[Bool.false_or];exact hpl env) (Calls.evalArgs_plain (wpAny_mono h1 (λvs s' q=>?_) λx s' q=>?_))
 ·refine H3.elim q λρ' ds σ' e' I' x' r=>?_
  have K':=K.step I' x';have e2:bnd ms F st=F ds ⟨st.loc,σ'⟩:=by simp only[bnd,e']
  rw[e2]at hb ⊢;refine wpAny_mono (hF C A P env s' ρ' ⟨st.loc,σ'⟩ ds vs K' r hb) (λw s'' q=>?_) λw s'' q=>?_
  ·exact H3.tr q x'
  ·exact C1.tr q x'
 ·exact C1.bnd q
noncomputable def Fr:List D->Mn D
 |[.ref k]=>λst=>match st.sto[k]? with
  |some (.list ds)=>if ds.length<=sizeLine then D2 ds st else .bot
  |_=>.bot
 |_=>botM
theorem zBc{h':Heap}{ds:List D}{vs:Array Value}{n:Nat}(K:Ok G C A P env s ρ st) (g:B8 s.heap h') (hb:h'.get? s.heap.objs.size=some (G2 vs n)) (r:B7 G s.heap ρ ds vs.toList):
  H3 G s ρ st (RV G) (D2 ds st) (.ref s.heap.objs.size) {s with heap:=h'}:=by
 have z:s.heap.objs.size<=h'.objs.size:=Nat.le_of_lt (Heap.lt_size hb)
 have I1:=K.inv.grow g z s.toks;obtain⟨I2,S2⟩:=I1.adopt (q:=s.heap.objs.size) (p:=.list ds) K.inv.h0_size K.inv.size_notin (λo ho=>by
  have ho':h'.get? s.heap.objs.size=some o:=ho
  rw[hb]at ho';cases ho';exact⟨by simp,λc z=>by cases z⟩) (λS=>⟨vs,⟨n,hb⟩,B7.mono S _ _ (B7.mono g.stb _ _ r)⟩) s.toks
 refine⟨ρ++[s.heap.objs.size],.ref st.sto.length,st.sto++[.list ds],rfl,I2,J8 (g.ev z) (Nat.le_refl _),?_⟩
 show Cn _ _ _ _ _
 exact⟨_,rfl,by rw[←K.inv.len];simp⟩
inductive zIv (st:St):List D->Prop
 |ref (k:Nat) (ls:List D) (q:st.sto[k]? =some (.list ls)) (hl:ls.length<=sizeLine) (e:Fr [.ref k] st=D2 ls st):zIv st [.ref k]
theorem zIS{ds:List D}{st:St}(hb:Fr ds st≠.bot):zIv st ds:=by
 rcases ds with _|⟨d,_|⟨e,l⟩⟩
 ·exact absurd rfl hb
 ·cases d<;>first|exact absurd rfl hb|skip
  ·rename_i k;have e:Fr [.ref k] st=Nn st.sto[k]? λds=>if ds.length<=sizeLine then D2 ds st else .bot:=by
    generalize ho:st.sto[k]? =o
    unfold Fr;dsimp only;rw[ho]
    cases o with
    |none=>rfl
    |some o=>cases o<;>rfl
   rw[e]at hb;refine Hv hb λds e1 e2=>?_
   rw[e2]at hb;exact Sc hb λhz e3=>.ref k ds e1 hz (e.trans (e2.trans e3))
 ·exact absurd (by cases d<;>rfl) hb
theorem zEJ:TF G "list" Fr:=λC A P env s ρ st ds vs K r hb=>by
 rcases zIS hb with⟨k,ls,hds,hl,e⟩
 ·rw[e];obtain⟨v,r',rfl,⟨a,rfl,hk⟩,rfl⟩:=r;refine M6 K.inv hk hds λvs n ho rr=>?_
  exact call_list_seq a (.inl rfl) ho rfl rfl (λh' c' hkeep hD=>zBc K hkeep hD rr) (by rw[rr.size];exact hl)
noncomputable def Ei:List D->Mn D
 |[.bool b]=>ret1 (.int (if b then 1 else 0))
 |_=>botM
theorem zCH{P:Prop}{ds:List D}{st:St}(hb:Ei ds st≠.bot) (w:∀b,ds=[.bool b]->P):P:=by
 rcases ds with _|⟨d,_|⟨e,l⟩⟩
 ·exact absurd rfl hb
 ·cases d<;>first|exact absurd rfl hb|exact w _ rfl
 ·exact absurd (by cases d<;>rfl) hb
theorem zHb:TF G "int" Ei:=λC A P env s ρ st ds vs K r=>At.leaf (λhb=>zCH hb λb ed=>by
 subst ed;obtain⟨v,r',rfl,rfl,rfl⟩:=r;exact call_int_bool ⟨_,rfl,B8.same,⟨_,rfl⟩⟩) K
noncomputable def Zn:List D->Mn D
 |[.int a]=>ret1 (.int (if a<0 then -a else a))
 |_=>botM
theorem zH9{P:Prop}{ds:List D}{st:St}(hb:Zn ds st≠.bot) (w:∀a,ds=[.int a]->P):P:=by
 rcases ds with _|⟨d,_|⟨e,l⟩⟩
 ·exact absurd rfl hb
 ·cases d<;>first|exact absurd rfl hb|exact w _ rfl
 ·exact absurd (by cases d<;>rfl) hb
theorem zG2:BF G "abs" Zn:=λC A P env s ρ st ds vs hC K r=>At.leaf (λhb=>zH9 hb λa ed=>by
 subst ed;obtain⟨v,r',rfl,⟨t,rfl⟩,rfl⟩:=r;exact call_abs_int λu tk=>⟨_,rfl,B8.same,⟨_,rfl⟩⟩) K
end
noncomputable def Br (k:Nat) (x:D):Mn D:=λst=>match st.sto[k]? with
 |some (.list ds)=>if ds.length<=sizeLine then .ok .none ⟨st.loc,st.sto.set k (.list (ds++[x]))⟩else .bot
 |_=>.bot
noncomputable def Ez (k:Nat):Mn D:=λst=>match st.sto[k]? with
 |some (.list ds)=>if ds.length<=sizeLine then .ok .none ⟨st.loc,st.sto.set k (.list [])⟩else .bot
 |_=>.bot
noncomputable def De (F:Nat->Mn D):D->Mn D
 |.ref k=>λst=>match st.sto[k]? with
  |some (.list _)=>F k st
  |_=>.bot
 |_=>botM
noncomputable def Dr:D->Mn Fl
 |.none=>ret1 .next
 |_=>botM
section
variable {G:Gd}{C:Cx}{A:Around}{P:List Addr}{env:Env}{s:Shared}{ρ:List Addr}{st:St}
theorem Tt{k:Nat}{a:Addr}{vs:Array Value}{n:Nat}{ds:List D}{g:Array Value->Array Value}(K:Ok G C A P env s ρ st) (hk:ρ[k]? =some a) (ho:s.heap.get? a=some (G2 vs n))
  (r:∀(S:Ks s.heap ρ (s.heap.update a (Obj.mapSeq g)) ρ),B7 G (s.heap.update a (Obj.mapSeq g)) ρ ds (g vs).toList):
  Cy G {s with heap:=s.heap.update a (Obj.mapSeq g)} ρ (st.sto.set k (.list ds))/\Ev [] s.heap ρ (s.heap.update a (Obj.mapSeq g)) ρ:=by
 apply yo;intro _ k0
 obtain⟨n',hu⟩:=Jv g ho;obtain⟨I,x⟩:=K.inv.put (k:=k) (a:=a) (p:=.list ds) hk (Heap.SameBut.update s.heap a (Obj.mapSeq g)) (λS=>⟨g vs,⟨n',hu⟩,r S⟩) s.toks
 apply k0
 exact⟨I,x []⟩
theorem Zy{o e:Expr}{mo me:Mn D}{apos pos:Pos}(ho:SE G C o mo) (he:SE G C e me)
  (hbase:∀env,attributeBase o (Str.ofString "append") env (eval o env)=eval o env) (hst:∀env,starEach [e] env=[(false,eval e env)])
  (hfew:∀env,methodCallForm ([e].length+([]:List Keyword).length) (backTo pos (starEach [e] env)) (backToKw pos (keywordEach [] env))=true) (hline:(apos.endLine==pos.line)=true):
  SE G C (.Call (.Attribute o (Str.ofString "append") apos) [e] [] pos) (bnd mo (De λk=>bnd me (Br k))):=.mk <| λA P env s ρ st K hb=>by
 refine wpAny_Call_method_lateS (hbase env) (hfew env) hline (wpAny_mono (ho.run A P env s ρ st K (B6 hb)) (λov s' q=>?_) λx s' q=>?_)
 ·refine H3.elim q λρ' d σ' e' I' x' r=>?_
  have K':=K.step I' x';have e2:bnd mo (De λk=>bnd me (Br k)) st=De (λk=>bnd me (Br k)) d ⟨st.loc,σ'⟩:=by simp only[bnd,e']
  rw[e2]at hb ⊢;have hev:backTo pos (starEach [e] env)=[(false,eval e env)]:=by rw[hst];rfl
  cases d with
  |ref k=>
   obtain⟨a,rfl,hk⟩:=r
   cases hp:σ'[k]? with
   |none=>exact absurd (by unfold De;simp only[hp]) hb
   |some p=>
    cases p with
    |list ds0=>
     have e5:De (λk=>bnd me (Br k)) (.ref k) ⟨st.loc,σ'⟩=bnd me (Br k) ⟨st.loc,σ'⟩:=by unfold De;simp only[hp]
     rw[e5]at hb ⊢;apply yo;intro _ k0
     obtain⟨vs,⟨n,hl⟩,_⟩:=I'.sto k a _ hk hp;apply k0
     refine⟨"list","list.append",F.plainAttrs_list,F.slot_list_append,F.type_list_append,⟨_,hl,rfl⟩,(λa' ea=>by cases ea;exact⟨_,hl,rfl⟩),?_⟩
     rw[hev];refine PySem.P.append_list (wpAny_mono (he.run A P env s' ρ' ⟨st.loc,σ'⟩ K' (B6 hb)) (λv s'' q=>?_) λy s'' q=>?_)
     ·refine H3.elim q λρ'' dx σ'' e3 I'' x'' rx=>?_
      have K'':=K'.step I'' x'';have e4:bnd me (Br k) ⟨st.loc,σ'⟩=Br k dx ⟨st.loc,σ''⟩:=by simp only[bnd,e3]
      rw[e4]at hb ⊢;have hk'':=x''.pre k a hk
      cases hds:σ''[k]? with
      |none=>exact absurd (by unfold Br;simp only[hds]) hb
      |some oo=>
       cases oo with
       |list ds=>
        by_cases hlen:ds.length<=sizeLine
        ·obtain⟨ws,⟨m,how⟩,rw'⟩:=I''.sto k a _ hk'' hds;refine⟨ws,m,by rw[rw'.size];exact hlen,how,?_⟩
         obtain⟨I3,x3⟩:=Tt (ds:=ds++[dx]) (g:=λxs=>xs.push v) K'' hk'' how (λS=>by
          have:=B7.of_all2 ((B7.all2 (B7.mono S _ _ rw')).append (.cons (Cn.mono S _ _ rx) .nil))
          simpa using this)
         exact⟨ρ'',.none,_,by unfold Br;simp only[hds,hlen,if_true],I3,(x'.trans x'').trans x3,rfl⟩
        ·exact absurd (by unfold Br;simp only[hds,hlen,if_false]) hb
       |_=>exact absurd (by unfold Br;simp only[hds]) hb
     ·exact C1.tr (C1.bnd q) x'
    |_=>exact absurd (by unfold De;simp only[hp]) hb
  |_=>exact absurd rfl hb
 ·exact C1.bnd q
theorem zAj{o:Expr}{mo:Mn D}{apos pos:Pos}(ho:SE G C o mo)
  (hbase:∀env,attributeBase o (Str.ofString "clear") env (eval o env)=eval o env)
  (hfew:∀env,methodCallForm (([]:List Expr).length+([]:List Keyword).length) (backTo pos (starEach [] env)) (backToKw pos (keywordEach [] env))=true) (hline:(apos.endLine==pos.line)=true):
  SE G C (.Call (.Attribute o (Str.ofString "clear") apos) [] [] pos) (bnd mo (De Ez)):=.mk <| λA P env s ρ st K hb=>by
 refine wpAny_Call_method_lateS (hbase env) (hfew env) hline (wpAny_mono (ho.run A P env s ρ st K (B6 hb)) (λov s' q=>?_) λx s' q=>?_)
 ·refine H3.elim q λρ' d σ' e' I' x' r=>?_
  have K':=K.step I' x';have e2:bnd mo (De Ez) st=De Ez d ⟨st.loc,σ'⟩:=by simp only[bnd,e']
  rw[e2]at hb ⊢
  cases d with
  |ref k=>
   obtain⟨a,rfl,hk⟩:=r
   cases hp:σ'[k]? with
   |none=>exact absurd (by unfold De;simp only[hp]) hb
   |some p=>
    cases p with
    |list ds0=>
     have e5:De Ez (.ref k) ⟨st.loc,σ'⟩=Ez k ⟨st.loc,σ'⟩:=by unfold De;simp only[hp]
     rw[e5]at hb ⊢;by_cases hlen:ds0.length<=sizeLine
     ·apply yo;intro _ k0
      obtain⟨vs,⟨n,hl⟩,rr⟩:=I'.sto k a _ hk hp;apply k0
      refine⟨"list","list.clear",F.plainAttrs_list,F.slot_list_clear,F.type_list_clear,⟨_,hl,rfl⟩,(λa' ea=>by cases ea;exact⟨_,hl,rfl⟩),?_⟩
      refine PySem.P.clear_list hl ?_ (by rw[rr.size];exact hlen)
      obtain⟨I3,x3⟩:=Tt (ds:=[]) (g:=λ_=> #[]) K' hk hl (λS=>by exact(show B7 _ _ _ _ _ from rfl))
      exact⟨ρ',.none,_,by unfold Ez;simp only[hp,hlen,if_true],I3,x'.trans x3,rfl⟩
     ·exact absurd (by unfold Ez;simp only[hp,hlen,if_false]) hb
    |_=>exact absurd (by unfold De;simp only[hp]) hb
  |_=>exact absurd rfl hb
 ·exact C1.bnd q
theorem zDM{e:Expr}{pos:Pos}{m:Mn D}(h:SE G C e m) (hsw:∀env,swapsWith e none pos.line env=pure false):SS G C (.Expr e pos) (bnd m Dr):=.mk <| λA P env s ρ st K W hb=>by
 refine wpAny_Expr ?_ (by unfold interactive;rw[K.frm.kind];rfl) (hsw env)
 refine wpAny_mono (h.run A P env s ρ st K (B6 hb)) (λv s' q=>?_) λx s' q=>?_
 ·refine H3.elim q λρ' d σ' e I' x' r=>?_
  have e2:bnd m Dr st=Dr d ⟨st.loc,σ'⟩:=by simp only[bnd,e]
  rw[e2]at hb ⊢
  cases d with
  |none=>
   cases(show v=.none from r)
   exact⟨ρ',.next,⟨st.loc,σ'⟩,rfl,I',x'.nil,K.frm.keep K.inv x',rfl⟩
  |_=>exact absurd rfl hb
 ·exact C1.toS K q
end
section
open W
noncomputable def Nx (m:Mn D):List D->Mn D
 |[d]=>λst=>match m ⟨upd Bh 0 d,st.sto⟩with
  |.ok d' st'=>.ok d' ⟨st.loc,st'.sto⟩
  |.exc c st'=>.exc c ⟨st.loc,st'.sto⟩
  |.bot=>.bot
 |_=>botM
structure zJQ (h:Heap) (f:Addr) (fd:FuncData) (x:Str) (e:Expr):Prop where
 obj:∃o,h.get? f=some o/\o.data=.func fd
 body:fd.body=.expr e
 glob:fd.globals=mainGlobals
 clo:fd.closure=[]
 bi:fd.builtins=builtinsNs
 kind:fd.scope.kind=.function
 co:fd.scope.isCoroutine=false
 gen:fd.scope.isGenerator=false
 bind:∀v:Value,bindArgs fd ⟨[v],[]⟩=pure [(x,v)]
 par:fd.scope.names.lookup x=some .local
 nocell:∀y,y∈fd.scope.names->y.2≠.cell
 nofree:∀y,y∈fd.scope.names->y.2≠.free
 code:h.CodeRec fd.code fd.qualname
section
variable {G:Gd}{C:Cx}{A:Around}{P:List Addr}{env:Env}{s:Shared}{ρ:List Addr}{σ:Bm}{st:St}
theorem zHk{f:Addr}{fd:FuncData}{x:Str}{e:Expr}{n:Nat}{m:Mn D}(Li:zJQ s.heap f fd x e) (hlim:G.h0.NoLimit) (hb:SE G ⟨fd.scope.names,[x],n,false,.none,""⟩ e m):Yc G (n+1) f (Nx m) s ρ σ:=by
 intro A env₀ loc ds vs R I B r hbot;obtain⟨d,rfl⟩:∃d,ds=[d]:=by
  cases ds with
  |nil=>exact absurd rfl hbot
  |cons d ds'=>cases ds' with
   |nil=>exact⟨d,rfl⟩
   |cons _ _=>exact absurd rfl hbot
 obtain⟨v,_,rfl,rv,rfl⟩:=r;obtain⟨o,ho,hdata⟩:=Li.obj;have g0:B8 G.h0 s.heap:=I.base
 refine wpAny_call (kla_callFunE (by have:=R.depth;show A.depth<1000;omega) ho hdata Li.co Li.gen Li.body Li.code ?_)
 simp only[Li.bind v];refine wpAny_pure (wpAny_newFunctionEnv Li.nocell (λy m=>by rw[lq0 m];exact Li.par) (λh₁ hns hsb=>⟨(hlim.keeps g0).fresh _ hsb,?_⟩) Li.kind)
 generalize hE:newEnv fd.scope s.heap.objs.size fd.globals fd.closure (fd.qualname++".<locals>.") (some f) fd.code none fd.builtins=env
 have eloc:env.locals=s.heap.objs.size:=by rw[←hE];rfl
 have escope:env.scope=fd.scope:=by rw[←hE];rfl
 have ekind:∀x,env.kindOf x=fd.scope.names.lookup x:=λx=>by unfold Env.kindOf;rw[escope]
 have eframe:env.frame=some env.locals:=by rw[←hE];rfl
 have ecells:env.cells=[]:=by rw[←hE];exact Li.clo
 have g1:B8 s.heap h₁:=λb o e=>(hsb.2 b (Nat.ne_of_lt (Heap.lt_size e))).trans (Heap.get?_push_of_some _ e)
 have z1:s.heap.objs.size<=h₁.objs.size:=by rw[hsb.1,Heap.size_push];exact Nat.le_succ _
 have I₁:Cy G {s with heap:=h₁,toks:=s.toks+[(x,v)].length} ρ σ:=I.grow g1 z1 _
 have nof:∀y,env.kindOf y=some .cell∨env.kindOf y=some .free->False:=λy h=>by
  rw[ekind]at h;rcases h with h|h
  ·exact Li.nocell _ (mem_of_lookup h) rfl
  ·exact Li.nofree _ (mem_of_lookup h) rfl
 have Fm:Ho G [x] [env.locals] env h₁ ρ (upd Bh 0 d):={
  kind:=by rw[escope];exact Li.kind
  glob:=by rw[←hE];exact Li.glob
  bi:=by rw[←hE];exact Li.bi
  ns:=⟨_,by rw[eloc];exact hns,λi y e k d' hd'=>by
   cases i with
   |zero=>
    cases e;simp only[upd,if_true]at hd'
    cases hd';exact⟨v,by simp[List.lookup],Cn.mono g1.stb _ _ rv⟩
   |succ i=>cases e⟩
  cell:=λi y e k=>(nof y k).elim
  cok:=λy c e=>by rw[ecells]at e;cases e
  cinj:=λy z c e=>by rw[ecells]at e;cases e
  lrho:=by rw[eloc];exact I.size_notin
  lP:=List.mem_singleton.mpr rfl
  own:=λp mp=>⟨by rw[lq0 mp,eloc];exact I.h0_size,.inl (lq0 mp)⟩
  tnd:=by simp}
 obtain⟨fs,hfs⟩:=B.1;have hfr:(A.deeper env).frames=some (env::fs):=Around.frames_deeper hfs
 have hff:FF G h₁ ρ (env::fs):=λe me=>by
  rcases List.mem_cons.mp me with rfl|me
  ·apply yo;intro _ k0
   obtain⟨mm,n,_⟩:=Fm.ns;obtain⟨oL,es,ep,hoL,hdL,_⟩:=n;apply k0
   exact⟨by rw[escope,Li.kind];decide,e.locals,oL,es,ep,eframe,by rw[eloc];exact I.h0_size,Fm.lrho,hoL,hdL⟩
  ·exact(B.2 fs hfs).keep (B8.ev g1 z1) e me
 have K:Ok G ⟨fd.scope.names,[x],n,false,.none,""⟩ (A.deeper env) [env.locals] env {s with heap:=h₁,toks:=s.toks+[(x,v)].length} ρ ⟨upd Bh 0 d,σ⟩:={
  room:=⟨λ_=>R.hd,by have:=R.depth;show A.depth+1+n<=900;omega,by have:=R.units;show A.units+3+10*n<=9000;omega⟩
  sees:=⟨λx h=>(ekind x).trans h,λx h=>(ekind x).trans h,λx h=>.inr ((ekind x).trans h),λx h=>(ekind x).trans h⟩
  inv:=I₁
  frm:=Fm
  stk:=⟨⟨env,fs,env.locals,hfr,eframe,eframe⟩,λfs' e=>by rw[hfr]at e;cases e;exact hff⟩
  code:=.inl rfl
  qual:=.inl rfl}
 have hnb:m ⟨upd Bh 0 d,σ⟩≠.bot:=λz=>hbot (by unfold Nx;dsimp only;rw[z])
 have back:∀{s':Shared}{ρ':List Addr},Ev [] h₁ ρ s'.heap ρ'->Ev [] s.heap ρ s'.heap ρ':=λx=>(B8.ev g1 z1).trans x
 refine kla_codeExpr (wpAny_mono (hb.run (A.deeper env) [env.locals] env _ ρ _ K hnb) (λw s' q=>?_) λw s' q=>?_)
 ·refine H3.elim q λρ' d' σ' e I' x' r'=>?_
  exact⟨ρ',d',σ',by unfold Nx;dsimp only;rw[e],I',back x',r'⟩
 ·obtain⟨ρ',c,σ',a',e,I',x',rfl,fl⟩:=q;have K':=K.step I' x';refine Qh (n:=h₁.objs.size) K'.stk fl x'.size λh'' N T=>?_
  exact⟨ρ',c,σ',a',by unfold Nx;dsimp only;rw[e],N.inv I' (λb z=>I₁.h0_le z) s'.toks,back (N.ev x'),rfl,T.fly.from z1⟩
noncomputable def Ic (kt:Nat) (T:Addr) (l c:Nat) (q:Str):Mn Unit:=λst=>match st.sto[kt]? with
 |some (.ctab T' l' c' q' k)=>if T'=T/\l'=l/\c'=c/\q'=q then(match k with
  |none=>.ok () ⟨st.loc,st.sto.set kt (.ctab T l c q (some st.sto.length))++[.code q]⟩
  |some k=>match st.sto[k]? with
   |some (.code q')=>if q'=q then .ok () st else .bot
   |_=>.bot)else .bot
 |_=>.bot
structure zBw (G:Gd) (c T:Addr):Prop where
 hd:CodeHd G.h0 c T
 bi:∃mg bm ob,G.h0.Ns mainGlobals mg∧mg "__builtins__"=some (.ref bm)∧bm≠builtinsNs∧G.h0.get? bm=some ob∧ob.cls=.type "module"∧ob.dict=some builtinsNs∧ob.data=.plain
 lim:G.h0.NoLimit
theorem Nq{scope:Scope}(h:I9 scope.names=true) (env:Env):closureFor scope env=pure []:=by
 unfold closureFor;have go:∀(l:List (Str×NameKind)) (cs:List (Str×Addr)),I9 l=true->(forIn l cs λ(x:Str×NameKind) cs=>(if(x.2==NameKind.free)=true then(do let c ←cellOf env x.1;pure (ForInStep.yield ((x.1,c)::cs)))else pure (ForInStep.yield cs):Sem (ForInStep (List (Str×Addr)))))=pure cs:=by
  intro l
  induction l with
  |nil=>intro cs _;rfl
  |cons x l ih=>
   intro cs h;simp only[I9,List.all_cons,Bool.and_eq_true]at h;have hx:(x.2==NameKind.free)=false:=by simpa using h.1
   rw[List.forIn_cons,hx];exact ih cs h.2
 have:=go scope.names [] h
 simp only[this,pure_bind]
theorem Cy.note(I:Cy G s ρ σ){kt:Nat}{T c':Addr}{l c:Nat}{q:Str}{h':Heap}(hk:ρ[kt]? =some T) (hx:Heap.ExtBut T s.heap h') (hge:s.heap.objs.size<=c') (hlt:c'<h'.objs.size) (hc:Xu h' c' q)
  (hT:h'.get? T=some (zI2 #[rawInt l,rawInt c,.ref c'])) (t:Nat):Cy G {s with heap:=h',toks:=t} (ρ++[c']) (σ.set kt (.ctab T l c q (some σ.length))++[.code q])/\Ev [] s.heap ρ h' (ρ++[c']):=by
 have hTm:T∈ρ:=List.mem_of_getElem? hk
 have hcr:c'∉ρ:=λm=>Nat.lt_irrefl _ (Nat.lt_of_lt_of_le (I.mem_lt m) hge)
 have hz:s.heap.objs.size<=h'.objs.size:=Nat.le_of_lt (Nat.lt_of_le_of_lt hge hlt)
 have keep:∀b o,b∉ρ->s.heap.get? b=some o->b∉ρ++[c']/\h'.get? b=some o:=λb o n e=>
  ⟨λm=>(List.mem_append.mp m).elim n λm=>Nat.lt_irrefl _ (Nat.lt_of_lt_of_le (Heap.lt_size e) (lq0 m▸hge)),hx b o (λz=>n (z▸hTm)) e⟩
 have S:Ks s.heap ρ h' (ρ++[c']):=⟨Ej,λa _ n t=>let⟨k,e⟩:=t;let⟨n',e'⟩:=keep a _ n e;⟨n',k,e'⟩,λa _ n t=>let⟨o,e,r⟩:=t;let⟨n',e'⟩:=keep a o n e;⟨n',o,e',r⟩⟩
 refine⟨⟨λb o e=>hx b o (λz=>?_) (I.base b o e),λa m=>?_,?_,by simp[I.len],λk a o e1 e2=>?_,I.os,I.gens⟩,⟨Ej,λb o e n _=>⟨o,(keep b o n e).2,.refl o⟩,λa m=>(List.mem_append.mp m).imp id λm=>(by rw[lq0 m];exact hge),hz⟩⟩
 ·rw[z,I.new T hTm]at e;cases e
 ·rcases List.mem_append.mp m with m|m
  ·exact I.new a m
  ·rw[lq0 m];exact I.h0_le hge
 ·refine List.nodup_append.mpr ⟨I.nodup,by simp,λa m b m' e=>?_⟩
  rw[lq0 m']at e;exact hcr (e▸m)
 ·by_cases hk':k<ρ.length
  ·rw[List.getElem?_append_left hk']at e1;rw[List.getElem?_append_left (by rw[List.length_set,←I.len];exact hk')]at e2
   by_cases hj:k=kt
   ·subst hj;rw[hk]at e1;cases e1;rw[List.getElem?_set_self (by rw[←I.len];exact hk')]at e2
    cases e2;exact⟨rfl,c',by rw[←I.len];simp,hT⟩
   ·rw[List.getElem?_set_ne (Ne.symm hj)]at e2;exact(I.sto k a o e1 e2).mono S (λo ho=>hx a o (λz=>hj (Bp I.nodup (z▸e1) hk)) ho) hz
  ·have hkl:=(lq2 e1).1;have:k=ρ.length:=by simp at hkl;omega
   subst this;rw[List.getElem?_append_right (by rw[List.length_set,I.len];exact Nat.le_refl _),List.length_set,I.len,Nat.sub_self]at e2
   simp at e1 e2
   subst e1 e2;exact hc
inductive zFt (G:Gd) (s:Shared) (ρ:List Addr) (st:St) (q:Str) (params:Arguments) (body:Expr) (scope:Scope) (r:O8 Unit) (v:Value) (s':Shared):Prop
 |mk (f:Addr) (ρ':List Addr) (σ':Bm) (pm ctv:Value) (c':Addr) (kc:Nat):v=.ref f→r=.ok () ⟨st.loc,σ'⟩→Cy G s' ρ' σ'→Ev [] s.heap ρ s'.heap ρ'→f∉ρ'→s'.heap.get? f=some (kla_obj (Str.ofString "<lambda>") q params body scope [] pm c' ctv)→ρ'[kc]? =some c'→σ'[kc]? =some (.code q)→
  zFt G s ρ st q params body scope r v s'
theorem zC1{c T:Addr}{kt:Nat}{q:Str}{params:Arguments}{body:Expr}{scope:Scope}{pos:Pos}{E:Value→Shared→Prop}(LG:zBw G c T) (K:Ok G C A P env s ρ st) (hcd:C.code=.ref c) (hq:C.qual++"<lambda>"=q) (hcl:I9 scope.names=true) (hdf:∀env,defaultsOf params env=([],[]))
  (hb:Ic kt T pos.line pos.col q st≠.bot):wpAny G.M A (eval (.Lambda params body scope pos) env) (λv s'=>zFt G s ρ st q params body scope (Ic kt T pos.line pos.col q st) v s') E s:=by
 have hec:env.code=.ref c:=(K.code.resolve_left (λz=>by rw[hcd]at z;cases z)).trans hcd
 have heq:env.qual++"<lambda>"=q:=by rw[K.qual.resolve_left (λz=>by rw[hcd]at z;cases z)];exact hq
 have I:=K.inv;obtain⟨mg,bm,ob,b0,b1,b2,b3,b4,b5,b6⟩:=LG.bi;have hgs:s.heap.Ns mainGlobals mg:=b0.keeps I.base
 refine kla_eval (hdf env) ?_
 rw[heq]
 cases e1:st.sto[kt]? with
 |none=>exact absurd (by unfold Ic;rw[e1]) hb
 |some o=>
  cases o with
  |ctab T' l' c₁ q' k=>
   by_cases hh:T'=T/\l'=pos.line/\c₁=pos.col/\q'=q
   ·obtain⟨rfl,rfl,rfl,rfl⟩:=hh;obtain⟨a,ha⟩:∃a,ρ[kt]? =some a:=⟨_,List.getElem?_eq_getElem (by rw[I.len];exact(lq2 e1).1)⟩
    have ho:=I.sto kt a _ ha e1;obtain⟨rfl,ho⟩:=ho;have hTn:G.h0.get? a=none:=I.new a (List.mem_of_getElem? ha)
    have hgP:mainGlobals≠a:=λz=>by
     apply yo;intro _ k0
     obtain⟨o,es,ep,e,_⟩:=b0;apply k0
     rw[z,hTn]at e;cases e
    have hbP:bm≠a:=λz=>by rw[z,hTn]at b3;cases b3
    have hbG:bm≠mainGlobals:=λz=>by
     obtain⟨o,es,ep,e,hd,_⟩:=b0;rw[z,e]at b3;cases b3;rw[hd]at b6;cases b6
    have CH:CodeHd s.heap c a:=LG.hd.keeps I.base
    cases k with
    |none=>
     have hP:s.heap.get? a=some (tabObj #[]):=ho
     rw[makeFunction_eq];simp only[List.zip_nil_right,List.filterMap_nil,List.isEmpty_nil,if_true,pure_bind];unfold makeTail;rw[Nq hcl,K.frm.glob];refine wpAny_bind (wpAny_pure ?_)
     dsimp only[List.isEmpty_nil,if_true]
     refine wpAny_bind (wpAny_pure ?_)
     refine wpAny_bind (wpAny_functionCodeX hec (CH.code hP trivial) (CH.tab hP) rfl λc' h' tk hx hge hlt _ hrec htb hP'=>?_)
     apply yo;intro _ k0
     obtain⟨P',_,_,⟨⟨oc,vs,o1,o2,o3,_⟩,_⟩⟩:=hP';obtain⟨c₂,oc₂,vs₂,tq,z,y1,y2,y3⟩:=hrec;apply k0
     cases z;rw[o1]at y1;cases y1;have hg':=hgs.extBut hx hgP;refine wpAny_bind (wpAny_builtinsFor hg' b1 b2 (hx _ _ hbP (I.base _ _ b3)) b4 b5 b6 ?_)
     refine wpAny_bind (wpAny_nsGet hg' ?_)
     refine wpAny_bind (wpAny_pure (wpAny_newObj_type ?_ (by size_fits)))
     obtain⟨I1,x1⟩:=I.note (q:=q') (l:=pos.line) (c:=pos.col) ha hx hge hlt ⟨oc,vs₂,tq,o1,o2,y2,y3⟩ htb.2 tk
     have g2:=B8.push h' (kla_obj (Str.ofString "<lambda>") q' params body scope [] ((mg "__name__").getD .none) c' .none);refine⟨h'.objs.size,_,_,(mg "__name__").getD .none,.none,c',ρ.length,rfl,by unfold Ic;rw[e1];simp,I1.grow g2 B5 tk,x1.trans (g2.ev B5),I1.size_notin,Heap.get?_push_size _ rfl,by simp,by rw[I.len,List.getElem?_append_right (by rw[List.length_set];exact Nat.le_refl _)];simp⟩
    |some k=>
     obtain⟨c',hc',hP⟩:=ho;have hP:s.heap.get? a=some (tabObj #[rawInt pos.line,rawInt pos.col,.ref c']):=hP
     cases e2:st.sto[k]? with
     |none=>exact absurd (by unfold Ic;rw[e1];dsimp only;rw[e2];simp) hb
     |some o2=>
      cases o2 with
      |code q₂=>
       by_cases hq2:q₂=q'
       ·subst hq2;refine kla_makeFunctionHit (mg:=mg) (Nq hcl env) K.frm.glob hgs hec CH hP (by trivial) (codeAmong_snoc [] trivial rfl) ⟨bm,ob,b1,b2,hbG,hbP,I.base _ _ b3,b4,b5,b6⟩ λctv h' tk hk hz=>?_
        have g2:=B8.push h' (kla_obj (Str.ofString "<lambda>") q₂ params body scope [] ((mg "__name__").getD .none) c' ctv);have I1:=I.grow (h':=h') hk hz tk;have g1:Ev [] s.heap ρ h' ρ:=B8.ev hk hz
        exact⟨h'.objs.size,_,_,(mg "__name__").getD .none,ctv,c',k,rfl,by unfold Ic;rw[e1];dsimp only;rw[e2];simp,I1.grow g2 B5 tk,g1.trans (g2.ev B5),I1.size_notin,Heap.get?_push_size _ rfl,hc',e2⟩
       ·exact absurd (by unfold Ic;rw[e1];dsimp only;rw[e2];simp[hq2]) hb
      |_=>exact absurd (by unfold Ic;rw[e1];dsimp only;rw[e2];simp) hb
   ·exact absurd (by unfold Ic;rw[e1];dsimp only;rw[if_neg hh]) hb
  |_=>exact absurd (by unfold Ic;rw[e1]) hb
theorem W4{c T:Addr}{kt:Nat}{q:Str}{params:Arguments}{body:Expr}{scope:Scope}{n:Nat}{x:Str}{m:Mn D}{e:Expr}{ms:Mn (List D)}{sp lp pos kp:Pos}(hs:Dj G (Str.ofString "sorted") (.builtin "sorted")) (hsn:C.names.lookup (Str.ofString "sorted")=some .globalImplicit)
  (LG:zBw G c T) (hcd:C.code=.ref c) (hq:C.qual++"<lambda>"=q) (hcl:I9 scope.names=true) (hce:∀y,y∈scope.names→y.2≠.cell) (hdf:∀env,defaultsOf params env=([],[])) (hk:scope.kind=.function) (hco:scope.isCoroutine=false) (hgen:scope.isGenerator=false) (hpar:scope.names.lookup x=some .local)
  (hbi:∀pm c' ctv v,bindArgs (kla_fn (Str.ofString "<lambda>") q params body scope [] pm (.ref c') ctv) ⟨[v],[]⟩=pure [(x,v)])
  (hm:SE G ⟨scope.names,[x],n,false,.none,""⟩ body m) (hC:C.inh=false) (hlv:n+2≤C.lvl) (he:SA G C [e] ms) (hst:∀env,starEach [e] env=[(false,eval e env)]):
  SE G C (.Call (.Name (Str.ofString "sorted") sp) [e] [⟨some (Str.ofString "key"),.Lambda params body scope lp,kp⟩] pos) (bnd ms λds=>bnd (Ic kt T lp.line lp.col q) λ_=>Bo (Nx m) ds):=.mk <| λA P env s ρ st K hb=>by
 refine wpAny_bind (F0 K hs hsn (by decide) ?_)
 have hev:backTo pos (starEach [e] env)=(false,eval e env)::backTo pos (starEach [] env):=by rw[hst];rfl
 have h1:=he.run A P env s ρ st pos K (B6 hb);refine callWith_kw (wpAny_mono h1 (λvs s' q'=>?_) λx s' q=>?_) hev (by rw[hev];rfl)
 ·refine H3.elim q' λρ' ds σ' e' I' x' r=>?_
  have K':=K.step I' x';have e2:bnd ms (λds=>bnd (Ic kt T lp.line lp.col q) λ_=>Bo (Nx m) ds) st=bnd (Ic kt T lp.line lp.col q) (λ_=>Bo (Nx m) ds) ⟨st.loc,σ'⟩:=by unfold bnd;rw[e']
  rw[e2]at hb ⊢;refine kws_cons (wpAny_mono (zC1 (kt:=kt) LG K' hcd hq hcl hdf (B6 hb)) (λv s2 q2=>?_) λ_ _ z=>z)
  obtain⟨f,ρ2,σ2,pm,ctv,c',kc,rfl,e3,I2,x2,hfn,hfo,hkc,hsc⟩:=q2;have K2:=K'.step I2 x2;refine kws_nil ?_
  have e4:bnd (Ic kt T lp.line lp.col q) (λ_=>Bo (Nx m) ds) ⟨st.loc,σ'⟩=Bo (Nx m) ds ⟨st.loc,σ2⟩:=by unfold bnd;rw[e3]
  rw[e4]at hb ⊢;have r2:=B7.mono (x2.stb I' .nil) _ _ r;refine wpAny_mono (Qp (n:=n+1) (λs3 x3=>?_) hC K2 hlv r2 hb) (λw s'' q=>?_) λw s'' q=>?_
  ·intro A3 env3 loc3 ds3 vs3 R3 I3 B3 r3 hb3;obtain⟨of,hof,hsame⟩:=x3.keep f _ hfo hfn (λm=>nomatch m)
   have hsf:Yc G (n+1) f (Nx m) s3 ρ2 σ2:=zHk (fd:=kla_fn (Str.ofString "<lambda>") q params body scope [] pm (.ref c') ctv) ⟨⟨of,hof,hsame.2.1⟩,rfl,rfl,rfl,rfl,hk,hco,hgen,hbi pm c' ctv,hpar,hce,λy my z=>by
    have:=List.all_eq_true.mp hcl y my
    rw[z]at this;simp at this,(let⟨oc,vs,t,y1,_,y3,y4⟩:=I3.sto kc c' _ hkc hsc;⟨c',oc,vs,t,rfl,y1,y3,y4⟩)⟩ LG.lim hm
   exact hsf A3 env3 loc3 ds3 vs3 R3 I3 B3 r3 hb3
  ·exact H3.tr (H3.tr q x2) x'
  ·exact C1.tr (C1.tr q x2) x'
 ·exact C1.bnd q
end
end
noncomputable def ob {α β:Type}(o:Option α) (f:α->Option β):Option β:=match o with
 |some a=>f a
 |none=>none
theorem zEi{α β:Type}{o:Option α}{f:α->Option β}{b:β}(h:ob o f=some b):∃a,o=some a/\f a=some b:=by
 cases o with
 |none=>cases h
 |some a=>exact⟨a,rfl,h⟩
theorem Ao{α β:Type}{o:Option α}{f:α->Option β}{b:β}{P:Prop}(h:ob o f=some b) (k:∀a,o=some a->f a=some b->P):P:=let⟨a,x,y⟩:=zEi h;k a x y
noncomputable def gd {α:Type}(c:Bool) (o:Option α):Option α:=match c with
 |true=>o
 |false=>none
theorem Bu{α:Type}{c:Bool}{o:Option α}{a:α}{P:Prop}(h:gd c o=some a) (k:c=true->o=some a->P):P:=by
 cases c with
 |true=>exact k rfl h
 |false=>cases h
theorem Al{α:Type}{a b:α}{P:α->Prop}(h:some a=some b) (k:P a):P b:=by cases h;exact k
theorem B0{α:Type}{b:α}{P:Prop}(h:none=some b):P:=by cases h
theorem Ay{a b:Bool}{P:Prop}(h:(a&&b)=true) (k:a=true->b=true->P):P:=by
 cases a with
 |true=>exact k rfl h
 |false=>cases h
theorem not_true{b:Bool}(h:(!b)=true):b=false:=by cases b<;>first|rfl|cases h
noncomputable def Pn (x:Str):List Str->Option Nat
 |[]=>none
 |y::r=>match y==x with
  |true=>some 0
  |false=>ob (Pn x r) λi=>some (i+1)
theorem Dw{x:Str}:∀{l:List Str}{i:Nat},Pn x l=some i->l[i]? =some x
 |[],i,h=>by cases h
 |y::r,i,h=>by
  have h:(match y==x with|true=>some 0|false=>ob (Pn x r) λi=>some (i+1))=some i:=h
  cases e:y==x with
  |true=>rw[e]at h;cases h;simp[beq_iff_eq.mp e]
  |false=>rw[e]at h;exact Ao h λj hj h=>Al (P:=λi=>(y::r)[i]? =some x) h (by simpa using Dw hj)
noncomputable def Ci (e:Expr):Bool:=!(Nat.beq e.ctorIdx 22)
theorem Cu{e:Expr}{es:List Expr}(h:Ci e=true) (env:Env):starEach (e::es) env=(false,eval e env)::starEach es env:=by cases e<;>first|rfl|cases h
theorem Na{e:Expr}{es:List Expr}(h:Ci e=true) (env:Env):assignEach (e::es) env=(false,assign e env)::assignEach es env:=by cases e<;>first|rfl|cases h
theorem Gw{pos:Pos}(env:Env):∀{es:List Expr},es.all Ci=true->(backTo pos (starEach es env)).any (·.1)=false
 |[],_=>rfl
 |e::es,h=>Ay h λh1 h2=>by
  rw[Cu h1];show(false||(backTo pos (starEach es env)).any (·.1))=false
  rw[Bool.false_or];exact Gw env h2
theorem Ss{pos:Pos}(env:Env):∀{es:List Expr},es.all Ci=true->(backTo pos (starEach es env)).all (!·.1)=true
 |[],_=>rfl
 |e::es,h=>Ay h λh1 h2=>by
  rw[Cu h1];show(true&&(backTo pos (starEach es env)).all (!·.1))=true
  rw[Bool.true_and];exact Ss env h2
theorem Wa{pos:Pos}(env:Env){es:List Expr}(h:es.all Ci=true) (hl:decide (es.length<30)=true):methodCallForm (es.length+([]:List Keyword).length) (backTo pos (starEach es env)) (backToKw pos (keywordEach [] env))=true:=by
 unfold methodCallForm;rw[Ss env h];exact hl
noncomputable def W5 (e:Expr):Bool:=!(Nat.beq e.ctorIdx 7)
theorem R9{e:Expr}(h:W5 e=true) (env:Env) (x:Value):foldedSetIterable e env x=pure x:=by cases e<;>first|rfl|cases h
noncomputable def M4 (e:Expr):Bool:=!(Nat.beq e.ctorIdx 8||Nat.beq e.ctorIdx 9||Nat.beq e.ctorIdx 10)
theorem Oo{e:Expr}(h:M4 e=true) (t:Option Expr) (l:Nat) (env:Env):swapsWith e t l env=pure false:=by cases e<;>first|rfl|cases h
noncomputable def Wg:Expr->Option (Expr×List Expr×List Keyword)
 |.Call f as ks _=>some (f,as,ks)
 |_=>none
theorem zFF{e:Expr}{q:Expr×List Expr×List Keyword}(h:Wg e=some q):∃p,e=.Call q.1 q.2.1 q.2.2 p:=by
 cases e with
 |Call f as ks p=>cases h;exact⟨p,rfl⟩
 |_=>exact B0 h
noncomputable def Qq (e:Expr):Bool:=match Wg e with
 |some q=>!q.2.1.isEmpty
 |none=>true
theorem S4{o:Expr}{name:Str}(h:Qq o=true) (env:Env):attributeBase o name env (eval o env)=eval o env:=by
 generalize eval o env=w
 cases o with
 |Call f as ks p=>
  cases as with
  |nil=>cases h
  |cons a r=>cases f<;>rfl
 |_=>rfl
noncomputable def Mu (e:Expr):Bool:=!(Nat.beq e.ctorIdx 0||Nat.beq e.ctorIdx 3||Nat.beq e.ctorIdx 5||Nat.beq e.ctorIdx 15)
theorem zDw{e:Expr}(h:Mu e=true) (env:Env) (w:Sem Value):isTrue e env w=(do let v ←w;standAt e.pos;holding [v] (truthy v)):=by
 cases e<;>first|rfl|cases h
noncomputable def Sv (e:Expr):Bool:=!(Nat.beq e.ctorIdx 26)
theorem zDS{e:Expr}(h:Sv e=true) (o i:Value):subscripted e false o i=operate [o,i] (getItem o i):=by cases e<;>first|rfl|cases h
noncomputable def Gs:Expr->Option Str
 |.Name x _=>some x
 |_=>none
structure W3 where
 e:Cx->Expr->Option (Mn D)
 b:Cx->Expr->Option (Mn Bool)
 s:Cx->List Stmt->Option (Mn Fl)
structure Ct (G:Gd) (X:W3):Prop where
 e:∀C x m,X.e C x=some m->SE G C x m
 b:∀C x m,X.b C x=some m->SB G C x m
 s:∀C x m,X.s C x=some m->Uh G C x m
structure Tb where
 fns:List (Str×(Addr×Nat×(List D->Mn D)))
 nums:List (Str×Int)
 bf:List (Str×(String×(List D->Mn D)))
 tv:List (Str×(String×(List D->Mn D)))
 ts:List (Str×(String×Bool×(List D->Mn Ix)))
 sm:List (Str×(String×(Str->List D->Mn D)))
 ty:List (Str×String)
 bin:Operator->Option (D->D->Mn D)
 cmp:CmpOp->Option (D->D->Mn D)
 me:Str->Mn D->List (Mn D)->Option (Mn D)
 so:(List D->Mn D)->Option (List D->Mn D)
 sl:(Cx->Expr->Option (Mn D))->Cx->Expr->Option (List D->Mn D)
 xe:W3->Cx->Expr->Option (Mn D)
 xs:W3->Cx->Stmt->Option (Mn Fl)
noncomputable def X3 (e:Expr):Bool:=Nat.beq e.ctorIdx 25
noncomputable def zBJ (G:Gd) (F F':List D→Mn D):Prop:=∀(C:Cx) (g:Str) (f:Addr) (n:Nat) (e:Expr) (ms:Mn (List D)) (sp np pos kp:Pos),C.names.lookup (Str.ofString "sorted")=some .globalImplicit→D8 G g (.ref f)→C.names.lookup g=some .globalImplicit→(g==("__debug__":Str))=false→SF G n f F→C.inh=false→n+1≤C.lvl→SA G C [e] ms→(∀env,starEach [e] env=[(false,eval e env)])→
 SE G C (.Call (.Name (Str.ofString "sorted") sp) [e] [⟨some (Str.ofString "key"),.Name g np,kp⟩] pos) (bnd ms F')
theorem Yt{G:Gd}{F F':List D→Mn D}(hs:Dj G (Str.ofString "sorted") (.builtin "sorted")) (h:some (Bo F)=some F'):zBJ G F F':=λC g f n e ms sp np pos kp h1 h2 h3 h4 h5 h6 h7 h8 h9=>by
 obtain rfl:=Option.some.inj h;exact Z6 hs h1 h2 h3 h4 h5 h6 h7 h8 h9
structure D5 (G:Gd) (T:Tb):Prop where
 fns:∀f a n F,T.fns.lookup f=some (a,n,F)->D8 G f (.ref a)/\(∃o fd,G.h0.get? a=some o/\o.data=.func fd)/\SF G n a F
 nums:∀x i,T.nums.lookup x=some i->∃t,D8 G x (.int i t)
 bf:∀f n F,T.bf.lookup f=some (n,F)->Dj G f (.builtin n)/\BF G n F
 tv:∀f n F,T.tv.lookup f=some (n,F)->Dj G f (.type n)/\TF G n F
 ts:∀f n b F,T.ts.lookup f=some (n,b,F)->Dj G f (.type n)/\∃tg,Yk G n tg F/\∀t,(!b||X3 t)=true->tg t
 sm:∀f n F,T.sm.lookup f=some (n,F)->SM G f n F
 ty:∀f n,T.ty.lookup f=some n->Dj G f (.type n)/\Yg n
 isi:Dj G (Str.ofString "isinstance") (.builtin "isinstance")
 bin:∀op f,T.bin op=some f->H8 G op f
 cmp:∀op f,T.cmp op=some f->Ed G op f
 me:∀C o as name mo ms m apos pos,SE G C o mo->C2 (λa m=>SE G C a m) as ms->T.me name mo ms=some m->Qq o=true->as.all Ci=true->decide (as.length<30)=true->(apos.endLine==pos.line)=true->SE G C (.Call (.Attribute o name apos) as [] pos) m
 so:∀F F',T.so F=some F'->zBJ G F F'
 sl:∀X C v F e ms sp pos kp,(∀C x m,X C x=some m→SE G C x m)→T.sl X C v=some F→C.names.lookup (Str.ofString "sorted")=some .globalImplicit→SA G C [e] ms→(∀env,starEach [e] env=[(false,eval e env)])→
  SE G C (.Call (.Name (Str.ofString "sorted") sp) [e] [⟨some (Str.ofString "key"),v,kp⟩] pos) (bnd ms F)
 xe:∀X C e m,Ct G X->T.xe X C e=some m->SE G C e m
 xs:∀X C t m,Ct G X->T.xs X C t=some m->SS G C t m
noncomputable def G7 (C:Cx) (x:Str):Bool:=match C.names.lookup x with
 |some .globalImplicit=>true
 |_=>false
theorem Cw{C:Cx}{x:Str}(h:G7 C x=true):C.names.lookup x=some .globalImplicit:=by
 unfold G7 at h
 cases e:C.names.lookup x with
 |none=>rw[e]at h;cases h
 |some k=>rw[e]at h;cases k<;>first|rfl|cases h
noncomputable def zFd (T:Tb) (C:Cx) (x:Str):NameKind->Option (Mn D)
 |.local=>ob (Pn x C.tbl) λi=>some (A6 i)
 |.cell=>gd (!(x==("__classdict__":Str))) (ob (Pn x C.tbl) λi=>some (A6 i))
 |.free=>gd (!(x==("__classdict__":Str))) (ob (Pn x C.tbl) λi=>some (A6 i))
 |.globalImplicit=>ob (T.nums.lookup x) λi=>some (ret1 (.int i))
 |_=>none
noncomputable def zGE (T:Tb) (C:Cx) (x:Str):Option (Mn D):=gd (!(x==("__debug__":Str))) (ob (C.names.lookup x) (zFd T C x))
section
variable (T:Tb) (X:W3) (C:Cx)
noncomputable def Jr:List Expr->Option (Mn (List D))
 |[]=>some Ah
 |e::es=>gd (Ci e) (ob (X.e C e) λm=>ob (Jr es) λms=>some (A0 m ms))
noncomputable def zCf:List Expr->Option (List (Mn D))
 |[]=>some []
 |e::es=>ob (X.e C e) λm=>ob (zCf es) λms=>some (m::ms)
noncomputable def zIh (b:Bool) (x:Str):NameKind->Option (D->C3->Option C3)
 |.local=>ob (Pn x C.tbl) λi=>some (Ca i)
 |.cell=>gd b (ob (Pn x C.tbl) λi=>some (Ca i))
 |_=>none
noncomputable def zDo (b:Bool) (e:Expr):Option (D->C3->Option C3):=ob (Gs e) λx=>ob (C.names.lookup x) (zIh C b x)
noncomputable def zBR (b:Bool):List Expr->Option (List D->C3->Option C3)
 |[]=>some Op
 |t::r=>ob (zDo C b t) λf=>ob (zBR b r) λg=>some (Iv f g)
noncomputable def zHh (b:Bool):Expr->Option (D->C3->Option C3)
 |.Tuple ts _ _=>gd (!C.inh) (ob (zBR C b ts) λf=>some (Sf ts.length f))
 |.Name x p=>zDo C b (.Name x p)
 |_=>none
noncomputable def zKL (tgt:Expr) (as:List Expr) (f:Str):Option (String×Bool×(List D->Mn Ix))->Option (Mn Ix)
 |some (_,b,F)=>gd (!C.inh&&(!b||X3 tgt)&&!(f==("__debug__":Str))&&G7 C f&&as.all Ci&&!as.isEmpty) (ob (Jr X C as) λms=>some (bnd ms F))
 |none=>none
noncomputable def Uz:Expr->Option (Str×List Expr)
 |.Call (.Name f _) as [] _=>some (f,as)
 |_=>none
noncomputable def zDv (tgt e:Expr):Option (Mn Ix):=match ob (Uz e) λp=>ob (T.ts.lookup p.1) λq=>some (p,q)with
 |some (p,q)=>zKL X C tgt p.2 p.1 (some q)
 |none=>ob (X.e C e) λm=>some (bnd m Dy)
noncomputable def zJX:List Expr->Option (Mn Bool)
 |[]=>some (ret1 true)
 |c::r=>gd r.isEmpty (X.b C c)
noncomputable def K9 (names:List (Str×NameKind)):Nat->List Str->List Nat
 |_,[]=>[]
 |i,x::r=>bif names.lookup x==some .local then i::K9 names (i+1) r else K9 names (i+1) r
noncomputable def zJf (elt:Expr) (gs:List Comprehension) (scope:Scope):Option (Mn D):=match gs with
 |[]=>none
 |g::r=>gd (!C.inh&&r.isEmpty&&g.is_async==0&&zBK C scope (K9 scope.names 0 C.tbl)&&W5 g.iter)
  (ob (zDv T X C g.target g.iter) λmi=>ob (zHh ⟨scope.names,C.tbl,C.lvl,C.inh,C.code,C.qual⟩ false g.target) λtf=>ob (zJX X ⟨scope.names,C.tbl,C.lvl,C.inh,C.code,C.qual⟩ g.ifs) λmt=>ob (X.e ⟨scope.names,C.tbl,C.lvl,C.inh,C.code,C.qual⟩ elt) λme=>some (bnd mi (Dq (K9 scope.names 0 C.tbl) tf mt me)))
noncomputable def zJu:BoolOp->Mn D->Mn D->Mn D
 |.And=>Q2
 |.Or=>zIF
noncomputable def zJp:BoolOp->Mn Bool->Mn Bool->Mn Bool
 |.And=>Fa
 |.Or=>Hp
noncomputable def zJx (op:BoolOp):List Expr->Option (Mn D)
 |[]=>none
 |e::r=>match r with
  |[]=>X.e C e
  |_::_=>ob (X.e C e) λm=>ob (zJx op r) λn=>some (zJu op m n)
noncomputable def zKA (op:BoolOp):List Expr->Option (Mn Bool)
 |[]=>none
 |e::r=>match r with
  |[]=>X.b C e
  |_::_=>ob (X.b C e) λm=>ob (zKA op r) λn=>some (zJp op m n)
noncomputable def zGT:Option Expr->Option (Option (Mn D))
 |none=>some none
 |some e=>ob (X.e C e) λm=>some (some m)
noncomputable def zIw (f:Str) (as:List Expr):Option (Mn D):=match as with
 |a::t::r=>gd (f==Str.ofString "isinstance"&&r.isEmpty) (ob (Gs t) λt=>gd (G7 C t&&!(t==("__debug__":Str))) (ob (T.ty.lookup t) λtn=>ob (X.e C a) λm=>some (bnd m (Gb tn))))
 |_=>none
noncomputable def zBi (f:Str) (as:List Expr):Option (Mn D):=match T.fns.lookup f with
 |some (_,n,F)=>gd (!C.inh&&decide (n<=C.lvl)) (ob (Jr X C as) λms=>some (bnd ms F))
 |none=>match T.bf.lookup f with
  |some (_,F)=>gd (!C.inh) (ob (Jr X C as) λms=>some (bnd ms F))
  |none=>match T.tv.lookup f with
   |some (_,F)=>ob (Jr X C as) λms=>some (bnd ms F)
   |none=>zIw T X C f as
noncomputable def zF7 (f:Str) (as:List Expr) (v:Expr):Option Str->Option (Mn D)
 |some g=>gd (G7 C g&&!(g==("__debug__":Str))) (ob (T.fns.lookup g) λp=>gd (!C.inh&&decide (p.2.1+1≤C.lvl)) (ob (T.so p.2.2) λF=>ob (Jr X C as) λms=>some (bnd ms F)))
 |none=>ob (T.sl X.e C v) λF=>ob (Jr X C as) λms=>some (bnd ms F)
noncomputable def zFa (f:Str) (as:List Expr) (k:Keyword):Option (Mn D):=
 gd (f==Str.ofString "sorted"&&G7 C f&&k.arg==some (Str.ofString "key")&&as.length==1&&as.all Ci) (zF7 T X C f as k.value (Gs k.value))
noncomputable def zGC (f:Str) (as:List Expr):List Keyword->Option (Mn D)
 |[]=>gd (!(f==("__debug__":Str))&&G7 C f&&as.all Ci&&!as.isEmpty) (zBi T X C f as)
 |k::r=>gd r.isEmpty (zFa T X C f as k)
noncomputable def zBH (o:Expr) (name:Str) (as:List Expr):Option (Mn D):=match T.sm.lookup name with
 |some (_,F)=>gd (!as.isEmpty) (ob (X.e C o) λm=>ob (Jr X C as) λms=>some (bnd m (Hy λx=>bnd ms (F x))))
 |none=>ob (X.e C o) λm=>ob (zCf X C as) λms=>T.me name m ms
noncomputable def zCS:Const->Option (Mn D)
 |.int i=>some (ret1 (.int i))
 |.str x=>some (ret1 (.str x))
 |.bool b=>some (ret1 (.bool b))
 |.none=>some (ret1 .none)
 |_=>none
noncomputable def zKp (e:Expr):UnaryOp->Option (Mn D)
 |.Not=>ob (X.e C e) λm=>some (Zk m)
 |.USub=>ob (X.e C e) λm=>some (bnd m Sh)
 |_=>none
noncomputable def zI7 (l:Expr) (ops:List CmpOp) (rs:List Expr):Option (Mn D):=match ops with
 |op::o'=>(match rs with
  |r::r'=>gd (o'.isEmpty&&r'.isEmpty&&!behindInMarks op r) (ob (T.cmp op) λf=>ob (X.e C l) λa=>ob (X.e C r) λb=>some (Ac f a b))
  |[]=>none)
 |[]=>none
noncomputable def S9:Expr->Option (Option Expr×Option Expr)
 |.Slice lo hi st _=>gd st.isNone (some (lo,hi))
 |_=>none
noncomputable def zG1 (v sl:Expr):Option (Mn D):=match S9 sl with
 |some p=>ob (X.e C v) λm=>ob (zGT X C p.1) λml=>ob (zGT X C p.2) λmh=>some (G5 m ml mh)
 |none=>gd (Sv sl) (ob (X.e C v) λm=>ob (X.e C sl) λi=>some (Ac Co m i))
noncomputable def zJh (f:Expr) (as:List Expr) (ks:List Keyword) (pos:Pos):Option (Mn D):=match f with
 |.Name x _=>zGC T X C x as ks
 |.Attribute o name apos=>gd (ks.isEmpty&&Qq o&&as.all Ci&&decide (as.length<30)&&apos.endLine==pos.line) (zBH T X C o name as)
 |_=>none
noncomputable def zFi:Expr->Option (Mn D)
 |.Constant c _ _=>zCS c
 |.Name x _=>zGE T C x
 |.BinOp l op r _=>ob (T.bin op) λf=>ob (X.e C l) λa=>ob (X.e C r) λb=>some (Ac f a b)
 |.UnaryOp op e _=>zKp X C e op
 |.BoolOp op es _=>zJx X C op es
 |.Compare l ops rs _=>zI7 T X C l ops rs
 |.Subscript v sl _=>zG1 X C v sl
 |.List es _=>ob (Jr X C es) λms=>some (Cd ms)
 |.Tuple es _ _=>ob (Jr X C es) λms=>some (D7 ms)
 |.ListComp elt gs scope _=>zJf T X C elt gs scope
 |.Call f as ks pos=>match zJh T X C f as ks pos with
  |some m=>some m
  |none=>T.xe X C (.Call f as ks pos)
 |e=>T.xe X C e
noncomputable def zKv (e:Expr) (p:Pos):UnaryOp->Option (Mn Bool)
 |.Not=>ob (X.b C e) λm=>some (E8 m)
 |op=>ob (X.e C (.UnaryOp op e p)) λm=>some (bnd m As)
noncomputable def zJU (l r:Expr) (op:CmpOp):Option (Mn Bool):=gd (!behindInMarks op r) (ob (T.cmp op) λf=>ob (X.e C l) λa=>ob (X.e C r) λb=>some (Bc f a b))
noncomputable def zJ6 (l r q:Expr) (op op':CmpOp):Option (Mn Bool):=gd (!lastMarks [op,op'] [r,q]) (ob (T.cmp op) λf=>ob (T.cmp op') λg=>ob (X.e C l) λa=>ob (X.e C r) λb=>ob (X.e C q) λc=>some (Nd f g a b c))
noncomputable def zJR (l:Expr) (ops:List CmpOp) (rs:List Expr):Option (Mn Bool):=match ops with
 |[]=>none
 |op::o1=>(match rs with
  |[]=>none
  |r::r1=>(match o1 with
   |[]=>(match r1 with
    |[]=>zJU T X C l r op
    |_::_=>none)
   |op'::o2=>(match o2 with
    |_::_=>none
    |[]=>(match r1 with
     |[]=>none
     |q::r2=>(match r2 with
      |_::_=>none
      |[]=>zJ6 T X C l r q op op')))))
noncomputable def zFS:Expr->Option (Mn Bool)
 |.UnaryOp op e p=>zKv X C e p op
 |.BoolOp op es _=>zKA X C op es
 |.Compare l ops rs _=>zJR T X C l ops rs
 |e=>gd (Mu e) (ob (X.e C e) λm=>some (bnd m As))
noncomputable def zJZ (k:NameKind) (x:Str) (np:Pos) (i:Nat) (e:Expr):Option (Mn Fl):=match e with
 |.ListComp elt gs scope cpos=>gd (match k with
   |.local=>(np.line==cpos.line)&&!(scope.names.any λp=>p.1==x&&(p.2== .local||p.2== .cell))
   |_=>true) (ob (zJf T X C elt gs scope) λm=>some (bnd m (Aj i)))
 |e=>gd (M4 e) (ob (X.e C e) λm=>some (bnd m (Aj i)))
noncomputable def zJJ (x:Str) (np:Pos) (e:Expr):NameKind->Option (Mn Fl)
 |.local=>ob (Pn x C.tbl) λi=>zJZ T X C .local x np i e
 |.cell=>ob (Pn x C.tbl) λi=>zJZ T X C .cell x np i e
 |_=>none
noncomputable def zJy (e:Expr):Expr->Option (Mn Fl)
 |.Name x np=>ob (C.names.lookup x) (zJJ T X C x np e)
 |_=>none
noncomputable def zE7 (e:Expr):List Expr->Option (Mn Fl)
 |[]=>none
 |t::r=>gd r.isEmpty (zJy T X C e t)
noncomputable def stepS:Stmt->Option (Mn Fl)
 |.Return v _=>ob v λe=>ob (X.e C e) λm=>some (Bt m)
 |.Expr e _=>gd (M4 e) (ob (X.e C e) λm=>some (bnd m Dr))
 |.Pass _=>some (ret1 .next)
 |.Break _=>some (ret1 .brk)
 |.Continue _=>some (ret1 .cont)
 |.If t a b _=>ob (X.b C t) λmt=>ob (X.s C a) λma=>ob (X.s C b) λmb=>some (Di mt ma mb)
 |.For t i b o _=>gd (!C.inh&&W5 i&&o.isEmpty) (ob (zDv T X C t i) λmi=>ob (zHh C true t) λtf=>ob (X.s C b) λmb=>some (bnd mi λsrc=>D9 tf src.g mb src.ds))
 |.Assign ts e p=>match zE7 T X C e ts with
  |some m=>some m
  |none=>T.xs X C (.Assign ts e p)
 |t=>T.xs X C t
noncomputable def zHS:List Stmt->Option (Mn Fl)
 |[]=>some (ret1 .next)
 |t::r=>ob (stepS T X C t) λm=>ob (zHS r) λn=>some (Ad m n)
end
noncomputable def zJg (T:Tb):Nat->W3
 |0=>⟨λ_ _=>none,λ_ _=>none,λ_ _=>none⟩
 |n+1=>⟨λC e=>zFi T (zJg T n) C e,λC e=>zFS T (zJg T n) C e,λC l=>zHS T (zJg T n) C l⟩
section
variable {G:Gd}{T:Tb}{X:W3}{C:Cx}
theorem Gi(hX:Ct G X){es:List Expr}:∀{ms:Mn (List D)},Jr X C es=some ms->SA G C es ms:=by
 induction es with
 |nil=>intro ms h;exact Al (P:=SA G C []) h zGY
 |cons e es ih=>intro ms h;exact Bu h λh1 h=>Ao h λm h2 h=>Ao h λms' h3 h=>Al (P:=SA G C (e::es)) h (zEG (hX.e _ _ _ h2) (ih h3) (Cu h1))
theorem zDe(hX:Ct G X){es:List Expr}:∀{ms:List (Mn D)},zCf X C es=some ms->C2 (λa m=>SE G C a m) es ms:=by
 induction es with
 |nil=>intro ms h;exact Al (P:=C2 _ []) h .nil
 |cons e es ih=>intro ms h;exact Ao h λm h2 h=>Ao h λms' h3 h=>Al (P:=C2 _ (e::es)) h (.cons (hX.e _ _ _ h2) (ih h3))
theorem zDW{b:Bool}{x:Str}{p:Pos}{k:NameKind}{f:D->C3->Option C3}(hx:C.names.lookup x=some k) (h:zIh C b x k=some f):ST G C b (.Name x p) f:=by
 cases k with
 | «local» =>exact Ao h λi hi h=>Al (P:=ST G C b (.Name x p)) h (zDF (Dw hi) hx)
 |cell=>exact Bu h λhb h=>Ao h λi hi h=>Al (P:=ST G C b (.Name x p)) h (by subst hb;exact zBa (Dw hi) hx)
 |_=>exact B0 h
theorem H5{e:Expr}{x:Str}(h:Gs e=some x):∃p,e=.Name x p:=by
 cases e with
 |Name y p=>cases h;exact⟨p,rfl⟩
 |_=>exact B0 h
theorem Xc{b:Bool}{t:Expr}{f:D->C3->Option C3}(h:zDo C b t=some f):ST G C b t f/\Ci t=true:=by
 refine Ao h λx hx h1=>?_
 obtain⟨p,rfl⟩:=H5 hx;exact Ao h1 λk hk h=>⟨zDW hk h,rfl⟩
theorem zEv{b:Bool}{ts:List Expr}:∀{f:List D->C3->Option C3},zBR C b ts=some f->zGQ G C b ts f/\ts.all Ci=true:=by
 induction ts with
 |nil=>intro f h;exact Al (P:=λf=>zGQ G C b [] f/\_) h ⟨zEP,rfl⟩
 |cons t r ih=>
  intro f h;refine Ao h λg h1 h=>Ao h λk h2 h=>Al (P:=λf=>zGQ G C b (t::r) f/\_) h ?_
  have i:=ih h2;have j:=Xc (G:=G) h1;exact⟨zAh j.1 i.1 (Na j.2),by rw[List.all_cons,j.2,i.2];rfl⟩
theorem Tc(env:Env){ts:List Expr}(h:ts.all Ci=true):(assignEach ts env).length=ts.length/\(assignEach ts env).findIdx? (·.1)=none:=by
 induction ts with
 |nil=>exact⟨rfl,rfl⟩
 |cons t r ih=>
  refine Ay h λh1 h2=>?_
  have i:=ih h2;rw[Na h1];exact⟨congrArg Nat.succ i.1,by rw[List.findIdx?_cons,i.2];rfl⟩
theorem zCV{b:Bool}{t:Expr}{f:D->C3->Option C3}(h:zHh C b t=some f):ST G C b t f:=by
 cases t with
 |Tuple ts k p=>exact Bu h λhc h=>Ao h λg h1 h=>Al (P:=ST G C b (.Tuple ts k p)) h (let i:=zEv (G:=G) h1;zBM (not_true hc) i.1 (λenv=>(Tc env i.2).1) λenv=>(Tc env i.2).2)
 |Name x p=>exact(Xc (show zDo C b (.Name x p)=some f from h)).1
 |_=>exact B0 h
theorem zB0(ok:D5 G T){x:Str}{pos:Pos}{k:NameKind}{m:Mn D}(hd:(x==("__debug__":Str))=false) (hx:C.names.lookup x=some k) (h:zFd T C x k=some m):SE G C (.Name x pos) m:=by
 cases k with
 | «local» =>exact Ao h λi hi h=>Al (P:=SE G C (.Name x pos)) h (zB1 (Dw hi) hx hd)
 |cell=>exact Bu h λhn h=>Ao h λi hi h=>Al (P:=SE G C (.Name x pos)) h (X4 (Dw hi) (.inl hx) hd (not_true hn))
 |free=>exact Bu h λhn h=>Ao h λi hi h=>Al (P:=SE G C (.Name x pos)) h (X4 (Dw hi) (.inr hx) hd (not_true hn))
 |globalImplicit=>exact Ao h λi hi h=>Al (P:=SE G C (.Name x pos)) h (zBx (ok.nums _ _ hi) hx hd)
 |_=>exact B0 h
theorem zDj(ok:D5 G T){x:Str}{pos:Pos}{m:Mn D}(h:zGE T C x=some m):SE G C (.Name x pos) m:=
 Bu h λhd h=>Ao h λk hk h=>zB0 ok (not_true hd) hk h
theorem zEK{e:Expr}{f:Str}{as:List Expr}(h:Uz e=some (f,as)):∃np pos,e=.Call (.Name f np) as [] pos:=by
 cases e with
 |Call g bs ks p=>cases g with
  |Name x np=>cases ks with
   |nil=>cases h;exact⟨_,_,rfl⟩
   |cons _ _=>exact B0 h
  |_=>exact B0 h
 |_=>exact B0 h
theorem Ji{α:Type}{l:List α}{P:Prop}(h:(!l.isEmpty)=true) (k:∀a r,l=a::r->P):P:=by
 cases l with
 |nil=>cases h
 |cons a r=>exact k a r rfl
theorem zBL(ok:D5 G T) (hX:Ct G X){t e:Expr}{m:Mn Ix}(h:zDv T X C t e=some m):∃tg,SI G C e tg m/\tg t:=by
 unfold zDv at h
 cases q:ob (Uz e) λp=>ob (T.ts.lookup p.1) λq=>some (p,q)with
 |none=>rw[q]at h;exact Ao h λm' h1 h=>Al (P:=λm=>∃tg,SI G C e tg m/\tg t) h ⟨_,zHX (hX.e _ _ _ h1),trivial⟩
 |some r=>
  rw[q]at h;refine Ao q λp hp q=>Ao q λs hs q=>?_
  cases q;obtain⟨f,as⟩:=p;obtain⟨n,b,F⟩:=s;obtain⟨np,pos,rfl⟩:=zEK hp;refine Bu h λhc h=>Ay hc λhc h6=>Ay hc λhc h5=>Ay hc λhc h4=>Ay hc λhc h3=>Ay hc λh1 h2=>Ao h λms h7 hz=>?_
  clear h;obtain⟨hb,tg,hF,ht⟩:=ok.ts _ _ _ _ hs;exact Ji h6 λa r e=>by
   cases e;exact Ay h5 λs1 s2=>Al (P:=λm=>∃tg,SI G C _ tg m/\tg t) hz ⟨tg,zA5 hb (Cw h4) (not_true h3) (not_true h1) hF (Gi hX h7) (Cu s1) (λenv=>Gw env s2),ht t h2⟩
theorem E7{α:Type}{l:List α}(h:l.isEmpty=true):l=[]:=by cases l<;>first|rfl|cases h
theorem zGM(hX:Ct G X){ifs:List Expr}{m:Mn Bool}(h:zJX X C ifs=some m):Rl G C ifs m:=by
 cases ifs with
 |nil=>exact Al (P:=Rl G C []) h zFQ
 |cons c r=>exact Bu h λhr h=>by rw[E7 hr];exact zEL (hX.b _ _ _ h)
inductive zG3 (G:Gd) (C:Cx) (elt:Expr) (gs:List Comprehension) (scope:Scope) (m:Mn D):Prop
 |mk (t i:Expr) (f:List Expr) (tg:Expr->Prop) (mi:Mn Ix) (tf:D->C3->Option C3) (mt:Mn Bool) (me:Mn D):C.inh=false->gs=[⟨t,i,f,0⟩]->m=bnd mi (Dq (K9 scope.names 0 C.tbl) tf mt me)->Pf C scope (K9 scope.names 0 C.tbl)->SI G C i tg mi->tg t->ST G ⟨scope.names,C.tbl,C.lvl,C.inh,C.code,C.qual⟩ false t tf->
  Rl G ⟨scope.names,C.tbl,C.lvl,C.inh,C.code,C.qual⟩ f mt->SE G ⟨scope.names,C.tbl,C.lvl,C.inh,C.code,C.qual⟩ elt me->(∀env x,foldedSetIterable i env x=pure x)->zG3 G C elt gs scope m
theorem zC3(ok:D5 G T) (hX:Ct G X){elt:Expr}{gs:List Comprehension}{scope:Scope}{m:Mn D}(h:zJf T X C elt gs scope=some m):zG3 G C elt gs scope m:=by
 cases gs with
 |nil=>exact B0 h
 |cons g r=>
  obtain⟨t,i,f,a⟩:=g;refine Bu h λhc h=>Ay hc λhc h5=>Ay hc λhc h4=>Ay hc λhc h3=>Ay hc λh1 h2=>Ao h λmi k1 h=>Ao h λtf k2 h=>Ao h λmt k3 h=>Ao h λme k4 hz=>?_
  clear h;obtain⟨tg,hI,ht⟩:=zBL ok hX k1;have e0:a=0:=beq_iff_eq.mp h3
  have er:=E7 h2;subst e0 er;exact Al (P:=zG3 G C elt _ scope) hz ⟨t,i,f,tg,mi,tf,mt,me,not_true h1,rfl,rfl,zAA h4,hI,ht,zCV k2,zGM hX k3,hX.e _ _ _ k4,R9 h5⟩
theorem zIj(hX:Ct G X){op:BoolOp}{es:List Expr}:∀{m:Mn D},zJx X C op es=some m->zFf G C op es m:=by
 induction es with
 |nil=>intro m h;cases h
 |cons e r ih=>
  intro m h
  cases r with
  |nil=>exact zDz (hX.e _ _ _ h)
  |cons e' r=>
   refine Ao h λa h1 h=>Ao h λb h2 h=>Al (P:=zFf G C op _) h ?_
   cases op with
   |And=>exact zDt (hX.e _ _ _ h1) (ih h2)
   |Or=>exact zHJ (hX.e _ _ _ h1) (ih h2)
theorem zJb(hX:Ct G X){op:BoolOp}{es:List Expr}:∀{m:Mn Bool},zKA X C op es=some m->zDy G C op es m:=by
 induction es with
 |nil=>intro m h;cases h
 |cons e r ih=>
  intro m h
  cases r with
  |nil=>cases op with
   |And=>exact zAZ (hX.b _ _ _ h)
   |Or=>exact zET (hX.b _ _ _ h)
  |cons e' r=>
   refine Ao h λa h1 h=>Ao h λb h2 h=>Al (P:=zDy G C op _) h ?_
   cases op with
   |And=>exact zDN (hX.b _ _ _ h1) (ih h2)
   |Or=>exact zHs (hX.b _ _ _ h1) (ih h2)
theorem zAU(hX:Ct G X){o:Option Expr}{m:Option (Mn D)}(h:zGT X C o=some m):SO G C o m:=by
 cases o with
 |none=>exact Al (P:=SO G C none) h zE2
 |some e=>exact Ao h λa h1 h=>Al (P:=SO G C (some e)) h (zEN (hX.e _ _ _ h1))
theorem zHc(ok:D5 G T) (hX:Ct G X){f:Str}{as:List Expr}{np pos:Pos}{m:Mn D}(h2:C.names.lookup f=some .globalImplicit) (h4:as.all Ci=true) (h:zIw T X C f as=some m):SE G C (.Call (.Name f np) as [] pos) m:=by
 cases as with
 |nil=>exact B0 h
 |cons a r=>cases r with
  |nil=>exact B0 h
  |cons t r=>
   refine Bu h λhc h=>Ay hc λhf hr=>Ao h λt' ht h=>Bu h λhc h=>Ay hc λk1 k2=>Ao h λtn h5 h=>Ao h λm' h6 h=>Al (P:=SE G C _) h ?_
   obtain⟨tp,rfl⟩:=H5 ht;have e1:=beq_iff_eq.mp hf;have e2:=E7 hr;subst e1 e2;obtain⟨g1,g2⟩:=ok.ty _ _ h5;exact Ay h4 λh3 _=>zH6 g2 ok.isi h2 g1 (Cw k1) (not_true k2) (hX.e _ _ _ h6) λenv=>by rw[Cu h3];rfl
theorem zCu(ok:D5 G T) (hX:Ct G X){f:Str}{as:List Expr}{np pos:Pos}{m:Mn D}(h1:(f==("__debug__":Str))=false) (h2:C.names.lookup f=some .globalImplicit) (h4:as.all Ci=true) (h5:(!as.isEmpty)=true) (h:zBi T X C f as=some m):
  SE G C (.Call (.Name f np) as [] pos) m:=by
 refine Ji h5 λa r e=>?_
 subst e;refine Ay h4 λs1 s2=>?_
 unfold zBi at h
 cases q:T.fns.lookup f with
 |some p=>
  obtain⟨ad,n,F⟩:=p;rw[q]at h;refine Bu h λhc h=>Ay hc λk1 k2=>Ao h λms h5 h=>Al (P:=SE G C _) h ?_
  apply yo;intro _ k0
  obtain⟨g1,g2,g3⟩:=ok.fns _ _ _ _ q;apply k0
  exact zDX g1 h2 h1 g2 g3 (not_true k1) (of_decide_eq_true k2) (Gi hX h5) (Cu s1)
 |none=>
  rw[q]at h
  cases q2:T.bf.lookup f with
  |some p=>
   apply yo;intro _ k0
   obtain⟨n,F⟩:=p;apply k0
   rw[q2]at h;refine Bu h λhc h=>Ao h λms h5 h=>Al (P:=SE G C _) h ?_
   obtain⟨g1,g2⟩:=ok.bf _ _ _ q2;exact zCr g1 h2 h1 (not_true hc) g2 (Gi hX h5) (Cu s1) λenv=>Gw env s2
  |none=>
   rw[q2]at h
   cases q3:T.tv.lookup f with
   |some p=>
    obtain⟨n,F⟩:=p;rw[q3]at h;refine Ao h λms h5 h=>Al (P:=SE G C _) h ?_
    obtain⟨g1,g2⟩:=ok.tv _ _ _ q3;exact zCP g1 h2 h1 g2 (Gi hX h5) (Cu s1) λenv=>Gw env s2
   |none=>
    rw[q3]at h;exact zHc ok hX h2 h4 h
theorem zD2(ok:D5 G T) (hX:Ct G X){f:Str}{as:List Expr}{k:Keyword}{np pos:Pos}{m:Mn D}(h:zFa T X C f as k=some m):
  SE G C (.Call (.Name f np) as [k] pos) m:=by
 obtain⟨ka,kv,kp⟩:=k;refine Bu h λhc h=>Ay hc λhc h5=>Ay hc λhc h4=>Ay hc λhc h3=>Ay hc λh1 h2=>?_
 have e1:=beq_iff_eq.mp h1;have e2:ka=_:=beq_iff_eq.mp h3
 have e4:as.length=1:=beq_iff_eq.mp h4
 obtain⟨a,rfl⟩:=List.length_eq_one_iff.mp e4;subst e1 e2;refine Ay h5 λs1 _=>?_
 change zF7 T X C _ [a] kv (Gs kv)=some m at h
 cases hg:Gs kv with
 |none=>
  rw[hg]at h;exact Ao h λF hF h=>Ao h λms h7 h=>Al (P:=SE G C _) h (ok.sl _ _ _ _ _ _ _ _ _ hX.e hF (Cw h2) (Gi hX h7) λenv=>Cu s1 env)
 |some g=>
  rw[hg]at h;refine Bu h λhc h=>Ay hc λk1 k2=>Ao h λp q h=>Bu h λhc h=>Ay hc λk3 k4=>Ao h λF' hF h=>Ao h λms h7 h=>Al (P:=SE G C _) h ?_
  obtain⟨gp,e⟩:=H5 hg;obtain⟨ad,n,F⟩:=p;subst e;obtain⟨g1,g2,g3⟩:=ok.fns _ _ _ _ q;exact ok.so _ _ hF C _ _ _ _ _ _ _ _ _ (Cw h2) g1 (Cw k1) (not_true k2) g3 (not_true k3) (of_decide_eq_true k4) (Gi hX h7) λenv=>Cu s1 env
theorem zFO(ok:D5 G T) (hX:Ct G X){f:Str}{as:List Expr}{ks:List Keyword}{np pos:Pos}{m:Mn D}(h:zGC T X C f as ks=some m):
  SE G C (.Call (.Name f np) as ks pos) m:=by
 cases ks with
 |nil=>exact Bu h λhc h=>Ay hc λhc h5=>Ay hc λhc h4=>Ay hc λh1 h2=>zCu ok hX (not_true h1) (Cw h2) h4 h5 h
 |cons k r=>exact Bu h λhr h=>by rw[E7 hr];exact zD2 ok hX h
theorem zEx(ok:D5 G T) (hX:Ct G X){o:Expr}{name:Str}{as:List Expr}{apos pos:Pos}{m:Mn D}(h1:Qq o=true) (h2:as.all Ci=true) (h3:decide (as.length<30)=true) (h4:(apos.endLine==pos.line)=true) (h:zBH T X C o name as=some m):
  SE G C (.Call (.Attribute o name apos) as [] pos) m:=by
 unfold zBH at h
 cases q:T.sm.lookup name with
 |some p=>
  obtain⟨n,F⟩:=p;rw[q]at h;refine Bu h λhe h=>Ao h λmo h5 h=>Ao h λms h6 h=>Al (P:=SE G C _) h ?_
  refine Ji he λa r e=>?_
  subst e;exact Ay h2 λs1 s2=>zBm (ok.sm _ _ _ q) (hX.e _ _ _ h5) (Gi hX h6) (S4 h1) (Cu s1) (λenv=>Gw env s2) (λenv=>Wa env h2 h3) h4
 |none=>
  rw[q]at h;exact Ao h λmo h5 h=>Ao h λms h6 h=>ok.me C o as name mo ms m apos pos (hX.e _ _ _ h5) (zDe hX h6) h h1 h2 h3 h4
theorem zEo(ok:D5 G T) (hX:Ct G X){l:Expr}{ops:List CmpOp}{rs:List Expr}{pos:Pos}{m:Mn D}(h:zI7 T X C l ops rs=some m):SE G C (.Compare l ops rs pos) m:=by
 cases ops with
 |nil=>exact B0 h
 |cons op o'=>cases rs with
  |nil=>exact B0 h
  |cons r r'=>
   refine Bu h λhc h=>Ay hc λhc h3=>Ay hc λh1 h2=>Ao h λf k1 h=>Ao h λa k2 h=>Ao h λb k3 h=>Al (P:=SE G C _) h ?_
   rw[E7 h1,E7 h2];exact zHt (ok.cmp _ _ k1) (hX.e _ _ _ k2) (hX.e _ _ _ k3) (not_true h3)
theorem zCx{e:Expr}{p:Option Expr×Option Expr}(h:S9 e=some p):∃q,e=.Slice p.1 p.2 none q:=by
 cases e with
 |Slice lo hi st q=>cases st with
  |none=>cases h;exact⟨q,rfl⟩
  |some _=>exact B0 h
 |_=>exact B0 h
theorem zG9(hX:Ct G X){v sl:Expr}{pos:Pos}{m:Mn D}(h:zG1 X C v sl=some m):SE G C (.Subscript v sl pos) m:=by
 unfold zG1 at h
 cases q:S9 sl with
 |some p=>
  simp only[q]at h;obtain⟨pp,rfl⟩:=zCx q;exact Ao h λa k1 h=>Ao h λlo k2 h=>Ao h λhi k3 h=>Al (P:=SE G C _) h (zC0 (hX.e _ _ _ k1) (zAU hX k2) (zAU hX k3))
 |none=>
  rw[q]at h;exact Bu h λhs h=>Ao h λa k1 h=>Ao h λb k2 h=>Al (P:=SE G C _) h (zG4 (hX.e _ _ _ k1) (hX.e _ _ _ k2) (zDS hs))
theorem zIe(ok:D5 G T) (hX:Ct G X){f:Expr}{as:List Expr}{ks:List Keyword}{pos:Pos}{m:Mn D}(h:zJh T X C f as ks pos=some m):SE G C (.Call f as ks pos) m:=by
 cases f with
 |Name x np=>exact zFO ok hX h
 |Attribute o name apos=>exact Bu h λhc h=>Ay hc λhc h5=>Ay hc λhc h4=>Ay hc λhc h3=>Ay hc λh1 h2=>by rw[E7 h1];exact zEx ok hX h2 h3 h4 h5 h
 |_=>exact B0 h
theorem zBB{c:Const}{k:Nat}{pos:Pos}{m:Mn D}(h:zCS c=some m):SE G C (.Constant c k pos) m:=by
 cases c with
 |int i=>exact Al (P:=SE G C _) h zIA
 |str x=>exact Al (P:=SE G C _) h zHA
 |bool b=>exact Al (P:=SE G C _) h zDI
 |none=>exact Al (P:=SE G C _) h zFD
 |_=>exact B0 h
theorem zJM(hX:Ct G X){op:UnaryOp}{e:Expr}{pos:Pos}{m:Mn D}(h:zKp X C e op=some m):SE G C (.UnaryOp op e pos) m:=by
 cases op with
 |Not=>exact Ao h λa k h=>Al (P:=SE G C _) h (zH8 (hX.e _ _ _ k))
 |USub=>exact Ao h λa k h=>Al (P:=SE G C _) h (zGt (hX.e _ _ _ k))
 |_=>exact B0 h
theorem zAP(ok:D5 G T) (hX:Ct G X){e:Expr}{m:Mn D}(h:zFi T X C e=some m):SE G C e m:=by
 cases e with
 |Constant c k p=>exact zBB h
 |Name x p=>exact zDj ok h
 |BinOp l op r p=>exact Ao h λf h1 h=>Ao h λa h2 h=>Ao h λb h3 h=>Al (P:=SE G C _) h (zH5 (ok.bin _ _ h1) (hX.e _ _ _ h2) (hX.e _ _ _ h3))
 |UnaryOp op e p=>exact zJM hX h
 |BoolOp op es p=>exact Y9 (zIj hX h)
 |Compare l ops rs p=>exact zEo ok hX h
 |Subscript v sl p=>exact zG9 hX h
 |List es p=>exact Ao h λms h1 h=>Al (P:=SE G C _) h (zES (Gi hX h1))
 |Tuple es k p=>exact Ao h λms h1 h=>Al (P:=SE G C _) h (zBO (Gi hX h1))
 |ListComp elt gs scope p=>
  obtain⟨t,i,f,tg,mi,tf,mt,me,k0,rfl,rfl,k1,k2,k3,k4,k5,k6,k7⟩:=zC3 ok hX h;exact Y2 k0 k1 k2 k3 k4 k5 k6 k7
 |Call f as ks p=>
  change (match zJh T X C f as ks p with|some m=>some m|none=>T.xe X C (.Call f as ks p))=some m at h
  cases q:zJh T X C f as ks p with
  |some m'=>rw[q]at h;cases h;exact zIe ok hX q
  |none=>rw[q]at h;exact ok.xe _ _ _ _ hX h
 |_=>exact ok.xe _ _ _ _ hX h
theorem zHM(hX:Ct G X){op:UnaryOp}{e:Expr}{pos:Pos}{m:Mn Bool}(h:zKv X C e pos op=some m):SB G C (.UnaryOp op e pos) m:=by
 cases op with
 |Not=>exact Ao h λa k h=>Al (P:=SB G C _) h (zGd (hX.b _ _ _ k))
 |_=>exact Ao h λa k h=>Al (P:=SB G C _) h (zCN (hX.e _ _ _ k) λ_ _=>rfl)
theorem zDC(ok:D5 G T) (hX:Ct G X){l:Expr}{ops:List CmpOp}{rs:List Expr}{pos:Pos}{m:Mn Bool}(h:zJR T X C l ops rs=some m):SB G C (.Compare l ops rs pos) m:=by
 cases ops with
 |nil=>exact B0 h
 |cons op o1=>cases rs with
  |nil=>exact B0 h
  |cons r r1=>cases o1 with
   |nil=>cases r1 with
    |nil=>exact Bu h λhm h=>Ao h λf k1 h=>Ao h λa k2 h=>Ao h λb k3 h=>Al (P:=SB G C _) h (zGP (ok.cmp _ _ k1) (hX.e _ _ _ k2) (hX.e _ _ _ k3) (not_true hm))
    |cons _ _=>exact B0 h
   |cons op' o2=>cases o2 with
    |cons _ _=>exact B0 h
    |nil=>cases r1 with
     |nil=>exact B0 h
     |cons q r2=>cases r2 with
      |cons _ _=>exact B0 h
      |nil=>exact Bu h λhm h=>Ao h λf k1 h=>Ao h λg k4 h=>Ao h λa k2 h=>Ao h λb k3 h=>Ao h λc k5 h=>Al (P:=SB G C _) h (zEy (ok.cmp _ _ k1) (ok.cmp _ _ k4) (hX.e _ _ _ k2) (hX.e _ _ _ k3) (hX.e _ _ _ k5) (not_true hm))
theorem zCk(ok:D5 G T) (hX:Ct G X){e:Expr}{m:Mn Bool}(h:zFS T X C e=some m):SB G C e m:=by
 have v:∀(e:Expr) (m:Mn Bool),(gd (Mu e) (ob (X.e C e) λm=>some (bnd m As)))=some m->SB G C e m:=λe m h=>Bu h λhp h=>Ao h λa k h=>Al (P:=SB G C _) h (zCN (hX.e _ _ _ k) (zDw hp))
 cases e with
 |UnaryOp op e p=>exact zHM hX h
 |BoolOp op es p=>exact zFM (zJb hX h)
 |Compare l ops rs p=>exact zDC ok hX h
 |_=>exact v _ _ h
theorem zGf(ok:D5 G T) (hX:Ct G X){x:Str}{np pos:Pos}{e:Expr}{k:NameKind}{m:Mn Fl}(hx:C.names.lookup x=some k) (h:zJJ T X C x np e k=some m):SS G C (.Assign [.Name x np] e pos) m:=by
 cases k with
 | «local» =>
  refine Ao h λi hi h=>?_
  have v:(gd (M4 e) (ob (X.e C e) λm=>some (bnd m (Aj i))))=some m->SS G C (.Assign [.Name x np] e pos) m:=λh=>Bu h λhc h=>Ao h λa h2 h=>Al (P:=SS G C _) h (Ze (Dw hi) hx (hX.e _ _ _ h2) λenv=>Oo hc _ _ env)
  cases e with
  |ListComp elt gs scope cpos=>
   refine Bu h λhc h=>Ay hc λc1 c2=>Ao h λa h2 h=>Al (P:=SS G C _) h ?_
   obtain⟨t,i',f,tg,mi,tf,mt,me,k0,rfl,rfl,k1,k2,k3,k4,k5,k6,k7⟩:=zC3 ok hX h2;exact Og (Dw hi) hx k0 k1 k2 k3 k4 k5 k6 k7 (zAC c1 (not_true c2))
  |_=>exact v h
 |cell=>
  refine Ao h λi hi h=>?_
  have v:(gd (M4 e) (ob (X.e C e) λm=>some (bnd m (Aj i))))=some m->SS G C (.Assign [.Name x np] e pos) m:=λh=>Bu h λhc h=>Ao h λa h2 h=>Al (P:=SS G C _) h (Pa (Dw hi) hx (hX.e _ _ _ h2) λenv _=>Oo hc _ _ env)
  cases e with
  |ListComp elt gs scope cpos=>
   refine Ao (show(ob (zJf T X C elt gs scope) λm=>some (bnd m (Aj i)))=some m from h) λa h2 h=>Al (P:=SS G C _) h ?_
   obtain⟨t,i',f,tg,mi,tf,mt,me,k0,rfl,rfl,k1,k2,k3,k4,k5,k6,k7⟩:=zC3 ok hX h2;exact Pa (Dw hi) hx (Y2 k0 k1 k2 k3 k4 k5 k6 k7) λenv he=>Us env he
  |_=>exact v h
 |_=>exact B0 h
theorem zEu(ok:D5 G T) (hX:Ct G X){ts:List Expr}{e:Expr}{pos:Pos}{m:Mn Fl}(h:zE7 T X C e ts=some m):SS G C (.Assign ts e pos) m:=by
 cases ts with
 |nil=>exact B0 h
 |cons t r=>
  refine Bu h λhr h=>?_
  rw[E7 hr]
  cases t with
  |Name x np=>exact Ao h λk hk h=>zGf ok hX hk h
  |_=>exact B0 h
theorem zBN(ok:D5 G T) (hX:Ct G X){t:Stmt}{m:Mn Fl}(h:stepS T X C t=some m):SS G C t m:=by
 cases t with
 |Return v p=>exact Ao h λe he h=>Ao h λa h2 h=>Al (P:=SS G C _) h (by subst he;exact Yi (hX.e _ _ _ h2))
 |Expr e p=>exact Bu h λhc h=>Ao h λa h2 h=>Al (P:=SS G C _) h (zDM (hX.e _ _ _ h2) λenv=>Oo hc _ _ env)
 |Pass p=>exact Al (P:=SS G C _) h zEc
 |Break p=>exact Al (P:=SS G C _) h zB7
 |Continue p=>exact Al (P:=SS G C _) h Uo
 |If t a b p=>exact Ao h λf h1 h=>Ao h λa h2 h=>Ao h λb h3 h=>Al (P:=SS G C _) h (zIQ (hX.b _ _ _ h1) (hX.s _ _ _ h2) (hX.s _ _ _ h3))
 |For t i b o p=>
  refine Bu h λhc h=>Ay hc λhc c3=>Ay hc λc1 c2=>Ao h λf h1 h=>Ao h λa h2 h=>Ao h λb h3 h=>Al (P:=SS G C _) h ?_
  apply yo;intro _ k0
  obtain⟨tg,hI,ht⟩:=zBL ok hX h1;apply k0
  rw[E7 c3];exact zGL (not_true c1) hI ht (zCV h2) (hX.s _ _ _ h3) (R9 c2)
 |Assign ts e p=>
  change (match zE7 T X C e ts with|some m=>some m|none=>T.xs X C (.Assign ts e p))=some m at h
  cases q:zE7 T X C e ts with
  |some m'=>rw[q]at h;cases h;exact zEu ok hX q
  |none=>rw[q]at h;exact ok.xs _ _ _ _ hX h
 |_=>exact ok.xs _ _ _ _ hX h
theorem zGX(ok:D5 G T) (hX:Ct G X){l:List Stmt}:∀{m:Mn Fl},zHS T X C l=some m->Uh G C l m:=by
 induction l with
 |nil=>intro m h;exact Al (P:=Uh G C []) h zG0
 |cons t r ih=>intro m h;exact Ao h λa h1 h=>Ao h λb h2 h=>Al (P:=Uh G C (t::r)) h (zEt (zBN ok hX h1) (ih h2))
theorem D3(ok:D5 G T) (n:Nat):Ct G (zJg T n):=by
 induction n with
 |zero=>exact⟨λ_ _ _ h=>(by cases h),λ_ _ _ h=>(by cases h),λ_ _ _ h=>by cases h⟩
 |succ n ih=>exact⟨λ_ _ _ h=>zAP ok ih h,λ_ _ _ h=>zCk ok ih h,λ_ _ _ h=>zGX ok ih h⟩
theorem D5.add(ok:D5 G T){f:Str}{a:Addr}{n:Nat}{F:List D->Mn D}(h1:D8 G f (.ref a)) (h2:∃o fd,G.h0.get? a=some o/\o.data=.func fd) (h3:SF G n a F):D5 G {T with fns:=(f,a,n,F)::T.fns} where
 fns g a' n' F' h:=by
  have h':List.lookup g ((f,a,n,F)::T.fns)=some (a',n',F'):=h
  rw[List.lookup_cons]at h'
  cases e:g==f with
  |true=>rw[e]at h';cases h';rw[beq_iff_eq.mp e];exact⟨h1,h2,h3⟩
  |false=>rw[e]at h';exact ok.fns _ _ _ _ h'
 nums:=ok.nums
 bf:=ok.bf
 tv:=ok.tv
 ts:=ok.ts
 sm:=ok.sm
 ty:=ok.ty
 isi:=ok.isi
 bin:=ok.bin
 cmp:=ok.cmp
 me:=ok.me
 so:=ok.so
 sl:=ok.sl
 xe:=ok.xe
 xs:=ok.xs
end
theorem Ee{β:Type}{P:Str->β->Prop}:∀f v,([]:List (Str×β)).lookup f=some v->P f v:=λ_ _ h=>B0 h
theorem Ak{β:Type}{P:Str->β->Prop}{x:Str}{v:β}{l:List (Str×β)}(h:P x v) (t:∀f w,l.lookup f=some w->P f w):∀f w,((x,v)::l).lookup f=some w->P f w:=λf w e=>by
 rw[List.lookup_cons]at e
 cases q:f==x with
 |true=>rw[q]at e;cases e;rw[beq_iff_eq.mp q];exact h
 |false=>rw[q]at e;exact t f w e
noncomputable abbrev zJ7 (G:Gd) (f:Str) (p:String×(List D->Mn D)):Prop:=Dj G f (.builtin p.1)/\BF G p.1 p.2
noncomputable abbrev zJz (G:Gd) (f:Str) (p:String×(List D->Mn D)):Prop:=Dj G f (.type p.1)/\TF G p.1 p.2
noncomputable abbrev zJe (G:Gd) (f:Str) (p:String×Bool×(List D->Mn Ix)):Prop:=Dj G f (.type p.1)/\∃tg,Yk G p.1 tg p.2.2/\∀t,(!p.2.1||X3 t)=true->tg t
noncomputable abbrev zKI (G:Gd) (f:Str) (p:String×(Str->List D->Mn D)):Prop:=SM G f p.1 p.2
noncomputable abbrev zIE (G:Gd) (f:Str) (n:String):Prop:=Dj G f (.type n)/\Yg n
noncomputable abbrev zKu (G:Gd) (x:Str) (i:Int):Prop:=∃t,D8 G x (.int i t)
theorem T6{t:Expr}(h:(!true||X3 t)=true):J5 t:=by cases t<;>first|exact⟨_,_,_,rfl⟩|cases h
noncomputable def zIC (G:Gd) (me:Str->Mn D->List (Mn D)->Option (Mn D)):Prop:=
 ∀C o as name mo ms m apos pos,SE G C o mo->C2 (λa m=>SE G C a m) as ms->me name mo ms=some m->Qq o=true->as.all Ci=true->decide (as.length<30)=true->(apos.endLine==pos.line)=true->SE G C (.Call (.Attribute o name apos) as [] pos) m
noncomputable def zHU (G:Gd) (name:Str) (me:Mn D->List (Mn D)->Option (Mn D)):Prop:=
 ∀C o as mo ms m apos pos,SE G C o mo->C2 (λa m=>SE G C a m) as ms->me mo ms=some m->Qq o=true->as.all Ci=true->decide (as.length<30)=true->(apos.endLine==pos.line)=true->SE G C (.Call (.Attribute o name apos) as [] pos) m
noncomputable def zIZ:Str->Mn D->List (Mn D)->Option (Mn D):=λ_ _ _=>none
noncomputable def zDb (x:Str) (a:Mn D->List (Mn D)->Option (Mn D)) (r:Str->Mn D->List (Mn D)->Option (Mn D)):Str->Mn D->List (Mn D)->Option (Mn D):=λname m ms=>match name==x with
 |true=>a m ms
 |false=>r name m ms
section
variable {G:Gd}
theorem zDq:zIC G zIZ:=λ_ _ _ _ _ _ _ _ _ _ _ h=>B0 h
theorem Y0{x:Str}{a:Mn D->List (Mn D)->Option (Mn D)}{r:Str->Mn D->List (Mn D)->Option (Mn D)}(h:zHU G x a) (t:zIC G r):zIC G (zDb x a r):=λC o as name mo ms m apos pos h1 h2 h3=>by
 unfold zDb at h3
 cases q:name==x with
 |true=>rw[q]at h3;rw[beq_iff_eq.mp q];exact h C o as mo ms m apos pos h1 h2 h3
 |false=>rw[q]at h3;exact t C o as name mo ms m apos pos h1 h2 h3
noncomputable def Rd (m:Mn D):List (Mn D)->Option (Mn D)
 |[]=>none
 |a::r=>gd r.isEmpty (some (bnd m (De λk=>bnd a (Br k))))
noncomputable def Tz (m:Mn D) (as:List (Mn D)):Option (Mn D):=gd as.isEmpty (some (bnd m (De Ez)))
theorem Zh:zHU G (Str.ofString "append") Rd:=λC o as mo ms m apos pos h1 h2 h3 h4 h5 h6 h7=>by
 cases h2 with
 |nil=>exact B0 h3
 | @cons a ma as' ms' ha hr=>
  refine Bu h3 λhe h3=>Al (P:=SE G C _) h3 ?_
  cases hr with
  |nil=>exact Ay h5 λs1 _=>Zy h1 ha (S4 h4) (Cu s1) (λenv=>Wa env h5 h6) h7
  |cons _ _=>cases he
theorem zBF:zHU G (Str.ofString "clear") Tz:=λC o as mo ms m apos pos h1 h2 h3 h4 h5 h6 h7=>by
 refine Bu h3 λhe h3=>Al (P:=SE G C _) h3 ?_
 cases h2 with
 |nil=>exact zAj h1 (S4 h4) (λenv=>Wa env h5 h6) h7
 |cons _ _=>cases he
end
noncomputable abbrev ix (i:Nat) (k:Int):Mn D:=Ac Co (A6 i) (ret1 (.int k))
noncomputable def Iz (h:Heap) (a:Addr):Prop:=a<h.objs.size/\h.get? a=none
theorem Iz.push{h:Heap}{a:Addr}(d:Iz h a) (o:Obj):Iz (h.push o) a:=
 ⟨by rw[Heap.size_push];exact Nat.lt_succ_of_lt d.1,by rw[Heap.get?_push_ne _ _ _ (Nat.ne_of_lt d.1)];exact d.2⟩
theorem Iz.upd{h:Heap}{a b:Addr}(d:Iz h a) (hb:(h.get? b).isSome) (f:Obj->Obj):Iz (h.update b f) a:=by
 have hne:a≠b:=λe=>by subst e;rw[d.2]at hb;cases hb
 exact⟨by rw[Heap.size_after_update];exact d.1,by rw[Heap.get?_update_other _ _ (Ne.symm hne)];exact d.2⟩
theorem dead_runs{M:Model}{Γ:Ctx}{p:Pos}{t:Sem Fin}{fs:List Frame}{s s':Shared}{e:End}{a:Addr}(h:Runs M Γ p t fs s e s'):Iz s.heap a->Iz s'.heap a:=by
 induction h<;>intro d<;>first
  |exact d
  |(rename_i ih;exact ih d)
  |(rename_i ih;exact ih (d.push _))
  |(rename_i hb _ ih;exact ih (d.upd hb _))
  |(rename_i ih1 ih2;exact ih2 (ih1 d))
  |(rename_i ih1 _ _ ih2;exact ih2 (ih1 d))
  |(rename_i ih1 _ ih2;exact ih2 (ih1 d))
theorem Vz{M:Model}{Γ:Ctx}{p:Pos}{g:Nat}{r:Resume}{s s':Shared}{res:GenResult}{a:Addr}(h:Wakes M Γ p g r s res s') (d:Iz s.heap a):Iz s'.heap a:=by
 unfold Wakes at h;split at h
 ·exact h.elim
 ·split at h
  ·obtain⟨e₁,s₁,hr,_,_,rfl⟩:=h;exact(dead_runs hr d:Iz s₁.heap a)
  ·rw[h.2];exact d
  ·rw[h.2];exact d
 ·obtain⟨e₁,s₁,hr,_,_,rfl⟩:=h;exact(dead_runs hr d:Iz s₁.heap a)
 ·rw[h.2];exact d
 ·rw[h.2];exact d
theorem zC2{α:Type}(M:Model) (Γ:Ctx) (h0:Heap) (t:Sem α):∀(Q:α->Pos->Shared->Prop) (E:Value->Pos->Shared->Prop) (p:Pos) (s:Shared),(∀b,Iz h0 b->Iz s.heap b)->Sem.wp M Γ t Q (λe p' s'=>(∀b,Iz h0 b->Iz s'.heap b)->E e p' s') p s->Sem.wp M Γ t Q E p s:=by
 induction t with
 |pure a=>intro Q E p s hn h;exact h
 |raise e=>intro Q E p s hn h;exact h hn
 |unsupported _=>intro Q E p s _ h;exact h
 |finish _=>intro Q E p s _ h;exact h
 |rule _ k ih=>intro Q E p s hn h;exact ih () Q E p s hn h
 | «at» p' k ih=>intro Q E p s hn h;exact ih () Q E p' s hn h
 |load a _ k ih=>intro Q E p s hn h;obtain⟨o,ho,h⟩:=h;exact⟨o,ho,ih o Q E p s hn h⟩
 |update a _ f k ih=>intro Q E p s hn h;exact⟨h.1,ih () Q E p _ (λb d=>(hn b d).upd h.1 _) h.2⟩
 |loadIfAlive a k ih=>intro Q E p s hn h;exact ih _ Q E p s hn h
 |point _ k ih=>intro Q E p s hn h;exact ih () Q E p s hn h
 |register _ _=>intro Q E p s _ h;exact h
 |alloc o k ih=>intro Q E p s hn h;exact ih _ Q E p _ (λb d=>(hn b d).push _) h
 |fresh k ih=>intro Q E p s hn h;exact ih _ Q E p _ hn h
 |ask k ih=>intro Q E p s hn h;exact ih _ Q E p s hn h
 |choose src m k ih=>intro Q E p s hn h;exact⟨h.1,ih _ Q E p _ hn h.2⟩
 |os q _ k ih=>intro Q E p s hn h;exact ih _ Q E p _ hn h
 |call c hd _ _ k ih=>intro Q E p s hn h;obtain⟨r,s',hr,h⟩:=h;exact⟨r,s',hr,ih r Q E p s' (λb d=>dead_runs hr (hn b d)) h⟩
 |handled own k ih=>intro Q E p s hn h;exact ih _ Q E p s hn h
 |genState g k ih=>intro Q E p s hn h;obtain⟨st,hs,h⟩:=h;exact⟨st,hs,ih _ Q E p s hn h⟩
 |newGen c k ih=>intro Q E p s hn h;exact ih _ Q E p _ hn h
 |resume g r _ k ih=>intro Q E p s hn h;obtain⟨res,s',hw,h⟩:=h;exact⟨res,s',hw,ih res Q E p s' (λb d=>Vz hw (hn b d)) h⟩
 |yield _ _ _ _=>intro Q E p s _ h;exact h
 |stack k ih=>intro Q E p s hn h;exact ih _ Q E p s hn h
 |fork _ _=>intro Q E p s _ h;exact h
 |thread k ih=>intro Q E p s hn h;exact ih _ Q E p s hn h
 |await _ _ _ _ _=>intro Q E p s _ h;exact h
theorem Yl{α:Type}{M:Model}{A:Around}{s:Shared}{t:Sem α}{Q:α->Shared->Prop}{E:Value->Shared->Prop}(h:wpAny M A t Q (λe s'=>(∀b,Iz s.heap b->Iz s'.heap b)->s.heap.objs.size<=s'.heap.objs.size->E e s') s):wpAny M A t Q E s:=by
 have h2:=L3 h;intro Γ p hΓ;have h3:=h2 Γ p hΓ;refine zC2 M Γ s.heap t _ _ p s (λ_ d=>d) ?_
 exact Sem.wp_mono M Γ t (λa p' s' q=>q.2) (λe p' s' q d=>q.2 d q.1) p s h3
noncomputable def zJn:List Value:=[.type "ValueError",.type "Exception",.type "BaseException",.type "object"]
structure Q9 (G:Gd) (C:Addr) (bm:List Value):Prop where
 obj:∃nm q N bs hdct sn sub ab col dd k0 k1 k2 k3 k5,G.h0.get? C=some (excClassObj nm q C N bs bm hdct sn sub ab col dd k0 k1 k2 k3 k5 "ValueError.__new__")∧∃mN,G.h0.Ns N mN∧mN "__init__"=none
 tail:OwnTail G.h0 zJn bm
noncomputable def zFW (d:Data) (f:ClassData->Bool):Bool:=match d with
 |.cls cd=>f cd
 |_=>false
theorem zBU{P:Prop}{d:Data}{f:ClassData->Bool}(q:zFW d f=true) (k:∀cd,d=.cls cd->f cd=true->P):P:=by
 cases d<;>first|(cases q;done)|exact k _ rfl q
noncomputable def zCY {α:Type}(o:Option α) (f:α->Bool):Bool:=match o with
 |some a=>f a
 |none=>false
theorem Y6{P:Prop}{α:Type}{o:Option α}{f:α->Bool}(q:zCY o f=true) (k:∀a,o=some a->f a=true->P):P:=by
 cases o with
 |none=>cases q
 |some a=>exact k a rfl q
open PySem.W in
noncomputable def zKU (K:Frag) (C:Addr) (o:Obj) (cd:ClassData):Bool:=o.cls== .type "type"&&(cd.mro.head? ==some (.ref C)&&(cd.hasDel==false&&(tailIn K zJn cd.mro.tail&&(nsOkIn K cd.ns&&(nsIn K cd.ns "__init__"==some none&&(o.slots.toList.length==6&&o.slots.toList[4]? ==some (some (.builtin "ValueError.__new__"))))))))
open PySem.W in
noncomputable def zJc (K:Frag) (C:Addr):Bool:=zCY (K.lookup C) λo=>zFW o.data (zKU K C o)
theorem zHd{P:Prop}{l:List (Option Value)}(h1:(l.length==6)=true) (h2:(l[4]? ==some (some (.builtin "ValueError.__new__")))=true) (k:∀k0 k1 k2 k3 k5,l=[k0,k1,k2,k3,some (.builtin "ValueError.__new__"),k5]→P):P:=by
 rcases l with _|⟨k0,_|⟨k1,_|⟨k2,_|⟨k3,_|⟨k4,_|⟨k5,_|⟨k6,l⟩⟩⟩⟩⟩⟩⟩<;>first|(cases h1;done)|skip
 ·exact k k0 k1 k2 k3 k5 (by rw[show k4=_ from Option.some.inj (beq_iff_eq.mp h2)])
theorem Vb{P:Prop}{a b:Bool}(h:(a&&b)=true) (k:a=true->b=true->P):P:=by
 cases a with
 |false=>cases h
 |true=>exact k rfl h
theorem zDU{α:Type}{l:List α}{a:α}(h:l.head? =some a):l=a::l.tail:=by
 cases l with
 |nil=>cases h
 |cons b l=>cases h;rfl
open PySem.W in
theorem zD3{P:Prop}{K:Frag}{C:Addr}(q:zJc K C=true) (k:∀nm bs bm ns qn hd sn sub ab col dd k0 k1 k2 k3 k5,K.lookup C=some ⟨.type "type",dd,.cls ⟨nm,bs,.ref C::bm,ns,qn,hd,sn,sub,ab,col,false⟩,#[k0,k1,k2,k3,some (.builtin "ValueError.__new__"),k5]⟩→tailIn K zJn bm=true→nsOkIn K ns=true→nsIn K ns "__init__"=some none→P):P:=by
 refine Y6 q λo ho q=>zBU q λcd hd q=>Vb q λq1 q=>Vb q λq2 q=>Vb q λq3 q=>Vb q λq4 q=>Vb q λq5 q=>Vb q λq6 q=>Vb q λq7 q8=>zHd q7 q8 λk0 k1 k2 k3 k5 e=>?_
 have e1:=beq_iff_eq.mp q1;have e3:=beq_iff_eq.mp q3;have e2:cd.mro=.ref C::cd.mro.tail:=zDU (beq_iff_eq.mp q2)
 refine k cd.name cd.bases cd.mro.tail cd.ns cd.qualname cd.hasDict cd.slotNames cd.subclasses cd.abstract cd.collection o.dict k0 k1 k2 k3 k5 ?_ q4 q5 (beq_iff_eq.mp q6)
 simp only[←e2,←e3,←e1,ho];obtain⟨cl,dd,data,⟨sl⟩⟩:=o;have e:sl=_:=e
 have hd:data=_:=hd
 simp only[hd,e]
theorem Ih{G:Gd}{K:PySem.W.Frag}{C:Addr}(L:zAI G K) (q:zJc K C=true):∃bm,Q9 G C bm:=
 zD3 q λnm bs bm ns qn hd sn sub ab col dd k0 k1 k2 k3 k5 ho ht hok hni=>⟨bm,⟨nm,qn,ns,bs,hd,sn,sub,ab,col,dd,k0,k1,k2,k3,k5,L.kin _ _ ho,_,.of_isNs (PySem.W.isNs_of_in L.kin hok),PySem.W.nsMap_none_of_in L.kin hok hni⟩,PySem.W.tail_of_in L.kin ht⟩
theorem Q9.base{G:Gd}{C:Addr}{bm:List Value}(c:Q9 G C bm):bm.contains (.type "BaseException")=true:=c.tail.hasType (by decide)
section
variable {G:Gd}{C:Cx}{A:Around}{P:List Addr}{env:Env}{s:Shared}{ρ:List Addr}{st:St}
noncomputable def H0 (c:Addr):Mn Fl:=λst=>.exc c st
theorem zCg{x:Str}{c:Addr}{bm:List Value}{msg:Str}{k:Nat}{np cpos pos mp:Pos}(hi:C.inh=false) (hg:D8 G x (.ref c)) (hn:C.names.lookup x=some .globalImplicit) (hd:(x==("__debug__":Str))=false) (hC:Q9 G c bm):
  SS G C (.Raise (some (.Call (.Name x np) [.Constant (.str msg) k mp] [] cpos)) none pos) (H0 c):=.mk <| λA P env s ρ st K W hb=>by
 obtain⟨nm,q,N,bs,hdct,sn,sub,ab,col,dd,k0,k1,k2,k3,k5,ho,mN,hns,hni⟩:=hC.obj;refine Yl ?_
 refine wpAny_Raise_call_subT (C:=c) (N:=N) (nm:=nm) (q:=q) (bs:=bs) (bm:=bm) (hdct:=hdct) (sn:=sn) (sub:=sub) (ab:=ab) (col:=col) (dd:=dd) (k0:=k0) (k1:=k1) (k2:=k2) (k3:=k3) (k5:=k5) (mN:=mN) PySem.F.excBase_ValueError hC.base (K.room.hd hi) rfl hni ?_
 refine Fd K hg hn hd ⟨rfl,?_⟩
 refine Calls.evalArgs_plain ?_
 show wpAny G.M A (eval (.Constant (.str msg) k mp) env >>= λv=>pure [v] >>= λhere=>holding here (pure []) >>= λr=>pure (here++r)) _ _ s
 refine wpAny_bind (Calls.Constant_str (wpAny_bind (wpAny_pure (wpAny_bind (wpAny_holding (wpAny_pure (wpAny_pure ?_)))))))
 have g2:B8 G.h0 s.heap:=K.inv.base
 refine⟨rfl,by show 1<=sizeLine;decide,K.inv.base _ _ ho,hns.keeps g2,hC.tail.keeps g2,λh' ea hm hdead hz=>?_⟩
 obtain⟨tt,hte,htn,htt⟩:=hm.there;have hge:s.heap.objs.size<=ea:=by
  rcases Nat.lt_or_ge ea s.heap.objs.size with hlt|hge
  ·have:=(hdead ea ⟨hlt,hm.new⟩).2
   rw[show h'.get? ea=_ from hte]at this;cases this
  ·exact hge
 have gg:B8 s.heap h':=hm.keeps
 exact⟨ρ,c,st,ea,rfl,K.inv.grow gg hz _,(gg.ev hz).nil,K.frm.keep K.inv (gg.ev hz),rfl,hge,_,_,hte,⟨rfl,rfl⟩,rfl,by simp,.inl rfl⟩
end
noncomputable def zHN (l:C3) (i:Nat):C3:=λj=>if j=i then none else l j
noncomputable def Ky (body:Mn Fl) (sub:Addr->Bool) (i:Nat) (hd:Mn Fl):Mn Fl:=λst=>match body st with
 |.ok fl st'=>.ok fl st'
 |.bot=>.bot
 |.exc c st'=>match sub c with
  |true=>match hd ⟨upd st'.loc i (.exc c),st'.sto⟩with
   |.ok fl st''=>.ok fl ⟨zHN st''.loc i,st''.sto⟩
   |.exc _ _=>.bot
   |.bot=>.bot
  |false=>.bot
section
variable {G:Gd}{C:Cx}{A:Around}{P:List Addr}{env:Env}{s:Shared}{ρ:List Addr}{st:St}{σ:Bm}
theorem Ho.lose{tbl:List Str}{loc:C3}(F:Ho G tbl P env s.heap ρ loc) (I:Cy G s ρ σ){i:Nat}{x:Str}{ov:Option Value}{m:Str->Option Value}{h':Heap}(hi:tbl[i]? =some x)
  (hm:s.heap.Ns env.locals m) (q:∀(i:Nat) (x:Str),tbl[i]? =some x->env.kindOf x=some .local->∀d,loc i=some d->∃v,m x=some v/\Cn G s.heap ρ d v)
  (hn:h'.Ns env.locals (λy=>if y=x then ov else m y)) (hs:Heap.SameBut env.locals s.heap h') (t:Nat):
  Cy G {s with heap:=h',toks:=t} ρ σ/\Ev P s.heap ρ h' ρ/\Ho G tbl P env h' ρ (zHN loc i)/\Ks s.heap ρ h' ρ:=by
 have own:=F.own _ F.lP;apply yo;intro _ k0
 obtain⟨oL,esL,epL,hoL,hdL,rL⟩:=id hm;obtain⟨I',x',S⟩:=Mo (P:=P) I hs F.lP own.1 F.lrho ⟨oL,hoL,.inl ⟨esL,epL,hdL⟩⟩ t
 apply k0
 have cellne:∀y c,env.cells.lookup y=some c->c≠env.locals:=λy c e z=>by
  obtain⟨_,ov,o,ho,hd⟩:=F.cok y c e;rw[z,hoL]at ho;cases ho;rw[hdL]at hd;cases hd
 have dl:∀j d',zHN loc i j=some d'->j≠i/\loc j=some d':=λj d' e=>by
  unfold zHN at e;by_cases hj:j=i
  ·rw[if_pos hj]at e;cases e
  ·rw[if_neg hj]at e;exact⟨hj,e⟩
 refine⟨I',x',⟨F.kind,F.glob,F.bi,⟨_,hn,λj y e k d' hd'=>?_⟩,λj y e k=>?_,λy c e=>?_,F.cinj,F.lrho,F.lP,F.own,F.tnd⟩,S⟩
 ·apply yo;intro _ k0
  obtain⟨hj,hd'⟩:=dl _ _ hd';obtain⟨v',e1,e2⟩:=q j y e k d' hd';apply k0
  have hy:y≠x:=λz=>hj (Bp F.tnd (z▸e) hi)
  exact⟨v',(if_neg hy).trans e1,Cn.mono S _ _ e2⟩
 ·apply yo;intro _ k0
  obtain⟨c,e1,ov,n,qq⟩:=F.cell j y e k;apply k0
  refine⟨c,e1,ov,n.sameBut hs (cellne y c e1),λd' hd'=>?_⟩
  obtain⟨v',e1,e2⟩:=qq d' (dl _ _ hd').2;exact⟨v',e1,Cn.mono S _ _ e2⟩
 ·obtain⟨n,ov,z⟩:=F.cok y c e;exact⟨n,ov,z.sameBut hs (cellne y c e)⟩
theorem Y7(I:Cy G s ρ σ){a c:Addr}{o:Obj}(ho:s.heap.get? a=some o) (hc:o.cls=.ref c):a∉ρ:=λm=>by
 obtain⟨k,hk,e⟩:=List.getElem_of_mem m;have hk':k<σ.length:=by rw[←I.len];exact hk
 have r:=I.sto k a σ[k] (by rw[List.getElem?_eq_getElem hk,e]) (List.getElem?_eq_getElem hk');generalize σ[k]=p at r
 cases p with
 |list ds=>obtain⟨vs,⟨n,z⟩,_⟩:=r;rw[ho]at z;cases z;cases hc
 |dict kvs=>obtain⟨xs,⟨o',es,ep,z,hx,_⟩,_⟩:=r;rw[ho]at z;cases z;rw[hx.1]at hc;cases hc
 |priv=>obtain⟨_,_,z⟩:=r;rw[ho]at z;cases z;cases hc
 |ctab A l cl q k=>
  obtain⟨rfl,r⟩:=r
  cases k with
  |none=>rw[show s.heap.get? a=_ from r]at ho;cases ho;cases hc
  |some k=>obtain⟨c',_,z⟩:=r;rw[z]at ho;cases ho;cases hc
 |code q=>obtain⟨o',vs,t,z,zc,_⟩:=r;rw[ho]at z;cases z;rw[zc]at hc;cases hc
theorem Ru{h:Heap}{a c:Addr}{o:Obj}{vs:Array Value}(ho:h.get? a=some o) (hc:zAt o c) (hd:o.data=.fields vs):PySem.W.InstAt h a o c none:=
 ⟨ho,hc.1,by unfold PySem.W.notCls;rw[hd],by rw[hc.2];trivial⟩
theorem Lh{h:Heap}{v:Value}(S:Sj G A env h ρ):Sj G (A.mark (some v)) env h ρ:=⟨S.fr,S.ff⟩
theorem zHa{K:PySem.W.Frag}{body suite:List Stmt}{b₀:Stmt}{x n:Str}{T:Addr}{i:Nat}{np hp pos:Pos}{mb mh:Mn Fl}{sub:Addr->Bool}(kin:K.In G.h0) (h1:Uh G C body mb)
  (h2:Uh G ⟨C.names,C.tbl,C.lvl,true,C.code,C.qual⟩ (b₀::suite) mh) (hg:D8 G x (.ref T)) (hn:C.names.lookup x=some .globalImplicit) (hd:(x==("__debug__":Str))=false) (hi:C.tbl[i]? =some n) (hl:C.names.lookup n=some .local)
  (hsub:∀c,sub c=true->PySem.W.exmOne K (.ref c) (.ref T)=some true):
  SS G C (.Try body [.ExceptHandler (some (.Name x np)) (some n) (b₀::suite) hp] [] [] pos) (Ky mb sub i mh):=.mk <| λA P env s ρ st K0 W hb=>by
 refine wpAny_Try_except ?_
 have hb1:mb st≠.bot:=λz=>hb (by unfold Ky;rw[z])
 have hb0:∀b,s.heap.objs.size<=b->G.h0.get? b=none:=λb z=>K0.inv.h0_le z
 refine wpAny_mono (h1.run A P env s ρ st K0 W hb1) (λf s1 q=>?_) λe s1 q=>?_
 ·obtain⟨ρ1,fl,st1,e1,I1,x1,F1,rr⟩:=q;have e2:Ky mb sub i mh st=.ok fl st1:=by unfold Ky;rw[e1]
  rw[e2]
  cases fl with
  |next=>cases(show f=.next from rr);exact wpAny_execs_nil ⟨ρ1,.next,st1,rfl,I1,x1,F1,rfl⟩
  |brk=>cases(show f=.brk from rr);exact⟨ρ1,.brk,st1,rfl,I1,x1,F1,rfl⟩
  |cont=>cases(show f=.cont from rr);exact⟨ρ1,.cont,st1,rfl,I1,x1,F1,rfl⟩
  |ret d=>obtain⟨v,rfl,r⟩:=rr;exact⟨ρ1,.ret d,st1,rfl,I1,x1,F1,v,rfl,r⟩
 ·obtain⟨ρ1,c,st1,a,e1,I1,x1,F1,rfl,fl⟩:=q
  cases hs:sub c with
  |false=>exact absurd (by unfold Ky;simp only[e1,hs]) hb
  |true=>
   cases hm:mh ⟨upd st1.loc i (.exc c),st1.sto⟩with
   |bot=>exact absurd (by unfold Ky;simp only[e1,hs,hm]) hb
   |exc c' st'=>exact absurd (by unfold Ky;simp only[e1,hs,hm]) hb
   |ok fl2 st2=>
    have e2:Ky mb sub i mh st=.ok fl2 ⟨zHN st2.loc i,st2.sto⟩:=by unfold Ky;simp only[e1,hs,hm]
    rw[e2];have K1:=K0.stepS I1 x1 F1;refine Ls K1.stk fl x1.size λL h2' hL N T1=>?_
    refine Eg (G:=G) (ρ:=ρ1) (s:={s1 with heap:=h2'}) (fr:=none) T1 λh3 N3 T3=>?_
    have N13:=N.trans N3;have I3:=N13.inv I1 hb0 s1.toks;have x3:=N13.ev x1;have F3:=N13.frm F1;have K3:Ok G ⟨C.names,C.tbl,C.lvl,true,C.code,C.qual⟩ (A.mark (some (.ref a))) P env {s1 with heap:=h3} ρ1 st1:=
     ⟨⟨λz=>absurd z Bool.noConfusion,K0.room.depth,K0.room.units⟩,K0.sees,I3,F3,Lh (N13.stk K1.stk),K0.code,K0.qual⟩
    refine wpAny_handleBy_cons (codeAny_handlers_test ?_) (by intro q;cases q)
    refine Fd K3 hg hn hd ?_
    obtain⟨hna,o,vs,T',oT,ts,ho,hc,hdd,hsz,t1,t2,t3,t4,t5,t6,t7⟩:=id T3;have kin3:K.In h3:=λb o e=>I3.base b o (kin b o e)
    refine(PySem.W.exm_one (M:=G.M) kin3 (Ru ho hc hdd).type (hsub c hs)).at ?_
    refine codeAny_handlers_suite_as ?_
    refine Eg (G:=G) (ρ:=ρ1) (s:={s1 with heap:=h3}) (fr:=none) T3 λh4 N4 T4=>?_
    have N14:=N13.trans N4;have I4:=N14.inv I1 hb0 s1.toks;have x4:=N14.ev x1;have F4:=N14.frm F1;have K4:Ok G ⟨C.names,C.tbl,C.lvl,true,C.code,C.qual⟩ (A.mark (some (.ref a))) P env {s1 with heap:=h4} ρ1 st1:=
     ⟨⟨λz=>absurd z Bool.noConfusion,K0.room.depth,K0.room.units⟩,K0.sees,I4,F4,Lh (N14.stk K1.stk),K0.code,K0.qual⟩
    obtain⟨hna4,o4,vs4,_,_,_,ho4,hc4,hd4,_⟩:=id T4;refine Lq K4 hi hl (d:=.exc c) (v:=.ref a) (by exact⟨a,rfl,Y7 I4 ho4 hc4.1,o4,ho4,hc4,vs4,hd4⟩) λs5 I5 x5 F5=>?_
    have K5:=K4.stepS (st':=⟨upd st1.loc i (.exc c),st1.sto⟩) I5 x5 F5;have x15:=x4.trans x5;refine wpAny_mono (h2.run (A.mark (some (.ref a))) P env s5 ρ1 ⟨upd st1.loc i (.exc c),st1.sto⟩ K5 W (by rw[hm];intro z;cases z)) (λf s6 q=>?_) λx6 s6 q=>?_
    ·obtain⟨ρ6,fl6,st6,e6,I6,x6,F6,rr⟩:=q;rw[hm]at e6
     cases e6;obtain⟨mL,nL,qL⟩:=F6.ns;refine wpAny_nameGoes_keeps (K0.sees.loc n hl) nL (by rw[F6.kind];rfl) λh7 v7 n7 sb7=>?_
     obtain⟨I7,x7,F7,S7⟩:=F6.lose I6 hi nL qL n7 sb7 (s6.toks+1)
     refine⟨ρ6,fl2,⟨zHN st2.loc i,st2.sto⟩,rfl,I7,(x15.trans x6).trans x7,F7,?_⟩
     cases fl2 with
     |next=>exact rr
     |brk=>exact rr
     |cont=>exact rr
     |ret d=>obtain⟨v,e,r⟩:=rr;exact⟨v,e,Cn.mono S7 _ _ r⟩
    ·obtain⟨_,_,_,_,e6,_⟩:=q;rw[hm]at e6
     cases e6
end
noncomputable abbrev Gu:=List (Addr×Bool)
noncomputable def Jb (t:Gu):D->Mn D
 |.exc c=>U9 ((t.lookup c).map D.bool)
 |_=>botM
open PySem.W in
theorem Yj{prog:Program}{w:World}{A:Around}{E:Value→Shared→Prop}{K:Frag}{a c:Addr}{o:Obj}{nameV:Value}{s:Shared}{Q:Unit→Shared→Prop}(X:K.In s.heap) (I:InstAt s.heap a o c none) (hmB:mroIn K c (.type "BaseException")=some true) (hq:Q () s):
  wpAny (model prog w) A (checkBuiltinCall "BaseException.__getattribute__" ⟨[.ref a,nameV],[]⟩) Q E s:=by
 have hk:builtinKind "BaseException.__getattribute__"=some .slot:=by decide+kernel
 have hsplit:splitId "BaseException.__getattribute__"=some ("BaseException","__getattribute__"):=by decide+kernel
 obtain⟨hh,g,d,t,os⟩:=s;have L0:=I.type (M:=model prog w);have LB:=looks_mroIn (M:=model prog w) X hmB;have ha:=F.args_bexc_ga (.ref a) nameV;rw[checkBuiltinCall,hk,hsplit];refine wpAny_bind ?_
 unfold isInstance
 repeat (first|lk|wp_step)
 exact hq
open PySem.W in
theorem Zc{prog:Program}{w:World}{A:Around}{E:Value→Shared→Prop}{K:Frag}{a c:Addr}{o:Obj}{s:Shared}{Q:Option Value→Shared→Prop}(X:K.In s.heap) (I:InstAt s.heap a o c none) (hga:findIn K (.ref c) "__getattribute__"=some (some (.builtin "BaseException.__getattribute__"))) (hgt:findIn K (.ref c) "__getattr__"=some none)
  (hf:findObj K c none "__class__"=some (.bind (.builtin "getset_descriptor.__get__") (.builtin "object.__class__"))) (hmB:mroIn K c (.type "BaseException")=some true) (hm:mroIn K c (.type "object")=some true) (k:Q (some (.ref c)) {s with toks:=s.toks+1}):
  wpAny (model prog w) A (getAttr? (.ref a) "__class__") Q E s:=by
 obtain⟨hh,g,d,t,os⟩:=s;have L0:=I.type (M:=model prog w);have L1:=looks_findIn (M:=model prog w) X hga;have L2:=looks_findIn (M:=model prog w) X hgt;have Lf:=looks_find (M:=model prog w) X I hf;unfold getAttr? getAttrBy? getAttrBy
 refine wpAny_bind (wpAny_mkText (wpAny_bind (wpAny_attempt (wpAny_holding (wpAny_bind (L0.at (wpAny_bind (L1.at ?_))))))))
 have hx2:(Value.builtin "BaseException.__getattribute__"==Value.builtin "object.__getattribute__")=false:=by decide+kernel
 dsimp only;rw[hx2,Bool.and_false,if_neg Bool.false_ne_true];refine wpAny_bind (L2.at (wpAny_bind (wpAny_attempt (wpAny_holding ?_))))
 unfold callGetattribute boundAndCalled;rw[Bool.false_and,if_neg Bool.false_ne_true];rw[F.excAttr_ValueError.ga.bind (.ref a)];refine wpAny_bind (wpAny_pure ?_)
 refine wpAny_call (codeAny_call_builtin F.excAttr_ValueError.ga.plain F.entry_bexc_ga (Yj X I hmB ?_))
 refine wpAny_bind (wpAny_pure (wpAny_bind (wpAny_pure (wpAny_bind (L0.at (wpAny_bind (Lf.at ?_)))))))
 refine wpAny_bind (wpAny_holding (wpAny_call (class_get (ox:=o) (od:=none) X I hm ?_)))
 refine wpAny_pure (a:=Fin.done (.ret (.ref c))) ?_
 exact wpAny_pure (wpAny_pure k)
open PySem.W in
noncomputable def zH2:Option PySem.Builtin.ObjectAttr.Found->Bool
 |some (.bind (.builtin g) (.builtin a))=>g=="getset_descriptor.__get__"&&a=="object.__class__"
 |_=>false
open PySem.W in
theorem zFN{o:Option PySem.Builtin.ObjectAttr.Found}(h:zH2 o=true):o=some (.bind (.builtin "getset_descriptor.__get__") (.builtin "object.__class__")):=by
 unfold zH2 at h;split at h
 ·exact Ay h λq1 q2=>by rw[beq_iff_eq.mp q1,beq_iff_eq.mp q2]
 ·cases h
open PySem.W in
theorem zA0{K:Frag}{c:Addr}{cd:ClassData}(h:clsIn K c=some cd):∃c' d' sl',K.lookup c=some ⟨c',d',.cls cd,sl'⟩:=by
 unfold clsIn at h;split at h
 ·rename_i c' d' cd' sl' ho
  cases h;exact⟨_,_,_,ho⟩
 ·cases h
open PySem.W in
noncomputable def zHg (K:Frag) (c:Addr):Bool:=(clsIn K c).isSome&&(findIn K (.ref c) "__getattribute__"==some (some (.builtin "BaseException.__getattribute__")))&&(findIn K (.ref c) "__getattr__"==some none)&&zH2 (findObj K c none "__class__")&&(mroIn K c (.type "BaseException")==some true)&&(mroIn K c (.type "object")==some true)
open PySem.W in
theorem zCT{K:Frag}{a c:Addr}{o:Obj}(h:zHg K c=true):KitX K (.ref a) (.ref c) (λh=>InstAt h a o c none):=by
 refine Ay h λh h4=>Ay h λh h5=>Ay h λh h3=>Ay h λh h6=>Ay h λh1 h2=>?_
 obtain⟨cd,hcd⟩:=Option.isSome_iff_exists.mp h1;have hf:findObj K c none "__class__"=some (.bind (.builtin "getset_descriptor.__get__") (.builtin "object.__class__")):=zFN h3
 refine⟨λ_ _ _ I=>I.type,λ_ _ X _=>?_,λh tp dd its n sl X htp=>?_,λX I k=>Zc X I (beq_iff_eq.mp h2) (beq_iff_eq.mp h6) hf (beq_iff_eq.mp h5) (beq_iff_eq.mp h4) k⟩
 ·unfold clsIn at hcd;split at hcd
  ·rename_i c' d' cd' sl' ho;intro A' Q' E' s' k q;exact wpAny_bind (wpAny_loadPart (k _ _ (X _ _ ho)) (wpAny_pure q))
  ·cases hcd
 ·refine Bool.eq_false_iff.mpr λq=>?_
  have e:c=tp:=Value.ref.inj (beq_iff_eq.mp q)
  subst e;obtain⟨c',d',sl',ho⟩:=zA0 hcd;have z:=(X _ _ ho).symm.trans htp
  cases z
section
variable {G:Gd}{C:Cx}{A:Around}{P:List Addr}{env:Env}{s:Shared}{ρ:List Addr}{st:St}{K:PySem.W.Frag}
noncomputable def zI9 (K:PySem.W.Frag) (V:Value) (t:Gu):Prop:=∀c b,t.lookup c=some b->zHg K c=true/\PySem.W.kitOne K (.ref c) V=some b
theorem zG8{V:Value}{t:Gu}{d:D}{v:Value}(kin:K.In G.h0) (ht:zI9 K V t) (K':Ok G C A P env s ρ st) (r:Cn G s.heap ρ d v):At G A env s ρ st (RV G) (call (.builtin "isinstance") [v,V]) (Jb t d):=by
 refine At.leaf (λhb=>?_) K'
 cases d<;>first|exact absurd rfl hb|skip
 rename_i c;apply yo;intro _ k0
 obtain⟨a,rfl,hna,o,ho,hc,vs,hd⟩:=r;apply k0
 cases hf:t.lookup c with
 |none=>exact absurd (by unfold Jb;simp only[hf];rfl) hb
 |some b=>
  obtain⟨h1,h2⟩:=ht c b hf;exact PySem.W.kia_one (zCT h1) (λb o e=>K'.inv.base b o (kin b o e)) (Ru ho hc hd) h2 (by intro z;cases z) λtk=>⟨.bool b,by unfold Jb;simp only[hf];rfl,B8.same,rfl⟩
theorem zGy{V:Value}{t:Gu}{x:Str}{e:Expr}{m:Mn D}{np tp pos:Pos}(kin:K.In G.h0) (ht:zI9 K V t) (hg:Dj G "isinstance" (.builtin "isinstance")) (hn:C.names.lookup ("isinstance":Str)=some .globalImplicit)
  (hV:D8 G x V∨Dj G x V) (hnT:C.names.lookup x=some .globalImplicit) (hdT:(x==("__debug__":Str))=false) (he:SE G C e m) (hst:∀env,starEach [e,.Name x tp] env=[(false,eval e env),(false,eval (.Name x tp) env)]):
  SE G C (.Call (.Name "isinstance" np) [e,.Name x tp] [] pos) (bnd m (Jb t)):=.mk <| λA P env s ρ st K0 hb=>by
 refine wpAny_bind (F0 K0 hg hn (by decide) ?_)
 rw[hst];refine Calls.callWith_builtin rfl (Calls.evalArgs_plain (Calls.spliced_cons (wpAny_mono (he.run A P env s ρ st K0 (B6 hb)) (λv s' q=>?_) λx s' q=>?_)))
 ·refine H3.elim q λρ' d σ' e' I' x' r=>?_
  have K':=K0.step I' x';have e2:bnd m (Jb t) st=Jb t d ⟨st.loc,σ'⟩:=by simp only[bnd,e']
  rw[e2]at hb ⊢;have go:=wpAny_mono (zG8 (V:=V) kin ht K' r hb) (λw s'' q=>H3.tr q x') λw s'' q=>C1.tr q x'
  rcases hV with hV|hV
  ·exact Calls.spliced_cons (Fd K' hV hnT hdT (Calls.spliced_nil go))
  ·exact Calls.spliced_cons (F0 K' hV hnT hdT (Calls.spliced_nil go))
 ·exact C1.bnd q
noncomputable abbrev Kf:=List (Str×(Value×Gu))
noncomputable def zKT (cl:Kf) (X:W3) (C:Cx):List Expr->Option (Mn D)
 |a::t::r=>gd (r.isEmpty&&Ci a) (ob (Gs t) λx=>gd (G7 C x&&!(x==("__debug__":Str))) (ob (cl.lookup x) λp=>ob (X.e C a) λm=>some (bnd m (Jb p.2))))
 |_=>none
noncomputable def zGB (cl:Kf) (X:W3) (C:Cx):Expr->Option (Mn D)
 |.Call f as ks _=>gd (ks.isEmpty&&Gs f==some (Str.ofString "isinstance")&&G7 C (Str.ofString "isinstance")) (zKT cl X C as)
 |_=>none
structure ClOk (G:Gd) (K:PySem.W.Frag) (cl:Kf):Prop where
 kin:K.In G.h0
 nm:∀x V t,cl.lookup x=some (V,t)->(D8 G x V∨Dj G x V)/\zI9 K V t
 isi:Dj G (Str.ofString "isinstance") (.builtin "isinstance")
theorem zCt{cl:Kf}(ok:ClOk G K cl):∀X C e m,Ct G X->zGB cl X C e=some m->SE G C e m:=λX C e m hX h0=>by
 cases e with
 |Call f as ks p=>
  refine Bu h0 λhc h=>Ay hc λhc h3=>Ay hc λh1 h2=>?_
  obtain⟨np,rfl⟩:=H5 (beq_iff_eq.mp h2);rw[E7 h1]
  cases as with
  |nil=>exact B0 h
  |cons a r=>cases r with
   |nil=>exact B0 h
   |cons t r=>
    refine Bu h λhc h1'=>Ay hc λhr hs=>Ao h1' λx hx h=>Bu h λhc h=>Ay hc λk1 k2=>Ao h λq hq h=>Ao h λm' hm h=>Al (P:=SE G C _) h ?_
    obtain⟨tp,rfl⟩:=H5 hx;rw[E7 hr];obtain⟨V,tt⟩:=q;obtain⟨g1,g2⟩:=ok.nm _ _ _ hq;exact zGy ok.kin g2 ok.isi (Cw h3) g1 (Cw k1) (not_true k2) (hX.e _ _ _ hm) λenv=>by rw[Cu hs];rfl
 |_=>exact B0 h0
noncomputable def zFn:Expr->Option Const
 |.Constant c _ _=>some c
 |_=>none
theorem zGR{e:Expr}{c:Const}(h:zFn e=some c):∃k p,e=.Constant c k p:=by
 cases e with
 |Constant c k p=>cases h;exact⟨k,p,rfl⟩
 |_=>exact B0 h
noncomputable def zI6:Const->Option Str
 |.str x=>some x
 |_=>none
theorem zH0{c:Const}{x:Str}(h:zI6 c=some x):c=.str x:=by
 cases c<;>first|exact B0 h|(cases h;rfl)
noncomputable def zF0 {α:Type}:List α->Option α
 |[a]=>some a
 |_=>none
theorem zGq{α:Type}{l:List α}{a:α}(h:zF0 l=some a):l=[a]:=by
 rcases l with _|⟨b,_|⟨c,l⟩⟩
 ·exact B0 h
 ·cases h;rfl
 ·exact B0 h
noncomputable def Wq (e:Expr):Option Str:=ob (Wg e) λq=>gd q.2.2.isEmpty (ob (zF0 q.2.1) λa=>ob (zFn a) λc=>ob (zI6 c) λ_=>Gs q.1)
theorem zBn{e:Expr}{x:Str}(h:Wq e=some x):∃np msg k mp cpos,e=.Call (.Name x np) [.Constant (.str msg) k mp] [] cpos:=by
 refine Ao h λq hq h=>Bu h λhk h=>Ao h λa ha h=>Ao h λc hc h=>Ao h λy hy hn=>?_
 obtain⟨f,as,ks⟩:=q;obtain⟨cpos,e0⟩:=zFF hq;obtain⟨np,e1⟩:=H5 hn;obtain⟨k,mp,e3⟩:=zGR hc;refine⟨np,y,k,mp,cpos,?_⟩
 rw[e0];dsimp only at e1 ha hk ⊢;rw[e1,zGq ha,e3,zH0 hy,E7 hk]
noncomputable def Xb:Value->Option Addr
 |.ref a=>some a
 |_=>none
theorem Vr{v:Value}{a:Addr}(h:Xb v=some a):v=.ref a:=by cases v<;>first|(cases h;rfl)|cases h
noncomputable def zCL:List ExceptHandler->Option (Str×Str×List Stmt)
 |[.ExceptHandler (some e) (some n) b _]=>ob (Gs e) λx=>some (x,n,b)
 |_=>none
theorem zEO{l:List ExceptHandler}{x n:Str}{b:List Stmt}(h:zCL l=some (x,n,b)):∃np hp,l=[.ExceptHandler (some (.Name x np)) (some n) b hp]:=by
 rcases l with _|⟨⟨ty,nm,b,hp⟩,l⟩
 ·exact B0 h
 rcases ty with _|e
 ·exact B0 h
 rcases nm with _|n'
 ·exact B0 h
 rcases l with _|⟨c,l⟩
 ·refine Ao h λy hy h=>?_
  cases h;obtain⟨np,rfl⟩:=H5 hy;exact⟨np,hp,rfl⟩
 ·exact B0 h
noncomputable def Y3 (t:Gu) (c:Addr):Bool:=match t.lookup c with
 |some b=>b
 |none=>false
noncomputable def zJo (cl:Kf) (X:W3) (C:Cx) (body:List Stmt) (p:Str×Str×List Stmt):Option (Mn Fl):=
 gd (G7 C p.1&&!(p.1==("__debug__":Str))&&!p.2.2.isEmpty&&C.names.lookup p.2.1==some .local) (ob (Pn p.2.1 C.tbl) λi=>ob (cl.lookup p.1) λq=>ob (Xb q.1) λT=>
  ob (X.s C body) λmb=>ob (X.s ⟨C.names,C.tbl,C.lvl,true,C.code,C.qual⟩ p.2.2) λmh=>some (Ky mb (Y3 q.2) i mh))
noncomputable def zAN (cl:Kf) (C:Cx) (e c:Option Expr):Option (Mn Fl):=gd (!C.inh&&c.isNone) (ob e λe=>ob (Wq e) λx=>gd (G7 C x&&!(x==("__debug__":Str))) (ob (cl.lookup x) λq=>ob (Xb q.1) λc=>some (H0 c)))
noncomputable def zIz (cl:Kf) (X:W3) (C:Cx) (body:List Stmt) (hs:List ExceptHandler) (oe fe:List Stmt):Option (Mn Fl):=gd (oe.isEmpty&&fe.isEmpty) (ob (zCL hs) (zJo cl X C body))
structure U7 (G:Gd) (K:PySem.W.Frag) (cl:Kf):Prop extends ClOk G K cl where
 cls:∀x c t,cl.lookup x=some (.ref c,t)->∃bm,Q9 G c bm
 exm:∀x T t,cl.lookup x=some (.ref T,t)->∀c,t.lookup c=some true->PySem.W.exmOne K (.ref c) (.ref T)=some true
 glob:∀x c t,cl.lookup x=some (.ref c,t)->D8 G x (.ref c)
theorem Z1{cl:Kf}(ok:U7 G K cl){C:Cx}{e c:Option Expr}{p:Pos}{m:Mn Fl}(h0:zAN cl C e c=some m):SS G C (.Raise e c p) m:=by
 refine Bu h0 λhc h=>Ay hc λh1 h2=>Ao h λe' he h=>Ao h λx hx h=>Bu h λhc h=>Ay hc λh3 h4=>Ao h λq hq h=>Ao h λa ha h=>Al (P:=SS G C _) h ?_
 obtain⟨np,msg,k,mp,cpos,rfl⟩:=zBn hx;obtain⟨V,t⟩:=q;obtain rfl:=Vr ha;subst he
 cases c with
 |some _=>cases h2
 |none=>
  obtain⟨bm,hC⟩:=ok.cls _ _ _ hq;exact zCg (not_true h1) (ok.glob _ _ _ hq) (Cw h3) (not_true h4) hC
theorem zD7{cl:Kf}(ok:U7 G K cl){X:W3}{C:Cx}{body:List Stmt}{hs:List ExceptHandler}{oe fe:List Stmt}{p:Pos}{m:Mn Fl}(hX:Ct G X) (h0:zIz cl X C body hs oe fe=some m):SS G C (.Try body hs oe fe p) m:=by
 refine Bu h0 λhc h=>Ay hc λh1 h2=>Ao h λq hq h=>?_
 obtain⟨x,n,b⟩:=q;obtain⟨np,hp,rfl⟩:=zEO hq;simp only[E7 h1,E7 h2];refine Bu h λhc h'=>Ay hc λhc h6=>Ay hc λhc h5=>Ay hc λh3 h4=>Ao h' λi hi h=>Ao h λq' hq' h=>Ao h λT hT h=>Ao h λmb hmb h=>Ao h λmh hmh h=>Al (P:=SS G C _) h ?_
 obtain⟨V,t⟩:=q';obtain rfl:=Vr hT;refine Ji h5 λb0 r e=>?_
 have e:b=b0::r:=e
 subst e;exact zHa ok.kin (hX.s _ _ _ hmb) (hX.s _ _ _ hmh) (ok.glob _ _ _ hq') (Cw h3) (not_true h4) (Dw hi) (beq_iff_eq.mp h6) λc hc=>ok.exm _ _ _ hq' c (by
  unfold Y3 at hc
  cases z:t.lookup c with
  |none=>rw[z]at hc;cases hc
  |some v=>rw[z]at hc;rw[show v=true from hc])
theorem Ox{t:Gu}{p:Addr×Bool->Bool}(h:t.all p=true){c:Addr}{b:Bool}(e:t.lookup c=some b):p (c,b)=true:=by
 induction t with
 |nil=>cases e
 |cons x l ih=>
  refine Ay h λh1 h2=>?_
  rw[List.lookup_cons]at e
  cases q:c==x.1 with
  |true=>rw[q]at e;cases e;rw[beq_iff_eq.mp q];exact h1
  |false=>rw[q]at e;exact ih h2 e
theorem Hk{V:Value}{t:Gu}(h:(t.all λp=>zHg K p.1&&(PySem.W.kitOne K (.ref p.1) V==some p.2))=true):zI9 K V t:=λc b e=>Ay (Ox h e) λh1 h2=>⟨h1,beq_iff_eq.mp h2⟩
theorem Hz{T:Addr}{t:Gu}(h:(t.all λp=>!p.2||(PySem.W.exmOne K (.ref p.1) (.ref T)==some true))=true):∀c,t.lookup c=some true->PySem.W.exmOne K (.ref c) (.ref T)=some true:=λc e=>by
 have:=Ox h e
 exact beq_iff_eq.mp this
end
noncomputable abbrev zLL (G:Gd) (K:PySem.W.Frag) (x:Str) (p:Value×Gu):Prop:=(D8 G x p.1∨Dj G x p.1)/\zI9 K p.1 p.2
noncomputable abbrev zLJ (G:Gd) (x:Str) (p:Value×Gu):Prop:=∀c,p.1=.ref c->∃bm,Q9 G c bm
noncomputable abbrev zLQ (K:PySem.W.Frag) (x:Str) (p:Value×Gu):Prop:=∀T,p.1=.ref T->∀c,p.2.lookup c=some true->PySem.W.exmOne K (.ref c) (.ref T)=some true
noncomputable abbrev zLP (G:Gd) (x:Str) (p:Value×Gu):Prop:=∀c,p.1=.ref c->D8 G x (.ref c)
section
open W
noncomputable def zFl (p:Arguments):Option Str:=gd (p.posonlyargs.isEmpty&&p.vararg.isNone&&p.kwonlyargs.isEmpty&&p.kw_defaults.isEmpty&&p.kwarg.isNone&&p.defaults.isEmpty) (match p.args with
 |[a]=>some a.arg
 |_=>none)
theorem zCh{p:Arguments}{x:Str}(h:zFl p=some x):∃a:Arg,p=⟨[],[a],none,[],[],none,[]⟩/\a.arg=x:=by
 obtain⟨p1,p2,p3,p4,p5,p6,p7⟩:=p;refine Bu h λhc h=>?_
 simp only[Bool.and_eq_true,List.isEmpty_iff,Option.isNone_iff_eq_none]at hc;obtain⟨⟨⟨⟨⟨rfl,rfl⟩,rfl⟩,rfl⟩,rfl⟩,rfl⟩:=hc
 cases p2 with
 |nil=>cases h
 |cons a r=>cases r with
  |nil=>exact⟨a,rfl,Option.some.inj h⟩
  |cons _ _=>cases h
noncomputable def zIo (c:Addr):Value->Bool
 |.ref a=>a==c
 |_=>false
noncomputable def zAW (scope:Scope) (x:Str):Bool:=I9 scope.names&&(scope.names.all λp=>p.2 !=.cell)&&scope.kind== .function&&!scope.isCoroutine&&!scope.isGenerator&&scope.names.lookup x==some .local
noncomputable def zIY (x:Str):Prop:=∀nm q ann ps body scope cl pm c ctv v,bindArgs (kla_fn nm q ⟨[],[⟨x,ann,ps⟩],none,[],[],none,[]⟩ body scope cl pm c ctv) ⟨[v],[]⟩=pure [(x,v)]
noncomputable def zFu (x:Str) (c:Addr) (kt:Nat) (T:Addr) (X:Cx->Expr->Option (Mn D)) (C:Cx):Expr->Option (List D->Mn D)
 |.Lambda p body scope pos=>ob (zFl p) λy=>gd (y==x&&zIo c C.code&&zAW scope x&&!C.inh&&decide (2≤C.lvl)) (ob (X ⟨scope.names,[x],C.lvl - 2,false,.none,""⟩ body) λm=>
  some λds=>bnd (Ic kt T pos.line pos.col (C.qual++"<lambda>")) λ_=>Bo (Nx m) ds)
 |_=>none
theorem zCn{G:Gd}{x:Str}{c:Addr}{kt:Nat}{T:Addr}(hbi:zIY x) (LG:zBw G c T) (hs:Dj G (Str.ofString "sorted") (.builtin "sorted")):∀X C v F e ms sp pos kp,(∀C x m,X C x=some m→SE G C x m)→zFu x c kt T X C v=some F→C.names.lookup (Str.ofString "sorted")=some .globalImplicit→SA G C [e] ms→(∀env,starEach [e] env=[(false,eval e env)])→
  SE G C (.Call (.Name (Str.ofString "sorted") sp) [e] [⟨some (Str.ofString "key"),v,kp⟩] pos) (bnd ms F):=by
 intro X C v F e ms sp pos kp hX h hn he hst
 cases v with
 |Lambda p body scope lp=>
  refine Ao h λy hx h=>Bu h λhc h=>Ao h λm hm h=>Al (P:=λF=>SE G C _ (bnd ms F)) h ?_
  apply yo;intro _ k0
  obtain⟨⟨y',ann,ps⟩,rfl,rfl⟩:=zCh hx;apply k0
  refine Ay hc λhc h4=>Ay hc λhc h3=>Ay hc λhc h2=>Ay hc λh0 h1=>?_
  obtain rfl:y'=x:=beq_iff_eq.mp h0
  have hcd:C.code=.ref c:=by
   cases e:C.code with
   |ref b=>rw[e]at h1;rw[show b=c from beq_iff_eq.mp h1]
   |_=>rw[e]at h1;cases h1
  simp only[zAW,Bool.and_eq_true,beq_iff_eq,Bool.not_eq_true']at h2;apply yo;intro _ k0
  obtain⟨⟨⟨⟨⟨k1,k2⟩,k3⟩,k4⟩,k5⟩,k6⟩:=h2;apply k0
  refine W4 hs hn LG hcd rfl k1 (λy m z=>?_) (λ_=>rfl) k3 k4 k5 k6 (λ_ _ _ _=>hbi _ _ _ _ _ _ _ _ _ _ _) (hX _ _ _ hm) (not_true h3) ?_ he hst
  ·have:=List.all_eq_true.mp k2 y m
   rw[z]at this;simp at this
  ·have:=of_decide_eq_true h4
   rw[Nat.sub_add_cancel this];exact Nat.le_refl _
 |_=>exact B0 h
end
section
open Builtin.Str
noncomputable def W {α:Type}(m:Mn α) (st:St) (Q:α->St->Prop):Prop:=∃a st',m st=.ok a st'/\Q a st'
structure zEC (a b:Prop):Prop where
 mpr:b->a
section
variable {α β:Type}{st:St}{Q:α->St->Prop}
theorem W.mono{m:Mn α}{Q':α->St->Prop}(h:W m st Q) (hq:∀a st',Q a st'->Q' a st'):W m st Q':=let⟨a,st',e,q⟩:=h;⟨a,st',e,hq a st' q⟩
theorem Af{m:Mn β}{f:β->Mn α}:W (bnd m f) st Q↔W m st (λb st'=>W (f b) st' Q):=by
 unfold W bnd;constructor
 ·rintro⟨a,st',e,q⟩
  cases h:m st with
  |ok b st''=>rw[h]at e;exact⟨b,st'',rfl,a,st',e,q⟩
  |exc c st''=>rw[h]at e;cases e
  |bot=>rw[h]at e;cases e
 ·intro h0z;apply yo;intro _ k0
  obtain⟨b,st'',h,a,st',e,q⟩:=h0z;apply k0
  exact⟨a,st',by rw[h];exact e,q⟩
theorem Ds{a:α}:W (ret1 a) st Q↔Q a st:=by
 constructor
 ·rintro⟨b,st',e,q⟩;cases e;exact q
 ·intro q;exact⟨a,st,rfl,q⟩
theorem zB5:W (botM:Mn α) st Q↔False:=by
 constructor
 ·rintro⟨b,st',e,q⟩;cases e
 ·exact False.elim
theorem zCM{o:Option α}:W (U9 o) st Q↔∃a,o=some a/\Q a st:=by
 cases o with
 |none=>exact⟨λh=>absurd h (zB5.mp),λ⟨a,e,_⟩=>by cases e⟩
 |some a=>exact⟨λh=>⟨a,rfl,Ds.mp h⟩,λ⟨b,e,q⟩=>by cases e;exact Ds.mpr q⟩
theorem H6{c:Prop} [Decidable c] {m:Mn α}:W (if c then m else botM) st Q↔c/\W m st Q:=by
 by_cases h:c
 ·simp[h]
 ·simp[h,zB5]
end
section
variable {st:St}
noncomputable def zIH (m2:Mn Fl) (Q:Fl->St->Prop):Fl->St->Prop
 |.next,st'=>W m2 st' Q
 |.brk,st'=>Q .brk st'
 |.cont,st'=>Q .cont st'
 |.ret d,st'=>Q (.ret d) st'
theorem Rq{m1 m2:Mn Fl}{Q:Fl->St->Prop}:W (Ad m1 m2) st Q↔W m1 st (zIH m2 Q):=by
 unfold Ad;rw[Af];constructor
 ·intro h;refine h.mono λfl st' q=>?_
  cases fl<;>first|exact q|exact(show Q _ _ from Ds.mp (show W (ret1 _) _ _ from q))
 ·intro h;refine h.mono λfl st' q=>?_
  cases fl<;>first|exact q|exact(show W (ret1 _) _ _ from Ds.mpr (show Q _ _ from q))
theorem Fc{c:Mn Bool}{m1 m2:Mn Fl}{Q:Fl->St->Prop}:W (Di c m1 m2) st Q↔W c st (λb st'=>if b=true then W m1 st' Q else W m2 st' Q):=by
 unfold Di;rw[Af];constructor<;>intro h<;>refine h.mono λb st' q=>?_<;>cases b<;>exact q
theorem zCl{m n:Mn Bool}{Q:Bool->St->Prop}:W (Fa m n) st Q↔W m st (λb st'=>if b=true then W n st' Q else Q false st'):=by
 unfold Fa;rw[Af];constructor<;>intro h<;>refine h.mono λb st' q=>?_<;>cases b<;>first|exact q|exact Ds.mp q|exact Ds.mpr q
theorem Ot{m n:Mn Bool}{Q:Bool->St->Prop}:W (Hp m n) st Q↔W m st (λb st'=>if b=true then Q true st' else W n st' Q):=by
 unfold Hp;rw[Af];constructor<;>intro h<;>refine h.mono λb st' q=>?_<;>cases b<;>first|exact q|exact Ds.mp q|exact Ds.mpr q
theorem zB3{m n:Mn D}{Q:D->St->Prop}:W (Q2 m n) st Q↔W m st (λd st'=>W (As d) st' λb st''=>if b=true then W n st'' Q else Q d st''):=by
 unfold Q2;rw[Af];simp only[Af];constructor<;>intro h<;>refine h.mono λd st' q=>q.mono λb st'' q=>?_<;>cases b<;>first|exact q|exact Ds.mp q|exact Ds.mpr q
variable {a b:Int}{x y:Str}{Q:D->St->Prop}
theorem zJ0{T:String}{d:D}:W (Gb T d) st Q↔∃T',zFY d st.sto=some T'/\Q (.bool (Kh T' T)) st:=by
 unfold W Gb
 cases e:zFY d st.sto with
 |none=>simp
 |some T'=>
  constructor
  ·rintro⟨a,st',e,q⟩;cases e;exact⟨_,rfl,q⟩
  ·rintro⟨T'',e,q⟩;cases e;exact⟨_,_,rfl,q⟩
theorem zAV:W (Ea [.str x]) st Q↔x.length<2 ^ 62/\Q (.int x.length) st:=by unfold Ea;rw[H6,Ds]
theorem W1{k:Nat}:zEC (W (Ea [.ref k]) st Q) (∃ds,st.sto[k]? =some (.list ds)/\ds.length<2 ^ 62/\Q (.int ds.length) st):=.mk <| by
 unfold W Ea;intro h0z;apply yo;intro _ k0
 obtain⟨ds,h,h2,q⟩:=h0z;apply k0
 exact⟨_,_,by simp only[h,h2,if_true],q⟩
theorem Jk{n:Int}{Q:Ix->St->Prop}:W (E9 [.int n]) st Q↔okR n=true/\Q ⟨G6 0 1 n.toNat,λ_=>True⟩ st:=by
 show W (if okR n=true then ret1 _ else botM) st Q↔_
 rw[H6,Ds]
theorem U6{Q:Ix->St->Prop}:W (E9 [.int a,.int b]) st Q↔(okR a&&okR b)=true/\Q ⟨G6 a 1 (b - a).toNat,λ_=>True⟩ st:=by
 show W (if(okR a&&okR b)=true then ret1 _ else botM) st Q↔_
 rw[H6,Ds]
theorem zAk{ds:List D}:W (D2 ds) st Q↔Q (.ref st.sto.length) ⟨st.loc,st.sto++[.list ds]⟩:=by
 constructor
 ·rintro⟨b,st',e,q⟩;cases e;exact q
 ·intro q;exact⟨_,_,rfl,q⟩
theorem Rj{k:Nat}:zEC (W (Eo x [.ref k]) st Q) (∃ds xs,st.sto[k]? =some (.list ds)/\L9 ds=some xs/\JoinOk x xs=true/\Q (.str (Str.join x xs)) st):=.mk <| by
 unfold W Eo;intro h0z;apply yo;intro _ k0
 obtain⟨ds,xs,h,h2,h3,q⟩:=h0z;apply k0
 exact⟨_,_,by simp only[h,h2,h3,if_true],q⟩
theorem Hj{k:Nat}{Q:Ix->St->Prop}:zEC (W (Dy (.ref k)) st Q) (∃ds,st.sto[k]? =some (.list ds)/\Q ⟨ds,λσ=>σ[k]? =some (.list ds)⟩ st):=.mk <| by
 unfold W Dy;rintro⟨ds,h,q⟩
 exact⟨_,_,by simp only[h],q⟩
theorem zIW{k1 k2:Nat}{Q:Ix->St->Prop}:zEC (W (Rh [.ref k1,.ref k2]) st Q) (∃ds1 ds2,st.sto[k1]? =some (.list ds1)/\st.sto[k2]? =some (.list ds2)/\Q ⟨Gy ds1 ds2,Yw k1 k2 st.sto.length ds1 ds2⟩ ⟨st.loc,st.sto++[.priv]⟩):=.mk λ⟨_,_,h1,h2,q⟩=>⟨_,_,X2 h1 h2,q⟩
theorem zAn{ns:List Int}{i:Int}:W (Co (.scr ns) (.int i)) st Q↔(0<=i/\i<2 ^ 63)/\∃n,ns[i.toNat]? =some n/\Q (.int n) st:=by
 unfold Co;rw[H6,zCM];simp only[Option.map_eq_some_iff];constructor
 ·rintro⟨h,d,⟨n,e,rfl⟩,q⟩;exact⟨h,n,e,q⟩
 ·rintro⟨h,n,e,q⟩;exact⟨h,.int n,⟨n,e,rfl⟩,q⟩
theorem zHx{i:Int}(h0:0<=i) (h1:i<x.length) (h2:x.length<=2 ^ 62):W (Co (.str x) (.int i)) st Q↔Q (.str ⟨#[x.cps[i.toNat]'(by show i.toNat<x.length;exact Iy (C4 λZ=>A4 [_,_,_] [A5 x0 x1,A7 x2 x0,B9 x1 x2] rT Z h1 (Cf (Am λY=>A4 [_] [A7 x0 (.n 0),A5 (.n 0) x0] rT Y h0))))]⟩) st:=by
 have hi:F8 i=true:=Fq.mpr ⟨by omega,by omega⟩
 have hlt:i.toNat<x.cps.size:=by exact Iy (C4 λZ=>A4 [_,_,_] [A5 x0 x1,A7 x2 x0,B9 x1 x2] rT Z h1 (Cf (Am λY=>A4 [_] [A7 x0 (.n 0),A5 (.n 0) x0] rT Y h0)))
 unfold Co;rw[H6,zCM,StrLaws.seqIndex_nonneg h0 h1];simp only[Option.bind_some,Array.getElem?_eq_getElem hlt,Option.map_some,hi,true_and];constructor
 ·rintro⟨d,e,q⟩;cases e;exact q
 ·intro q;exact⟨_,rfl,q⟩
end
theorem Cq{ps:List Nat}{body:Mn Fl}{ds:List D}{st:St}{Q:D->St->Prop}(hl:ds.length=ps.length) (h:W body ⟨Cj Bh ps ds,st.sto⟩ (λfl st'=>match fl with|.ret d=>Q d ⟨st.loc,st'.sto⟩|_=>Q .none ⟨st.loc,st'.sto⟩)):
  W (Dp ps body ds) st Q:=by
 obtain⟨fl,st',e,q⟩:=h;unfold W Dp;rw[if_pos hl,e]
 cases fl<;>exact⟨_,_,rfl,q⟩
noncomputable abbrev zKH (J:St->Prop) (Q:Fl->St->Prop):Fl->St->Prop:=λfl st'=>match fl with
 |.next=>J st'
 |.cont=>J st'
 |.brk=>Q .next st'
 |.ret d=>Q (.ret d) st'
theorem E6{tgt:D->C3->Option C3}{g:Bm->Prop}{body:Mn Fl}{Q:Fl->St->Prop}(J:List D->St->Prop) (hstep:∀d rest st,J (d::rest) st->g st.sto/\∃loc',tgt d st.loc=some loc'/\W body ⟨loc',st.sto⟩ (zKH (J rest) Q))
  (hend:∀st,J [] st->g st.sto/\Q .next st):∀(ds:List D) (st:St),J ds st->W (D9 tgt g body ds) st Q
 |[],st,h=>by
  obtain⟨h1,h2⟩:=hend st h;exact⟨.next,st,by(first|rw[P2,if_pos h1]|rw[Dl,if_pos h1]),h2⟩
 |d::rest,st,h=>by
  apply yo;intro _ k0
  obtain⟨h1,loc',h2,fl,st',e,q⟩:=hstep d rest st h;apply k0
  cases fl with
  |next=>
   obtain⟨fl',st'',e',q'⟩:=E6 J hstep hend rest st' q;exact⟨fl',st'',by(rw[Dl,if_pos h1,h2];dsimp only;rw[e]);exact e',q'⟩
  |cont=>
   obtain⟨fl',st'',e',q'⟩:=E6 J hstep hend rest st' q;exact⟨fl',st'',by(rw[Dl,if_pos h1,h2];dsimp only;rw[e]);exact e',q'⟩
  |brk=>exact⟨_,_,by(rw[Dl,if_pos h1,h2];dsimp only;rw[e]),q⟩
  |ret d=>exact⟨_,_,by(rw[Dl,if_pos h1,h2];dsimp only;rw[e]),q⟩
noncomputable def Ft (σ σ':Bm):Prop:=∃j,σ'=σ++j
theorem Ft.refl(σ:Bm):Ft σ σ:=⟨[],by simp⟩
theorem Ft.trans{a b c:Bm}(x:Ft a b) (y:Ft b c):Ft a c:=by
 obtain⟨j,rfl⟩:=x;obtain⟨k,rfl⟩:=y;exact⟨j++k,by simp⟩
theorem Ft.get{a b:Bm}(x:Ft a b){k:Nat}{o:PO}(e:a[k]? =some o):b[k]? =some o:=by
 obtain⟨j,rfl⟩:=x;rw[List.getElem?_append_left (lq2 e).1];exact e
theorem Ft.app(σ j:Bm):Ft σ (σ++j):=⟨j,rfl⟩
theorem Ft.len{a b:Bm}(x:Ft a b):a.length<=b.length:=by obtain⟨j,rfl⟩:=x;simp
inductive zLX (tgt:D->C3->Option C3) (g:Bm->Prop) (mt:Mn Bool) (me:Mn D) (keep:D->Bool) (V:D->D->Bm->Prop) (A:C3->Prop) (ds acc:List D) (loc:C3) (σ:Bm):Prop
 |mk (xs:List D) (loc':C3) (σ':Bm) (e:Fy tgt g mt me ds acc ⟨loc,σ⟩=.ok (acc++xs) ⟨loc',σ'⟩) (a:A loc') (x:Ft σ σ') (r:C2 (λx d=>V d x σ') xs (ds.filter keep))
theorem Mw{tgt:D->C3->Option C3}{g:Bm->Prop}{mt:Mn Bool}{me:Mn D}(keep:D->Bool) (V:D->D->Bm->Prop) (A:C3->Prop){σ₀:Bm}(hV:∀d x σ σ',Ft σ σ'->V d x σ->V d x σ') (hg:∀σ,Ft σ₀ σ->g σ):
  ∀(ds acc:List D) (loc:C3) (σ:Bm),(∀d,d∈ds->∀loc σ,A loc->Ft σ₀ σ->∃loc',tgt d loc=some loc'/\A loc'/\W mt ⟨loc',σ⟩ (λb st'=>b=keep d/\st'.loc=loc'/\Ft σ st'.sto/\(b=true->W me st' (λx st''=>st''.loc=loc'/\Ft st'.sto st''.sto/\V d x st''.sto))))->
   A loc->Ft σ₀ σ->zLX tgt g mt me keep V A ds acc loc σ
 |[],acc,loc,σ,_,hA,hx=>⟨[],loc,σ,by(rw[Ip,if_pos (hg σ hx),List.append_nil]),hA,.refl _,.nil⟩
 |d::rest,acc,loc,σ,h,hA,hx=>by
  apply yo;intro _ k0
  obtain⟨loc',e1,hA',b,st',e2,rfl,hl,hx',he⟩:=h d lq1 loc σ hA hx;obtain⟨l2,σ2⟩:=st';apply k0
  cases hl;have hrest:=λd' m=>h d' (lq4 _ m)
  cases hk:keep d with
  |false=>
   rw[hk]at e2;obtain⟨xs,l3,σ3,e3,hA3,hx3,r⟩:=Mw keep V A hV hg rest acc l2 σ2 hrest hA' (hx.trans hx');refine⟨xs,l3,σ3,?_,hA3,hx'.trans hx3,?_⟩
   ·(rw[Dc,if_pos (hg σ hx),e1];dsimp only;rw[e2]);exact e3
   ·simp only[List.filter,hk];exact r
  |true=>
   rw[hk]at e2;apply yo;intro _ k0
   obtain⟨x,st3,e3,hl3,hx3,hv⟩:=he hk;obtain⟨l3,σ3⟩:=st3;apply k0
   have hl4:l3=l2:=hl3
   subst hl4;apply yo;intro _ k0
   obtain⟨xs,l4,σ4,e4,hA4,hx4,r⟩:=Mw keep V A hV hg rest (acc++[x]) l3 σ3 hrest hA' ((hx.trans hx').trans hx3)
   apply k0
   refine⟨x::xs,l4,σ4,?_,hA4,(hx'.trans hx3).trans hx4,?_⟩
   ·(rw[Dc,if_pos (hg σ hx),e1];dsimp only;rw[e2];dsimp only;rw[e3]);simpa using e4
   ·simp only[List.filter,hk];exact .cons (hV _ _ _ _ hx4 hv) r
theorem Lj{cls:List Nat}{tgt:D->C3->Option C3}{mt:Mn Bool}{me:Mn D}{src:Ix}{st:St}{Q:D->St->Prop}(keep:D->Bool) (V:D->D->Bm->Prop) (A:C3->Prop) (hlen:src.ds.length<=sizeLine) (hV:∀d x σ σ',Ft σ σ'->V d x σ->V d x σ') (hg:∀σ,Ft st.sto σ->src.g σ)
  (hA:A (Il cls st.loc)) (h:∀d,d∈src.ds->∀loc σ,A loc->Ft st.sto σ->∃loc',tgt d loc=some loc'/\A loc'/\W mt ⟨loc',σ⟩ (λb st'=>b=keep d/\st'.loc=loc'/\Ft σ st'.sto/\(b=true->W me st' (λx st''=>st''.loc=loc'/\Ft st'.sto st''.sto/\V d x st''.sto))))
  (hQ:∀xs σ',Ft st.sto σ'->C2 (λx d=>V d x σ') xs (src.ds.filter keep)->Q (.ref σ'.length) ⟨st.loc,σ'++[.list xs]⟩):W (Dq cls tgt mt me src) st Q:=by
 apply yo;intro _ k0
 obtain⟨xs,l,σ',e,_,hx,r⟩:=Mw keep V A hV hg src.ds [] (Il cls st.loc) st.sto h hA (.refl _)
 apply k0
 refine⟨_,_,?_,hQ xs σ' hx r⟩
 unfold Dq;rw[if_pos hlen,e];simp
end
section
open Builtin.Str
noncomputable def cl (x:Str):List Nat:=x.cps.toList
theorem zBt{x y:Str}(h:cl x=cl y):x=y:=by
 obtain⟨a⟩:=x;obtain⟨b⟩:=y;have:a=b:=Array.toList_inj.mp h
 rw[this]
theorem Fn(x y:Str):cl (x++y)=cl x++cl y:=by
 show(x.cps++y.cps).toList=_
 simp[cl]
theorem Ck(x:Str):(cl x).length=x.length:=by simp[cl,Str.length]
noncomputable def D6 (c:Nat):List (List Nat)->List Nat
 |[]=>[]
 |[a]=>a
 |a::b::r=>a++c::D6 c (b::r)
theorem Ib{c:Nat}:D6 c []=[]:=rfl
theorem Id{c:Nat}{a:List Nat}:D6 c [a]=a:=rfl
theorem Ir{c:Nat}{a b:List Nat}{r:List (List Nat)}:D6 c (a::b::r)=a++c::D6 c (b::r):=rfl
theorem Ij(c:Nat):∀xs:List Str,cl (Str.join ⟨#[c]⟩ xs)=D6 c (xs.map cl)
 |[]=>rfl
 |[x]=>rfl
 |x::y::r=>by
  have:=Ij c (y::r)
  show cl (x++⟨#[c]⟩++Str.join ⟨#[c]⟩ (y::r))=_
  simp only[Fn,Fn,this];simp[Ib,Id,Ir,cl]
theorem zEj{c:Nat}:∀{a b r s:List Nat},c∉a->c∉b->a++c::r=b++c::s->a=b/\r=s:=by
 intro a
 induction a with
 |nil=>
  intro b r s _ hb e
  cases b with
  |nil=>exact⟨rfl,(List.cons.inj e).2⟩
  |cons y b=>exact absurd (by rw[(List.cons.inj e).1];exact lq1) hb
 |cons x a ih=>
  intro b r s ha hb e
  cases b with
  |nil=>exact absurd (by rw[(List.cons.inj e).1];exact lq1) ha
  |cons y b=>
   obtain⟨e1,e2⟩:=List.cons.inj e;obtain⟨h1,h2⟩:=ih (λm=>ha (lq4 _ m)) (λm=>hb (lq4 _ m)) e2
   exact⟨by rw[e1,h1],h2⟩
theorem Zq{c:Nat}:∀{as bs:List (List Nat)},as≠[]->bs≠[]->(∀a,a∈as->c∉a)->(∀b,b∈bs->c∉b)->D6 c as=D6 c bs->as=bs:=by
 intro as
 induction as with
 |nil=>intro bs h;exact absurd rfl h
 |cons a as ih=>
  intro bs h1 h2 ha hb e;rcases bs with _|⟨b,bs⟩
  ·exact absurd rfl h2
  rcases as with _|⟨a',r⟩
  ·rcases bs with _|⟨b',s⟩
   ·have e:a=b:=e
    rw[e]
   ·have e:a=b++c::D6 c (b'::s):=e
    exact absurd (by rw[e];simp) (ha a lq1)
  ·rcases bs with _|⟨b',s⟩
   ·have e:a++c::D6 c (a'::r)=b:=e
    exact absurd (by rw[←e];simp) (hb b lq1)
   ·have e:a++c::D6 c (a'::r)=b++c::D6 c (b'::s):=e
    obtain⟨h1,h2⟩:=zEj (ha a lq1) (hb b lq1) e;rw[h1,ih (by simp) (by simp) (λx m=>ha x (lq4 _ m)) (λx m=>hb x (lq4 _ m)) h2]
noncomputable def Fg (c:Nat):List Nat->List (List Nat)
 |[]=>[[]]
 |x::r=>if x=c then[]::Fg c r else match Fg c r with
  |[]=>[[x]]
  |a::s=>(x::a)::s
theorem Pe{c x:Nat}{r:List Nat}:Fg c (x::r)=if x=c then[]::Fg c r else match Fg c r with
  |[]=>[[x]]
  |a::s=>(x::a)::s:=rfl
theorem Jz(c:Nat):∀l,Fg c l≠[]
 |[]=>λh=>by cases h
 |x::r=>by
  rw[Pe];split
  ·simp
  ·split<;>simp
theorem Nu(c:Nat):∀l,D6 c (Fg c l)=l
 |[]=>rfl
 |x::r=>by
  have ih:=Nu c r;rw[Pe];by_cases h:x=c
  ·rw[if_pos h]
   cases e:Fg c r with
   |nil=>exact absurd e (Jz c r)
   |cons a s=>rw[e]at ih;show[]++c::D6 c (a::s)=_;rw[ih,h];rfl
  ·rw[if_neg h]
   cases e:Fg c r with
   |nil=>exact absurd e (Jz c r)
   |cons a s=>
    rw[e]at ih
    cases s with
    |nil=>show x::a=_;rw[←ih];rfl
    |cons b t=>show(x::a)++c::D6 c (b::t)=_;rw[←ih];rfl
theorem Nv(c:Nat):∀l,∀p,p∈Fg c l->c∉p
 |[],p,m=>by rw[lq0 (show p∈[[]]from m)];simp
 |x::r,p,m=>by
  have ih:=Nv c r;rw[Pe]at m;by_cases h:x=c
  ·rw[if_pos h]at m;rcases List.mem_cons.mp m with rfl|m
   ·simp
   ·exact ih p m
  ·rw[if_neg h]at m
   cases e:Fg c r with
   |nil=>exact absurd e (Jz c r)
   |cons a s=>
    rw[e]at m ih;rcases List.mem_cons.mp m with rfl|m
    ·intro q;rcases List.mem_cons.mp q with q|q
     ·exact h q.symm
     ·exact ih a lq1 q
    ·exact ih p (lq4 _ m)
theorem Rf{c:Nat}{as:List (List Nat)}(h:as≠[]) (hf:∀a,a∈as->c∉a):Fg c (D6 c as)=as:=
 Zq (Jz _ _) h (Nv c _) hf (Nu c _)
theorem Ii(xs:List Str):L9 (xs.map D.str)=some xs:=by
 induction xs with
 |nil=>rfl
 |cons x r ih=>show(L9 (r.map D.str)).map (x:: ·)=_;rw[ih];rfl
theorem Jx{sep:Str}{xs:List Str}{B:Nat}(hB:∀x,x∈xs->x.length<=B) (h:xs.length*B+xs.length*sep.length<=16777216):JoinOk sep xs=true:=by
 unfold JoinOk;rw[StrLaws.joinFits hB h];rfl
theorem Gf(c:Nat){B:Nat}:∀(as:List (List Nat)),(∀a,a∈as->a.length<=B)->(D6 c as).length<=as.length*(B+1)
 |[],_=>by simp[Ib,Id,Ir]
 |[a],h=>by
  have:=h a lq1
  simp only[Ib,Id,Ir,List.length_cons,List.length_nil];omega
 |a::b::r,h=>by
  have h1:=h a lq1;have h2:=Gf c (b::r) (λx m=>h x (lq4 _ m))
  simp only[Ib,Id,Ir,lq7,List.length_cons]at h2 ⊢;rw[Nat.succ_mul];exact Aw λZ=>A8 [_,_,_,_] [A7 (.a x3 (.a x1 (.n 1))) (.a x0 (.a x2 (.n 1))),A5 x0 x1,A5 x2 x3] rT Z h1 h2
theorem zCJ:Str.ofString ""=⟨#[]⟩:=rfl
theorem Tr:∀xs:List Str,cl (Str.join ⟨#[]⟩ xs)=(xs.map cl).flatten
 |[]=>rfl
 |[x]=>by simp[Str.join]
 |x::y::r=>by
  have:=Tr (y::r)
  show cl (x++⟨#[]⟩++Str.join ⟨#[]⟩ (y::r))=_
  simp only[Fn,Fn,this];simp[cl]
theorem Lb{α:Type}(l:List α):l.filter (λ_=>true)=l:=List.filter_eq_self.mpr λ_ _=>rfl
theorem Lx{a s:Int}{n:Nat}{d:D}(h:d∈G6 a s n):∃j:Nat,j<n/\d=.int (a+j*s):=by
 simp only[G6,List.mem_map,List.mem_range]at h;obtain⟨j,hj,rfl⟩:=h;exact⟨j,hj,rfl⟩
theorem Ja{a s:Int}{n:Nat}:(G6 a s n).length=n:=by simp[G6]
end
section
open Builtin.Str
section
variable {st:St}{a b:Int}{x y:Str}{Q:D->St->Prop}
theorem Qy{k l:Nat}:zEC (W (Au (.ref k) (.ref l)) st Q) (∃ds es,st.sto[k]? =some (.list ds)/\st.sto[l]? =some (.list es)/\ds.length+es.length<=sizeLine/\Q (.ref st.sto.length) ⟨st.loc,st.sto++[.list (ds++es)]⟩):=.mk <| by
 unfold W Au;rintro⟨d1,d2,h1,h2,h3,q⟩
 exact⟨_,_,by simp only[h1,h2,h3,if_true,D2],q⟩
theorem zAE{k:Nat}{l h:Option Int}:zEC (W (Gv (.ref k) l h) st Q) (∃ds,st.sto[k]? =some (.list ds)/\ds.length<=sizeLine/\Q (.ref st.sto.length) ⟨st.loc,st.sto++[.list (Dn l h ds)]⟩):=.mk <| by
 unfold W Gv;rintro⟨d1,h1,h3,q⟩
 exact⟨_,_,by simp only[h1,h3,if_true,D2],q⟩
theorem Od{ms:Mn (List D)}:W (Cd ms) st Q↔W ms st λds st1=>ds.length<=sizeLine/\Q (.ref st1.sto.length) ⟨st1.loc,st1.sto++[.list ds]⟩:=by
 unfold Cd;simp only[Af,H6,zAk]
theorem Oe{ms:Mn (List D)}:W (D7 ms) st Q↔W ms st λds st1=>ds.length<=sizeLine/\Q (.tup ds) st1:=by
 unfold D7;simp only[Af,H6,Ds]
theorem zCd{k:Nat}{i:Int}(h0:0<=i){ds:List D}(hk:st.sto[k]? =some (.list ds)) (h1:i<ds.length) (h2:ds.length<=2 ^ 62):W (Co (.ref k) (.int i)) st Q↔Q (ds[i.toNat]'(by exact Iy (C4 λZ=>A4 [_,_,_] [A5 x0 x1,A7 x2 x0,B9 x1 x2] rT Z h1 (Cf (Am λY=>A4 [_] [A7 x0 (.n 0),A5 (.n 0) x0] rT Y h0))))) st:=by
 have hi:F8 i=true:=Fq.mpr ⟨by omega,by omega⟩
 have hs:seqIndex? i ds.length=some i.toNat:=StrLaws.seqIndex_nonneg h0 h1
 have hlt:i.toNat<ds.length:=by exact Iy (C4 λZ=>A4 [_,_,_] [A5 x0 x1,A7 x2 x0,B9 x1 x2] rT Z h1 (Cf (Am λY=>A4 [_] [A7 x0 (.n 0),A5 (.n 0) x0] rT Y h0)))
 unfold W Co;dsimp only;rw[hk];simp only[hi,if_true,hs,Option.bind_some,List.getElem?_eq_getElem hlt];constructor
 ·rintro⟨d,st',e,q⟩;cases e;exact q
 ·intro q;exact⟨_,_,rfl,q⟩
end
end
section
open Builtin.Str
section
variable {st:St}{a b:Int}{x y:Str}{Q:D->St->Prop}
theorem Vp{k l:Nat}{ds:List D}{ps:List PyData}(h1:st.sto[k]? =some (.list ds)) (h2:st.sto[l]? =some (.list ds)) (hp:G4 ds=some ps) (hc:PyData.canLayAll0 ps=true) (hd:PyData.depthAll ps<=49) (h:Q (.bool true) st):W (Ex (.ref k) (.ref l)) st Q:=by
 refine⟨.bool true,st,?_,h⟩
 show Sd (.ref k) (.ref l) st=_
 have hcl:PyData.canLay0 (.list ps)=true:=by simpa [PyData.canLay0]using hc
 have hdl:PyData.depth (.list ps)<=50:=by rw[PyData.depth];omega
 simp only[Sd,Ig h1,Ig h2,hp,Option.map_some,hcl,hdl,and_self,if_true,SeqAt.eqv_refl _ hcl]
theorem Tu{F:Nat->Mn D}{k:Nat}:zEC (W (De F (.ref k)) st Q) ((∃ds,st.sto[k]? =some (.list ds))/\W (F k) st Q):=.mk <| by
 unfold W De;rintro⟨⟨ds,h⟩,a,st',e,q⟩
 exact⟨a,st',by simp only[h];exact e,q⟩
theorem Ju{k:Nat}{d:D}:zEC (W (Br k d) st Q) (∃ds,st.sto[k]? =some (.list ds)/\ds.length<=sizeLine/\Q .none ⟨st.loc,st.sto.set k (.list (ds++[d]))⟩):=.mk <| by
 unfold W Br;rintro⟨ds,h,h2,q⟩
 exact⟨_,_,by simp only[h,h2,if_true],q⟩
theorem zBI{k:Nat}{ds:List D}(h:st.sto[k]? =some (.list ds)) (hl:ds.length<=sizeLine) (hQ:Q (.ref st.sto.length) ⟨st.loc,st.sto++[.list ds]⟩):W (Fr [.ref k]) st Q:=
 ⟨_,_,by unfold Fr;simp only[h,hl,if_true,D2],hQ⟩
theorem Z0{F:List D->Mn D}{k:Nat}{ds:List D}{ks:List (Int×Int)}(h:st.sto[k]? =some (.list ds)) (hK:L8 F st ds ks) (hQ:Q (.ref st.sto.length) ⟨st.loc,st.sto++[.list (Jl ds ks)]⟩):W (Bo F [.ref k]) st Q:=
 ⟨_,_,by rw[Np h hK];rfl,hQ⟩
theorem zHm{k:Nat}{Q:Ix->St->Prop}:zEC (W (Lk [.ref k]) st Q) (∃ds,st.sto[k]? =some (.list ds)/\Q ⟨Fk ds,Qk k ds⟩ st):=.mk <| by
 unfold W Lk;rintro⟨ds,h,q⟩
 exact⟨_,_,by simp only[h],q⟩
theorem zAy{c:Int}{Q:Ix->St->Prop}:W (E9 [.int a,.int b,.int c]) st Q↔(okR a&&okR b&&(decide (1<=c)&&decide (c<1000)))=true/\Q ⟨G6 a c (Builtin.Range.rangeSize a b c).toNat,λ_=>True⟩ st:=by
 show W (if(okR a&&okR b&&(decide (1<=c)&&decide (c<1000)))=true then ret1 _ else botM) st Q↔_
 rw[H6,Ds]
end
theorem Ba{a b:Int}(h:0<b):0<=a.fmod b/\a.fmod b<b:=⟨Int.fmod_nonneg_of_pos a h,Int.fmod_lt_of_pos a h⟩
theorem Dx{a:Int}(h: -1000000<a) (h2:a<1000000):Fs a=true:=by simp only[Fs,Bool.and_eq_true,decide_eq_true_eq];omega
end
section
variable {α:Type}{st st1:St}
theorem A9{m:Mn α}{a:α}{Q:α->St->Prop}(e:m st=.ok a st1) (h:Q a st1):W m st Q:=⟨a,st1,e,h⟩
theorem Bi{m1 m2:Mn Fl}{Q:Fl->St->Prop}(e:m1 st=.ok .next st1) (h:W m2 st1 Q):W (Ad m1 m2) st Q:=Rq.mpr ⟨_,_,e,h⟩
theorem Bv{m1 m2:Mn Fl}{d:D}{Q:Fl->St->Prop}(e:m1 st=.ok (.ret d) st1) (h:Q (.ret d) st1):W (Ad m1 m2) st Q:=Rq.mpr ⟨_,_,e,h⟩
theorem Ag{m1 m2:Mn Fl}{Q:Fl->St->Prop}(h:W m1 st (zIH m2 Q)):W (Ad m1 m2) st Q:=Rq.mpr h
theorem Is{c:Mn Bool}{b:Bool}{m1 m2 k:Mn Fl}{Q:Fl->St->Prop}(e:c st=.ok b st1) (ht:b=true->W m1 st1 (zIH k Q)) (hf:b=false->W m2 st1 (zIH k Q)):W (Ad (Di c m1 m2) k) st Q:=by
 refine Rq.mpr (Fc.mpr ⟨_,_,e,?_⟩)
 cases b with
 |true=>exact ht rfl
 |false=>exact hf rfl
theorem Gp{c:Mn Bool}{b:Bool}{m1 m2:Mn Fl}{Q:Fl->St->Prop}(e:c st=.ok b st1) (h:b=true) (ht:W m1 st1 Q):W (Di c m1 m2) st Q:=by
 subst h;exact Fc.mpr ⟨_,_,e,ht⟩
theorem Ch{c:Mn Bool}{b:Bool}{m1 m2:Mn Fl}{Q:Fl->St->Prop}(e:c st=.ok b st1) (h:b=false) (hf:W m2 st1 Q):W (Di c m1 m2) st Q:=by
 subst h;exact Fc.mpr ⟨_,_,e,hf⟩
theorem My{c d:Mn Bool}{b:Bool}{m1 m2:Mn Fl}{Q:Fl->St->Prop}(e:c st=.ok b st1) (h:b=false) (hf:W m2 st1 Q):W (Di (Fa c d) m1 m2) st Q:=by
 subst h;exact Fc.mpr (zCl.mpr ⟨_,_,e,hf⟩)
theorem Rr{c d:Mn Bool}{b:Bool}{m1 m2:Mn Fl}{Q:Fl->St->Prop}(e:c st=.ok b st1) (h:b=true) (hf:W (Di d m1 m2) st1 Q):W (Di (Fa c d) m1 m2) st Q:=by
 subst h;exact Fc.mpr (zCl.mpr ⟨_,_,e,Fc.mp hf⟩)
theorem Bb{m:Mn α}{a:α}(h:W m st λd s=>d=a/\s=st1):m st=.ok a st1:=by
 obtain⟨d,s,e,rfl,rfl⟩:=h;exact e
theorem Bf{i:Nat}{d:D}(h:st.loc i=some d):A6 i st=.ok d st:=by unfold A6;rw[h]
theorem Aa{β:Type}{m:Mn β}{f:β->Mn α}{b:β}{a:α}{st2:St}(e:m st=.ok b st1) (e2:f b st1=.ok a st2):bnd m f st=.ok a st2:=by unfold bnd;rw[e];exact e2
theorem Ab{f:D->D->Mn D}{m1 m2:Mn D}{a b c:D}{st2 st3:St}(e1:m1 st=.ok a st1) (e2:m2 st1=.ok b st2) (e3:f a b st2=.ok c st3):Ac f m1 m2 st=.ok c st3:=Aa e1 (Aa e2 e3)
theorem Bd{f:D->D->Mn D}{m1 m2:Mn D}{a b c:D}{t:Bool}{st2 st3:St}(e1:m1 st=.ok a st1) (e2:m2 st1=.ok b st2) (e3:f a b st2=.ok c st3) (e4:As c st3=.ok t st3):Bc f m1 m2 st=.ok t st3:=Aa e1 (Aa e2 (Aa e3 e4))
theorem run_set{m:Mn D}{i:Nat}{d:D}(e:m st=.ok d st1):bnd m (Aj i) st=.ok .next ⟨upd st1.loc i d,st1.sto⟩:=Aa e rfl
theorem No{f:D->D->Mn D}{m1 m2:Mn D}{Q:D->St->Prop}(h:W m1 st λa s1=>W m2 s1 λb s2=>W (f a b) s2 Q):W (Ac f m1 m2) st Q:=Af.mpr (h.mono λ_ _ q=>Af.mpr q)
noncomputable def Gq (l:List (Option D)):C3:=λi=>l.getD i none
theorem An{l:List (Option D)}{i:Nat}{d:D}(h:Nat.blt i l.length=true):upd (Gq l) i d=Gq (l.set i (some d)):=by
 have h:i<l.length:=Nat.le_of_ble_eq_true h
 funext j
 unfold upd Gq;rw[List.getD_eq_getElem?_getD,List.getD_eq_getElem?_getD];by_cases e:j=i
 ·subst e;rw[if_pos rfl,List.getElem?_set_self h];rfl
 ·rw[if_neg e,List.getElem?_set_ne (Ne.symm e)]
end
noncomputable def S5 (a b:D):Mn D:=λst=>match Hg st.sto a,Hg st.sto b with
 |some x,some y=>if x.canLay0=true/\y.canLay0=true/\x.depth<=50 then .ok (.bool (!x.eqv y)) st else .bot
 |_,_=>.bot
noncomputable def G8:D->D->Mn D
 |.ref k,.ref l=>S5 (.ref k) (.ref l)
 |.tup x,.tup y=>S5 (.tup x) (.tup y)
 |a,b=>zDG a b
section
variable {G:Gd}{C:Cx}{A:Around}{P:List Addr}{env:Env}{s:Shared}{ρ:List Addr}{st:St}
theorem zBT{d1 d2:D}{v1 v2:Value}(K:Ok G C A P env s ρ st) (r1:Cn G s.heap ρ d1 v1) (r2:Cn G s.heap ρ d2 v2):At G A env s ρ st (RV G) (compareOp .NotEq v1 v2) (S5 d1 d2):=by
 refine At.leaf (λhb=>?_) K
 apply yo;intro _ k0
 cases e1:Hg st.sto d1 with
 |none=>exact absurd (by simp only[S5,e1]) hb
 |some x=>
  cases e2:Hg st.sto d2 with
  |none=>exact absurd (by simp only[S5,e1,e2]) hb
  |some y=>
   by_cases hc:x.canLay0=true/\y.canLay0=true/\x.depth<=50
   ·obtain⟨as,ra⟩:=Ie K.inv e1 r1;obtain⟨bs,rb⟩:=Ie K.inv e2 r2;apply k0
    refine SeqAt.compareNe_reads ra rb hc.1 hc.2.1 ?_ ⟨.bool (!x.eqv y),by simp only[S5,e1,e2,hc,and_self,if_true],B8.same0,rfl⟩
    have:=K.room.units
    have hl:cLine=9900:=rfl
    have:=hc.2.2
    omega
   ·exact absurd (by simp only[S5,e1,e2,hc,if_false]) hb
theorem zGN{P:Prop}{d1 d2:D}(k1:∀a b,d1=.ref a->d2=.ref b->P) (k3:∀a b,d1=.tup a->d2=.tup b->P) (k2:G8 d1 d2=zDG d1 d2->P):P:=by
 cases d1 with
 |ref a=>cases d2<;>first|exact k1 _ _ rfl rfl|exact k2 rfl
 |tup a=>cases d2<;>first|exact k3 _ _ rfl rfl|exact k2 rfl
 |_=>exact k2 rfl
theorem zER:Ed G .NotEq G8:=λC A P env s ρ st d1 d2 v1 v2 K r1 r2=>zGN (d1:=d1) (d2:=d2) (λa b e1 e2=>by subst e1 e2;exact zBT K r1 r2) (λa b e1 e2=>by subst e1 e2;exact zBT K r1 r2) λe=>by rw[e];exact zDr C A P env s ρ st d1 d2 v1 v2 K r1 r2
theorem W9{k l:Nat}{ds:List D}{ps:List PyData}{Q:D->St->Prop}(h1:st.sto[k]? =some (.list ds)) (h2:st.sto[l]? =some (.list ds)) (hp:G4 ds=some ps) (hc:PyData.canLayAll0 ps=true) (hd:PyData.depthAll ps<=49) (h:Q (.bool false) st):W (G8 (.ref k) (.ref l)) st Q:=by
 refine⟨.bool false,st,?_,h⟩
 show S5 (.ref k) (.ref l) st=_
 have hcl:PyData.canLay0 (.list ps)=true:=by simpa [PyData.canLay0]using hc
 have hdl:PyData.depth (.list ps)<=50:=by rw[PyData.depth];omega
 simp only[S5,Ig h1,Ig h2,hp,Option.map_some,hcl,hdl,and_self,if_true,SeqAt.eqv_refl _ hcl,Bool.not_true]
end
section
variable {G:Gd}{C:Cx}{A:Around}{P:List Addr}{env:Env}{s:Shared}{ρ:List Addr}{st:St}
end
section
variable {G:Gd}{C:Cx}{A:Around}{P:List Addr}{env:Env}{s:Shared}{ρ:List Addr}{st:St}
end
section
variable {G:Gd}{C:Cx}{A:Around}{P:List Addr}{env:Env}{s:Shared}{ρ:List Addr}{st:St}
end
section
variable {G:Gd}{C:Cx}{A:Around}{P:List Addr}{env:Env}{s:Shared}{ρ:List Addr}{st:St}{σ:Bm}
end
noncomputable def zKn:List Int->Option Int
 |a::b::l=>match l with
  |[]=>some (min a b)
  |c::k=>match k with
   |[]=>some (min (min a b) c)
   |_::_=>none
 |_=>none
noncomputable def zK3:List Int->Option Int
 |a::b::l=>match l with
  |[]=>some (max a b)
  |_::_=>none
 |_=>none
noncomputable def zIu (f:List Int->Option Int) (ds:List D):Mn D:=U9 ((Vm ds).bind λns=>(f ns).map D.int)
noncomputable def J4:List D->Mn D:=zIu zKn
noncomputable def X5:List D->Mn D:=zIu zK3
theorem zHH{P:Prop}{ns:List Int}{m:Int}(h:zKn ns=some m) (k2:∀a b,ns=[a,b]->m=min a b->P) (k3:∀a b c,ns=[a,b,c]->m=min (min a b) c->P):P:=by
 rcases ns with _|⟨a,_|⟨b,_|⟨c,_|⟨d,l⟩⟩⟩⟩
 ·cases h
 ·cases h
 ·exact k2 a b rfl (Option.some.inj h).symm
 ·exact k3 a b c rfl (Option.some.inj h).symm
 ·cases h
theorem zHB{P:Prop}{ns:List Int}{m:Int}(h:zK3 ns=some m) (k2:∀a b,ns=[a,b]->m=max a b->P):P:=by
 rcases ns with _|⟨a,_|⟨b,_|⟨c,l⟩⟩⟩
 ·cases h
 ·cases h
 ·exact k2 a b rfl (Option.some.inj h).symm
 ·cases h
theorem zKJ{P:Prop}{xs:List (Int×Tok)}{a b:Int}(h:xs.map (·.1)=[a,b]) (k:∀t u,xs=[(a,t),(b,u)]->P):P:=by
 rcases xs with _|⟨⟨x,t⟩,_|⟨⟨y,u⟩,_|⟨z,l⟩⟩⟩<;>first|(cases h;done)|(cases h;exact k t u rfl)
theorem zL0{P:Prop}{xs:List (Int×Tok)}{a b c:Int}(h:xs.map (·.1)=[a,b,c]) (k:∀t u x,xs=[(a,t),(b,u),(c,x)]->P):P:=by
 rcases xs with _|⟨⟨x,t⟩,l⟩
 ·cases h
 ·obtain⟨rfl,h2⟩:=List.cons.inj (show x::l.map (·.1)=a::[b,c]from h)
  exact zKJ h2 λu v e=>k t u v (by rw[e])
theorem Vd{a b:Int}{t u:Tok}:∃v,(if b<a then Value.int b u else .int a t)=.int (min a b) v:=by
 by_cases z:b<a
 ·rw[if_pos z];exact⟨u,by rw[Int.min_eq_right (Int.le_of_lt z)]⟩
 ·rw[if_neg z];exact⟨t,by rw[Int.min_eq_left (Int.not_lt.mp z)]⟩
theorem zHY{a b:Int}{t u:Tok}:∃v,(if b>a then Value.int b u else .int a t)=.int (max a b) v:=by
 by_cases z:b>a
 ·rw[if_pos z];exact⟨u,by rw[Int.max_eq_right (Int.le_of_lt z)]⟩
 ·rw[if_neg z];exact⟨t,by rw[Int.max_eq_left (Int.not_lt.mp z)]⟩
theorem zDu{a b c:Int}{t u x:Tok}:∃v,(if b<a then(if c<b then Value.int c x else .int b u)else(if c<a then .int c x else .int a t))=.int (min (min a b) c) v:=by
 by_cases z:b<a
 ·rw[if_pos z,Int.min_eq_right (Int.le_of_lt z)];exact Vd
 ·rw[if_neg z,Int.min_eq_left (Int.not_lt.mp z)];exact Vd
theorem zF4{P:Prop}{G:Gd}{h:Heap}{ρ:List Addr}{f:List Int->Option Int}{ds:List D}{vs:List Value}{st:St}(hb:zIu f ds st≠.bot) (r:B7 G h ρ ds vs) (k:∀(xs:List (Int×Tok)) (m:Int),vs=xs.map (λp=>Value.int p.1 p.2)->f (xs.map (·.1))=some m->zIu f ds st=.ok (.int m) st->P):P:=by
 obtain⟨y,hy⟩:=J6 hb;obtain⟨ns,hns,hm⟩:=Option.bind_eq_some_iff.mp hy;obtain⟨m,hm',rfl⟩:=Option.map_eq_some_iff.mp hm;obtain⟨xs,rfl,rfl⟩:=Lp r hns;exact k xs m rfl hm' (by unfold zIu;rw[hy];rfl)
section
variable {G:Gd}
theorem zDD:BF G "min" J4:=λC A P env s ρ st ds vs hC K r=>At.leaf (λhb=>zF4 hb r λxs m ev hm eo=>by
 subst ev;refine zHH hm (λa b e em=>zKJ e λt u ex=>?_) λa b c e em=>zL0 e λt u x ex=>?_
 ·subst ex em;exact min_two_ints (K.room.hd hC) λh' tk g=>⟨_,eo,⟨h',tk,rfl,g⟩,Vd⟩
 ·subst ex em;exact min_three_ints (K.room.hd hC) λh' tk g=>⟨_,eo,⟨h',tk,rfl,g⟩,zDu⟩) K
theorem zD4:BF G "max" X5:=λC A P env s ρ st ds vs hC K r=>At.leaf (λhb=>zF4 hb r λxs m ev hm eo=>by
 subst ev;refine zHB hm λa b e em=>zKJ e λt u ex=>?_
 subst ex em;exact max_two_ints (K.room.hd hC) λh' tk g=>⟨_,eo,⟨h',tk,rfl,g⟩,zHY⟩) K
end
noncomputable def Hr (body:Mn Fl) (sub:Addr->Bool) (hd:Mn Fl):Mn Fl:=λst=>match body st with
 |.ok fl st'=>.ok fl st'
 |.bot=>.bot
 |.exc c st'=>match sub c with
  |true=>match hd st' with
   |.ok fl st''=>.ok fl st''
   |.exc _ _=>.bot
   |.bot=>.bot
  |false=>.bot
section
variable {G:Gd}{C:Cx}{A:Around}{P:List Addr}{env:Env}{s:Shared}{ρ:List Addr}{st:St}{σ:Bm}
theorem zFC{K:PySem.W.Frag}{body suite:List Stmt}{b₀:Stmt}{x:Str}{T:Addr}{np hp pos:Pos}{mb mh:Mn Fl}{sub:Addr->Bool}(kin:K.In G.h0) (h1:Uh G C body mb)
  (h2:Uh G ⟨C.names,C.tbl,C.lvl,true,C.code,C.qual⟩ (b₀::suite) mh) (hg:D8 G x (.ref T)) (hn:C.names.lookup x=some .globalImplicit) (hd:(x==("__debug__":Str))=false)
  (hsub:∀c,sub c=true->PySem.W.exmOne K (.ref c) (.ref T)=some true):
  SS G C (.Try body [.ExceptHandler (some (.Name x np)) none (b₀::suite) hp] [] [] pos) (Hr mb sub mh):=.mk <| λA P env s ρ st K0 W hb=>by
 refine wpAny_Try_except ?_
 have hb1:mb st≠.bot:=λz=>hb (by unfold Hr;rw[z])
 have hb0:∀b,s.heap.objs.size<=b->G.h0.get? b=none:=λb z=>K0.inv.h0_le z
 refine wpAny_mono (h1.run A P env s ρ st K0 W hb1) (λf s1 q=>?_) λe s1 q=>?_
 ·obtain⟨ρ1,fl,st1,e1,I1,x1,F1,rr⟩:=q;have e2:Hr mb sub mh st=.ok fl st1:=by unfold Hr;rw[e1]
  rw[e2]
  cases fl with
  |next=>cases(show f=.next from rr);exact wpAny_execs_nil ⟨ρ1,.next,st1,rfl,I1,x1,F1,rfl⟩
  |brk=>cases(show f=.brk from rr);exact⟨ρ1,.brk,st1,rfl,I1,x1,F1,rfl⟩
  |cont=>cases(show f=.cont from rr);exact⟨ρ1,.cont,st1,rfl,I1,x1,F1,rfl⟩
  |ret d=>obtain⟨v,rfl,r⟩:=rr;exact⟨ρ1,.ret d,st1,rfl,I1,x1,F1,v,rfl,r⟩
 ·obtain⟨ρ1,c,st1,a,e1,I1,x1,F1,rfl,fl⟩:=q
  cases hs:sub c with
  |false=>exact absurd (by unfold Hr;simp only[e1,hs]) hb
  |true=>
   cases hm:mh st1 with
   |bot=>exact absurd (by unfold Hr;simp only[e1,hs,hm]) hb
   |exc c' st'=>exact absurd (by unfold Hr;simp only[e1,hs,hm]) hb
   |ok fl2 st2=>
    have e2:Hr mb sub mh st=.ok fl2 st2:=by unfold Hr;simp only[e1,hs,hm]
    rw[e2];have K1:=K0.stepS I1 x1 F1;refine Ls K1.stk fl x1.size λL h2' hL N T1=>?_
    refine Eg (G:=G) (ρ:=ρ1) (s:={s1 with heap:=h2'}) (fr:=none) T1 λh3 N3 T3=>?_
    have N13:=N.trans N3;have I3:=N13.inv I1 hb0 s1.toks;have F3:=N13.frm F1;have K3:Ok G ⟨C.names,C.tbl,C.lvl,true,C.code,C.qual⟩ (A.mark (some (.ref a))) P env {s1 with heap:=h3} ρ1 st1:=
     ⟨⟨λz=>absurd z Bool.noConfusion,K0.room.depth,K0.room.units⟩,K0.sees,I3,F3,Lh (N13.stk K1.stk),K0.code,K0.qual⟩
    refine wpAny_handleBy_cons (codeAny_handlers_test ?_) (by intro q;cases q)
    refine Fd K3 hg hn hd ?_
    obtain⟨hna,o,vs,T',oT,ts,ho,hc,hdd,hsz,t1,t2,t3,t4,t5,t6,t7⟩:=id T3;have kin3:K.In h3:=λb o e=>I3.base b o (kin b o e)
    refine(PySem.W.exm_one (M:=G.M) kin3 (Ru ho hc hdd).type (hsub c hs)).at ?_
    refine codeAny_handlers_suite ?_
    refine Eg (G:=G) (ρ:=ρ1) (s:={s1 with heap:=h3}) (fr:=none) T3 λh4 N4 T4=>?_
    have N14:=N13.trans N4;have I4:=N14.inv I1 hb0 s1.toks;have x4:=N14.ev x1;have F4:=N14.frm F1;have K4:Ok G ⟨C.names,C.tbl,C.lvl,true,C.code,C.qual⟩ (A.mark (some (.ref a))) P env {s1 with heap:=h4} ρ1 st1:=
     ⟨⟨λz=>absurd z Bool.noConfusion,K0.room.depth,K0.room.units⟩,K0.sees,I4,F4,Lh (N14.stk K1.stk),K0.code,K0.qual⟩
    refine wpAny_mono (h2.run (A.mark (some (.ref a))) P env {s1 with heap:=h4} ρ1 st1 K4 W (by rw[hm];intro z;cases z)) (λf s6 q=>?_) λx6 s6 q=>?_
    ·obtain⟨ρ6,fl6,st6,e6,I6,x6,F6,rr⟩:=q;rw[hm]at e6
     cases e6;exact⟨ρ6,fl2,st2,rfl,I6,x4.trans x6,F6,rr⟩
    ·obtain⟨_,_,_,_,e6,_⟩:=q;rw[hm]at e6
     cases e6
end
noncomputable def zFp:List ExceptHandler->Option (Str×List Stmt)
 |[.ExceptHandler (some e) none b _]=>ob (Gs e) λx=>some (x,b)
 |_=>none
theorem zAr{l:List ExceptHandler}{x:Str}{b:List Stmt}(h:zFp l=some (x,b)):∃np hp,l=[.ExceptHandler (some (.Name x np)) none b hp]:=by
 rcases l with _|⟨⟨ty,nm,b,hp⟩,l⟩
 ·exact B0 h
 rcases ty with _|e
 ·exact B0 h
 rcases nm with _|n'
 ·rcases l with _|⟨c,l⟩
  ·refine Ao h λy hy h=>?_
   cases h;obtain⟨np,rfl⟩:=H5 hy;exact⟨np,hp,rfl⟩
  ·exact B0 h
 ·exact B0 h
noncomputable def zIc (cl:Kf) (X:W3) (C:Cx) (body:List Stmt) (p:Str×List Stmt):Option (Mn Fl):=
 gd (G7 C p.1&&!(p.1==("__debug__":Str))&&!p.2.isEmpty) (ob (cl.lookup p.1) λq=>ob (Xb q.1) λT=>
  ob (X.s C body) λmb=>ob (X.s ⟨C.names,C.tbl,C.lvl,true,C.code,C.qual⟩ p.2) λmh=>some (Hr mb (Y3 q.2) mh))
noncomputable def zI3 (cl:Kf) (X:W3) (C:Cx) (body:List Stmt) (hs:List ExceptHandler) (oe fe:List Stmt):Option (Mn Fl):=gd (oe.isEmpty&&fe.isEmpty) (ob (zFp hs) (zIc cl X C body))
theorem zEZ{G:Gd}{K:PySem.W.Frag}{cl:Kf}(ok:U7 G K cl){X:W3}{C:Cx}{body:List Stmt}{hs:List ExceptHandler}{oe fe:List Stmt}{p:Pos}{m:Mn Fl}(hX:Ct G X) (h0:zI3 cl X C body hs oe fe=some m):SS G C (.Try body hs oe fe p) m:=by
 refine Bu h0 λhc h=>Ay hc λh1 h2=>Ao h λq hq h=>?_
 obtain⟨x,b⟩:=q;obtain⟨np,hp,rfl⟩:=zAr hq;simp only[E7 h1,E7 h2];refine Bu h λhc h'=>Ay hc λhc h5=>Ay hc λh3 h4=>Ao h' λq' hq' h=>Ao h λT hT h=>Ao h λmb hmb h=>Ao h λmh hmh h=>Al (P:=SS G C _) h ?_
 obtain⟨V,t⟩:=q';obtain rfl:=Vr hT;refine Ji h5 λb0 r e=>?_
 have e:b=b0::r:=e
 subst e;exact zFC ok.kin (hX.s _ _ _ hmb) (hX.s _ _ _ hmh) (ok.glob _ _ _ hq') (Cw h3) (not_true h4) λc hc=>ok.exm _ _ _ hq' c (by
  unfold Y3 at hc
  cases z:t.lookup c with
  |none=>rw[z]at hc;cases hc
  |some v=>rw[z]at hc;rw[show v=true from hc])
noncomputable def zKk {α:Type}(a b:Option α):Option α:=match a with
 |some x=>some x
 |none=>b
theorem zGS{P:Prop}{α:Type}{a b:Option α}{m:α}(h:zKk a b=some m) (k1:a=some m->P) (k2:b=some m->P):P:=by
 cases a with
 |none=>exact k2 h
 |some x=>exact k1 h
noncomputable def zGK (cl:Kf) (X:W3) (C:Cx):Stmt->Option (Mn Fl)
 |.Raise e c _=>zAN cl C e c
 |.Try body hs oe fe _=>zKk (zIz cl X C body hs oe fe) (zI3 cl X C body hs oe fe)
 |_=>none
theorem zCK{G:Gd}{K:PySem.W.Frag}{cl:Kf}(ok:U7 G K cl):∀X C t m,Ct G X->zGK cl X C t=some m->SS G C t m:=λX C t m hX h0=>by
 cases t with
 |Raise e c p=>exact Z1 ok h0
 |Try body hs oe fe p=>exact zGS h0 (zD7 ok hX) (zEZ ok hX)
 |_=>exact B0 h0
section
open W
theorem Zl{prog:Program}{w:World}{s₁:Shared}{a fa l cd T:Addr}{ll cc:Nat}{q:Str}{n:Nat}{F:List D->Mn D}{c:ClaimW}{cl:Str->Option Addr}{mean:ExcName->Option Value}{args:List WData}{vs:List Value}{ns:List Int}(hT:TabsAt [(cd,T)] s₁.heap)
  (hF:SF ⟨prog,w,ghostOf s₁.heap [(cd,T)],s₁.os,s₁.gens⟩ n a F) (hn:n<=500) (hfa:fa=a) (hL:s₁.heap.IsList l vs.toArray) (hI:IntsAre vs ns) (hg:s₁.gens= #[]) (hc1:∀cls,c.raises args cls=false) (hc2:c.post args (.bool true) args=true)
  (hp:∃σ' k,F [.scr ns] ⟨Bh,[.ctab T ll cc q none]⟩=.ok (.bool true) ⟨Bh,σ'⟩/\σ'[0]? =some (.ctab T ll cc q k)):
  wpAny (model prog w) callerA (call (.ref fa) [.ref l]) (λv s'=>GoodWG c cl mean args s₁ (.ok (.ret v)) s') (λe s'=>GoodWG c cl mean args s₁ (.error e) s') s₁:=by
 subst hfa;apply yo;intro _ k0
 obtain⟨σ',k,hp,hk⟩:=hp;apply k0
 have hi:Kz vs.toArray.toList ns:=by
  simp only[List.toList_toArray];clear hL hp
  induction hI with
  |nil=>exact .nil
  |cons n t _ ih=>exact .cons ⟨t,rfl⟩ ih
 have hb:F [.scr ns] ⟨Bh,[.ctab T ll cc q none]⟩≠.bot:=by rw[hp];intro z;cases z
 have hT1:=hT (cd,T) (.head _);have hne:∀b o,b≠T->s₁.heap.get? b=some o->(ghostOf s₁.heap [(cd,T)]).get? b=some o:=λb o n e=>ghost_ne e (λm=>n (lq0 m))
 have I:Cy ⟨prog,w,ghostOf s₁.heap [(cd,T)],s₁.os,s₁.gens⟩ s₁ [T] [.ctab T ll cc q none]:=⟨λb o e=>of_hideAll _ e,λb m=>(lq0 m)▸hideAll_none _ (.head _),by simp,rfl,(λk a o e1 e2=>by
  cases k with
  |zero=>cases e1;cases e2;exact⟨rfl,hT1.2⟩
  |succ k=>cases e1),rfl,rfl⟩
 refine wpAny_mono (hF callerA default s₁ [T] ⟨Bh,[.ctab T ll cc q none]⟩ [.scr ns] [.ref l] ⟨rfl,?_,?_⟩ I ⟨⟨[],rfl⟩,λfs e=>by cases e;intro _ m;nomatch m⟩ ?_ hb) (λv s' q=>?_) λx s' q=>?_
 ·show 1+claimMargin+n<=900
  have:claimMargin<=300:=by decide
  omega
 ·show 4+10*n<=9000
  omega
 ·exact⟨_,_,rfl,⟨l,vs.toArray,rfl,ghost_list hT hL,hi⟩,rfl⟩
 ·refine H3.elim q λρ' d σ'' e I' x r=>?_
  simp only[hp]at e
  cases e
  cases(show v=.bool true from r)
  have hρ:ρ'[0]? =some T:=x.pre 0 T rfl
  obtain⟨ps,hP⟩:∃ps,s'.heap.get? T=some (tabObj ps):=by
   apply yo;intro _ k0
   obtain⟨_,h⟩:=I'.sto 0 T _ hρ hk;apply k0
   cases k with
   |none=>exact⟨_,h⟩
   |some k=>obtain⟨c',_,h⟩:=h;exact⟨_,h⟩
  refine⟨.inl ⟨_,_,_,rfl,hc1,.bool true,hc2,λ_=>⟨List.nodup_nil,λ_ m=>nomatch m⟩⟩,⟨λb o e=>?_,λb o e=>?_⟩,I'.os,.of_eq (I'.gens.trans hg)⟩
  ·by_cases hb:b=T
   ·subst hb;have e2:=hT1.2;rw[show s₁.heap.get? b=some o from e]at e2
    cases e2;exact .inr (.inl ⟨(hT1.1.tab hT1.2).isCodeTable,rfl,#[],ps,rfl,by rw[Array.empty_append];exact hP⟩)
   ·exact .inl (I'.base b o (hne b o hb e))
  ·by_cases hb:b=T
   ·subst hb;exact⟨_,hP⟩
   ·exact⟨o,I'.base b o (hne b o hb e)⟩
 ·obtain⟨ρ',c,σ'',a,e,_⟩:=q;rw[hp]at e;cases e
theorem zFL{prog:Program}{w:World}{s₁:Shared}{cd T:Addr}{p:Program}{loose:List Str}{mean:ExcName->Option Value}{mg mb:Str->Option Value}{os:OsState}{gens:Array GenState}(hT:TabsAt [(cd,T)] s₁.heap) (Tp:Top p loose mean mg mb s₁.heap):zBw ⟨prog,w,ghostOf s₁.heap [(cd,T)],os,gens⟩ cd T:=by
 have Tg:=ghost_top hT Tp;apply yo;intro _ k0
 obtain⟨bm,ob,b1,b2,b3,b4,b5,b6⟩:=Tg.bmain;apply k0
 exact⟨(ghost_code hT).1,⟨mg,bm,ob,Tg.g,b1,b2,b3,b4,b5,b6⟩,Tg.nolimit⟩
structure zIk (G:Gd) (K:Frag) (c T:Addr):Prop where
 lay:zAI G K
 lam:zBw G c T
end
structure Bx where
 t:Int
 l:Int
 h:Int
 w:Int
noncomputable def Bx.Good (R C:Int) (b:Bx):Prop:=0<=b.t/\0<=b.l/\1<=b.h/\1<=b.w/\b.t+b.h<=R/\b.l+b.w<=C
noncomputable def Bx.Disj (a b:Bx):Prop:=a.t+a.h<=b.t∨b.t+b.h<=a.t∨a.l+a.w<=b.l∨b.l+b.w<=a.l
noncomputable def Bx.Sub (a b:Bx):Prop:=b.t<=a.t/\b.l<=a.l/\a.t+a.h<=b.t+b.h/\a.l+a.w<=b.l+b.w
noncomputable def Bx.In (b:Bx) (r c:Int):Prop:=b.t<=r/\r<b.t+b.h/\b.l<=c/\c<b.l+b.w
theorem Bx.Disj.symm{a b:Bx}(h:a.Disj b):b.Disj a:=by unfold Bx.Disj at *; exact Or.elim h (λhd2=>.inr (.inl (Am λZ=>A4 [_,_,_] [A7 x2 (.a x0 x1),A5 (.a x0 x1) x2] rT Z hd2))) (λhd2=>Or.elim hd2 (λhd3=>.inl (Am λZ=>A4 [_,_,_] [A7 x0 (.a x1 x2),A5 (.a x1 x2) x0] rT Z hd3)) (λhd3=>Or.elim hd3 (λhd4=>.inr (.inr (.inr (Am λZ=>A4 [_,_,_] [A7 x2 (.a x0 x1),A5 (.a x0 x1) x2] rT Z hd4)))) (λhd4=>.inr (.inr (.inl (Am λZ=>A4 [_,_,_] [A7 x0 (.a x1 x2),A5 (.a x1 x2) x0] rT Z hd4))))))
theorem Bx.Disj.sub{a b c:Bx}(h:a.Disj b) (s:c.Sub b):a.Disj c:=by unfold Bx.Disj Bx.Sub at *; exact Or.elim h (λhd6=>.inl (Am λZ=>A4 [_,_,_,_] [A7 x2 (.a x0 x1),A5 x3 x2,A5 (.a x0 x1) x3] rT Z s.1 hd6)) (λhd6=>Or.elim hd6 (λhd7=>.inr (.inl (Am λZ=>A4 [_,_,_,_,_] [A7 x0 (.a x1 x2),A5 (.a x1 x2) (.a x3 x4),A5 (.a x3 x4) x0] rT Z s.2.2.1 hd7))) (λhd7=>Or.elim hd7 (λhd8=>.inr (.inr (.inl (Am λZ=>A4 [_,_,_,_] [A7 x2 (.a x0 x1),A5 x3 x2,A5 (.a x0 x1) x3] rT Z s.2.1 hd8)))) (λhd8=>.inr (.inr (.inr (Am λZ=>A4 [_,_,_,_,_] [A7 x0 (.a x1 x2),A5 (.a x1 x2) (.a x3 x4),A5 (.a x3 x4) x0] rT Z s.2.2.2 hd8))))))
noncomputable def Le (R C:Int) (bs:List Bx):Prop:=(∀b,b∈bs->b.Good R C)/\bs.Pairwise Bx.Disj
noncomputable def Jc (R C:Int) (b:Bx) (ps:List Bx):Prop:=(∀p,p∈ps->p.Good R C/\p.Sub b)/\ps.Pairwise Bx.Disj/\∀r c,b.In r c->∃p,p∈ps/\p.In r c
theorem Le.swap{R C:Int}{a c:List Bx}{b:Bx}{ps:List Bx}(h:Le R C (a++b::c)) (p:Jc R C b ps):Le R C (a++ps++c):=by
 apply yo;intro _ k0
 obtain⟨g,d⟩:=h;obtain⟨p1,p2,_⟩:=p;rw[List.pairwise_append]at d;obtain⟨d1,d2,d3⟩:=d;rw[List.pairwise_cons]at d2;apply k0
 refine⟨λx m=>?_,?_⟩
 ·rcases List.mem_append.mp m with m|m
  ·rcases List.mem_append.mp m with m|m
   ·exact g x (List.mem_append_left _ m)
   ·exact(p1 x m).1
  ·exact g x (List.mem_append_right _ (lq4 _ m))
 ·refine List.pairwise_append.mpr ⟨List.pairwise_append.mpr ⟨d1,p2,λx mx y my=>?_⟩,d2.2,λx mx y my=>?_⟩
  ·exact(d3 x mx b lq1).sub (p1 y my).2
  ·rcases List.mem_append.mp mx with mx|mx
   ·exact d3 x mx y (lq4 _ my)
   ·exact((d2.1 y my).symm.sub (p1 x mx).2).symm
noncomputable def Pu (R C:Int) (bs:List Bx):Prop:=∀r c,0<=r->r<R->0<=c->c<C->∃b,b∈bs/\b.In r c
theorem Pu.swap{R C:Int}{a c:List Bx}{b:Bx}{ps:List Bx}(h:Pu R C (a++b::c)) (p:Jc R C b ps):Pu R C (a++ps++c):=λr k h1 h2 h3 h4=>by
 apply yo;intro _ k0
 obtain⟨x,m,i⟩:=h r k h1 h2 h3 h4;rcases List.mem_append.mp m with m|m
 ·apply k0
  exact⟨x,List.mem_append_left _ (List.mem_append_left _ m),i⟩
 ·rcases List.mem_cons.mp m with rfl|m
  ·obtain⟨q,mq,iq⟩:=p.2.2 r k i;apply k0
   exact⟨q,List.mem_append_left _ (List.mem_append_right _ mq),iq⟩
  ·apply k0
   exact⟨x,List.mem_append_right _ m,i⟩
theorem Le.corners{R C:Int}{bs:List Bx}(h:Le R C bs) (hC:C<=1048576):(bs.map λb=>b.t*1048576+b.l).Nodup:=by
 obtain⟨g,d⟩:=h;rw[List.nodup_iff_pairwise_ne,List.pairwise_map];have:bs.Pairwise (λa b=>a∈bs/\b∈bs/\a.Disj b):=by
  rw[List.pairwise_iff_getElem]at d ⊢;exactλi j hi hj hij=>⟨List.getElem_mem hi,List.getElem_mem hj,d i j hi hj hij⟩
 refine this.imp ?_
 intro a b h2z e;apply yo;intro _ k0
 obtain⟨ma,mb,dab⟩:=h2z;apply k0
 have ga:=g a ma;have gb:=g b mb;unfold Bx.Good at ga gb;unfold Bx.Disj at dab;have:a.t=b.t/\a.l=b.l:=by omega
 exact Or.elim dab (λhd12=>A4 [_,_,_] [A5 (.n 1) x0,Gl x1 x2,A5 (.a x1 x0) x2] rT ga.2.2.1 this.1 hd12) (λhd12=>Or.elim hd12 (λhd13=>A4 [_,_,_] [A5 (.n 1) x0,B9 x1 x2,A5 (.a x2 x0) x1] rT gb.2.2.1 this.1 hd13) (λhd13=>Or.elim hd13 (λhd14=>A4 [_,_,_] [A5 (.n 1) x0,Gl x1 x2,A5 (.a x1 x0) x2] rT ga.2.2.2.1 this.2 hd14) (λhd14=>A4 [_,_,_] [A5 (.n 1) x0,B9 x1 x2,A5 (.a x2 x0) x1] rT gb.2.2.2.1 this.2 hd14)))
theorem Za{R C:Int}{b:Bx}(g:b.Good R C):Jc R C b [b]:=⟨λp m=>by rw[lq0 m];exact⟨g,by unfold Bx.Sub;exact⟨Am λZ=>A4 [_] [A7 x0 x0] rT Z,⟨Am λZ=>A4 [_] [A7 x0 x0] rT Z,⟨Am λZ=>A4 [_,_] [A7 (.a x0 x1) (.a x0 x1)] rT Z,Am λZ=>A4 [_,_] [A7 (.a x0 x1) (.a x0 x1)] rT Z⟩⟩⟩⟩,by simp,λr c i=>⟨b,by simp,i⟩⟩
theorem Wd{R C:Int}{b:Bx}(g:b.Good R C){k:Int}(h1:1<=k) (h2:k<b.h):Jc R C b [⟨b.t,b.l,k,b.w⟩,⟨b.t+k,b.l,b.h - k,b.w⟩]:=by
 unfold Bx.Good at g;refine⟨λp m=>?_,?_,λr c i=>?_⟩
 ·simp only[List.mem_cons,List.not_mem_nil,or_false]at m;rcases m with rfl|rfl
  ·unfold Bx.Good Bx.Sub;dsimp only;exact⟨⟨Am λZ=>A4 [_] [A7 x0 (.n 0),A5 (.n 0) x0] rT Z g.1,⟨Am λZ=>A4 [_] [A7 x0 (.n 0),A5 (.n 0) x0] rT Z g.2.1,⟨Am λZ=>A4 [_] [A7 x0 (.n 1),A5 (.n 1) x0] rT Z h1,⟨Am λZ=>A4 [_] [A7 x0 (.n 1),A5 (.n 1) x0] rT Z g.2.2.2.1,⟨Am λZ=>A4 [_,_,_,_] [A7 x1 (.a x0 x2),A5 (.a x0 x3) x1,A7 x2 x3] rT Z g.2.2.2.2.1 h2,Am λZ=>A4 [_,_,_] [A7 x2 (.a x0 x1),A5 (.a x0 x1) x2] rT Z g.2.2.2.2.2⟩⟩⟩⟩⟩,⟨Am λZ=>A4 [_] [A7 x0 x0] rT Z,⟨Am λZ=>A4 [_] [A7 x0 x0] rT Z,⟨Am λZ=>A4 [_,_,_] [A7 (.a x0 x1) (.a x0 x2),A7 x2 x1] rT Z h2,Am λZ=>A4 [_,_] [A7 (.a x0 x1) (.a x0 x1)] rT Z⟩⟩⟩⟩
  ·unfold Bx.Good Bx.Sub;dsimp only;exact⟨⟨Am λZ=>A4 [_,_] [A7 (.a x0 x1) (.n 0),A5 (.n 0) x0,A5 (.n 1) x1] rT Z g.1 h1,⟨Am λZ=>A4 [_] [A7 x0 (.n 0),A5 (.n 0) x0] rT Z g.2.1,⟨Am λZ=>A4 [_,_] [A7 (.s x0 x1) (.n 1),A7 x1 x0] rT Z h2,⟨Am λZ=>A4 [_] [A7 x0 (.n 1),A5 (.n 1) x0] rT Z g.2.2.2.1,⟨Am λZ=>A4 [_,_,_,_] [A7 x2 (.a (.a x0 x3) (.s x1 x3)),A5 (.a x0 x1) x2] rT Z g.2.2.2.2.1,Am λZ=>A4 [_,_,_] [A7 x2 (.a x0 x1),A5 (.a x0 x1) x2] rT Z g.2.2.2.2.2⟩⟩⟩⟩⟩,⟨Am λZ=>A4 [_,_] [A7 (.a x0 x1) x0,A5 (.n 1) x1] rT Z h1,⟨Am λZ=>A4 [_] [A7 x0 x0] rT Z,⟨Am λZ=>A4 [_,_,_] [A7 (.a x0 x1) (.a (.a x0 x2) (.s x1 x2))] rT Z,Am λZ=>A4 [_,_] [A7 (.a x0 x1) (.a x0 x1)] rT Z⟩⟩⟩⟩
 ·simp[Bx.Disj]
 ·unfold Bx.In at i;by_cases hr:r<b.t+k
  ·exact⟨_,lq1,by unfold Bx.In;dsimp only;exact⟨Am λZ=>A4 [_,_] [A7 x1 x0,A5 x0 x1] rT Z i.1,⟨C4 λZ=>A4 [_,_,_] [A5 (.a x0 x1) x2,A7 x2 (.a x0 x1)] rT Z hr,⟨Am λZ=>A4 [_,_] [A7 x1 x0,A5 x0 x1] rT Z i.2.2.1,C4 λZ=>A4 [_,_,_] [A5 (.a x0 x1) x2,A7 x2 (.a x0 x1)] rT Z i.2.2.2⟩⟩⟩⟩
  ·exact⟨_,lq4 _ lq1,by unfold Bx.In;dsimp only;exact⟨Am λZ=>A4 [_,_,_] [A7 x2 (.a x0 x1),A5 (.a x0 x1) x2] rT Z (Int.not_lt.mp hr),⟨C4 λZ=>A4 [_,_,_,_] [A5 (.a (.a x0 x2) (.s x1 x2)) x3,A7 x3 (.a x0 x1)] rT Z i.2.1,⟨Am λZ=>A4 [_,_] [A7 x1 x0,A5 x0 x1] rT Z i.2.2.1,C4 λZ=>A4 [_,_,_] [A5 (.a x0 x1) x2,A7 x2 (.a x0 x1)] rT Z i.2.2.2⟩⟩⟩⟩
theorem Vx{R C:Int}{b:Bx}(g:b.Good R C){k:Int}(h1:1<=k) (h2:k<b.w):Jc R C b [⟨b.t,b.l,b.h,k⟩,⟨b.t,b.l+k,b.h,b.w - k⟩]:=by
 unfold Bx.Good at g;refine⟨λp m=>?_,?_,λr c i=>?_⟩
 ·simp only[List.mem_cons,List.not_mem_nil,or_false]at m;rcases m with rfl|rfl
  ·unfold Bx.Good Bx.Sub;dsimp only;exact⟨⟨Am λZ=>A4 [_] [A7 x0 (.n 0),A5 (.n 0) x0] rT Z g.1,⟨Am λZ=>A4 [_] [A7 x0 (.n 0),A5 (.n 0) x0] rT Z g.2.1,⟨Am λZ=>A4 [_] [A7 x0 (.n 1),A5 (.n 1) x0] rT Z g.2.2.1,⟨Am λZ=>A4 [_] [A7 x0 (.n 1),A5 (.n 1) x0] rT Z h1,⟨Am λZ=>A4 [_,_,_] [A7 x2 (.a x0 x1),A5 (.a x0 x1) x2] rT Z g.2.2.2.2.1,Am λZ=>A4 [_,_,_,_] [A7 x1 (.a x0 x2),A5 (.a x0 x3) x1,A7 x2 x3] rT Z g.2.2.2.2.2 h2⟩⟩⟩⟩⟩,⟨Am λZ=>A4 [_] [A7 x0 x0] rT Z,⟨Am λZ=>A4 [_] [A7 x0 x0] rT Z,⟨Am λZ=>A4 [_,_] [A7 (.a x0 x1) (.a x0 x1)] rT Z,Am λZ=>A4 [_,_,_] [A7 (.a x0 x1) (.a x0 x2),A7 x2 x1] rT Z h2⟩⟩⟩⟩
  ·unfold Bx.Good Bx.Sub;dsimp only;exact⟨⟨Am λZ=>A4 [_] [A7 x0 (.n 0),A5 (.n 0) x0] rT Z g.1,⟨Am λZ=>A4 [_,_] [A7 (.a x0 x1) (.n 0),A5 (.n 0) x0,A5 (.n 1) x1] rT Z g.2.1 h1,⟨Am λZ=>A4 [_] [A7 x0 (.n 1),A5 (.n 1) x0] rT Z g.2.2.1,⟨Am λZ=>A4 [_,_] [A7 (.s x0 x1) (.n 1),A7 x1 x0] rT Z h2,⟨Am λZ=>A4 [_,_,_] [A7 x2 (.a x0 x1),A5 (.a x0 x1) x2] rT Z g.2.2.2.2.1,Am λZ=>A4 [_,_,_,_] [A7 x2 (.a (.a x0 x3) (.s x1 x3)),A5 (.a x0 x1) x2] rT Z g.2.2.2.2.2⟩⟩⟩⟩⟩,⟨Am λZ=>A4 [_] [A7 x0 x0] rT Z,⟨Am λZ=>A4 [_,_] [A7 (.a x0 x1) x0,A5 (.n 1) x1] rT Z h1,⟨Am λZ=>A4 [_,_] [A7 (.a x0 x1) (.a x0 x1)] rT Z,Am λZ=>A4 [_,_,_] [A7 (.a x0 x1) (.a (.a x0 x2) (.s x1 x2))] rT Z⟩⟩⟩⟩
 ·simp[Bx.Disj]
 ·unfold Bx.In at i;by_cases hr:c<b.l+k
  ·exact⟨_,lq1,by unfold Bx.In;dsimp only;exact⟨Am λZ=>A4 [_,_] [A7 x1 x0,A5 x0 x1] rT Z i.1,⟨C4 λZ=>A4 [_,_,_] [A5 (.a x0 x1) x2,A7 x2 (.a x0 x1)] rT Z i.2.1,⟨Am λZ=>A4 [_,_] [A7 x1 x0,A5 x0 x1] rT Z i.2.2.1,C4 λZ=>A4 [_,_,_] [A5 (.a x0 x1) x2,A7 x2 (.a x0 x1)] rT Z hr⟩⟩⟩⟩
  ·exact⟨_,lq4 _ lq1,by unfold Bx.In;dsimp only;exact⟨Am λZ=>A4 [_,_] [A7 x1 x0,A5 x0 x1] rT Z i.1,⟨C4 λZ=>A4 [_,_,_] [A5 (.a x0 x1) x2,A7 x2 (.a x0 x1)] rT Z i.2.1,⟨Am λZ=>A4 [_,_,_] [A7 x2 (.a x0 x1),A5 (.a x0 x1) x2] rT Z (Int.not_lt.mp hr),C4 λZ=>A4 [_,_,_,_] [A5 (.a (.a x0 x2) (.s x1 x2)) x3,A7 x3 (.a x0 x1)] rT Z i.2.2.2⟩⟩⟩⟩
theorem zIm{a b c d e:Bx}(P:Bx->Prop) (h:P a∨P b∨P c∨P d∨P e):∃p,p∈[a,b,c,d,e]/\P p:=by
 rcases h with h|h|h|h|h
 ·exact⟨a,by simp,h⟩
 ·exact⟨b,by simp,h⟩
 ·exact⟨c,by simp,h⟩
 ·exact⟨d,by simp,h⟩
 ·exact⟨e,by simp,h⟩
theorem zK4{a b c d e:Bx}(h1:a.Disj b) (h2:a.Disj c) (h3:a.Disj d) (h4:a.Disj e) (h5:b.Disj c) (h6:b.Disj d) (h7:b.Disj e) (h8:c.Disj d) (h9:c.Disj e) (h10:d.Disj e):[a,b,c,d,e].Pairwise Bx.Disj:=by
 simp[h1,h2,h3,h4,h5,h6,h7,h8,h9,h10]
theorem T9{R C:Int}{b:Bx}(g:b.Good R C) (hh:2<b.h) (hw:2<b.w):
  Jc R C b [⟨b.t,b.l,1,b.w - 1⟩,⟨b.t,b.l+(b.w - 1),b.h - 1,1⟩,⟨b.t+(b.h - 1),b.l+1,1,b.w - 1⟩,⟨b.t+1,b.l,b.h - 1,1⟩,⟨b.t+1,b.l+1,b.h - 1 - 1,b.w - 1 - 1⟩]:=by
 unfold Bx.Good at g;refine⟨λp m=>?_,zK4 (by unfold Bx.Disj;exact .inr (.inr (.inl (Am λZ=>A4 [_,_] [A7 (.a x0 (.s x1 (.n 1))) (.a x0 (.s x1 (.n 1)))] rT Z)))) (by unfold Bx.Disj;dsimp only;exact .inl (Am λZ=>A4 [_,_] [A7 (.a x0 (.s x1 (.n 1))) (.a x0 (.n 1)),A7 (.n 2) x1] rT Z hh)) (by unfold Bx.Disj;dsimp only;exact .inl (Am λZ=>A4 [_] [A7 (.a x0 (.n 1)) (.a x0 (.n 1))] rT Z)) (by unfold Bx.Disj;dsimp only;exact .inl (Am λZ=>A4 [_] [A7 (.a x0 (.n 1)) (.a x0 (.n 1))] rT Z)) (by unfold Bx.Disj;dsimp only;exact .inl (Am λZ=>A4 [_,_] [A7 (.a x0 (.s x1 (.n 1))) (.a x0 (.s x1 (.n 1)))] rT Z)) (by unfold Bx.Disj;dsimp only;exact .inr (.inr (.inr (Am λZ=>A4 [_,_] [A7 (.a x0 (.s x1 (.n 1))) (.a x0 (.n 1)),A7 (.n 2) x1] rT Z hw)))) (by unfold Bx.Disj;dsimp only;exact .inr (.inr (.inr (Am λZ=>A4 [_,_] [A7 (.a x0 (.s x1 (.n 1))) (.a (.a x0 (.n 1)) (.s (.s x1 (.n 1)) (.n 1)))] rT Z)))) (by unfold Bx.Disj;dsimp only;exact .inr (.inr (.inr (Am λZ=>A4 [_] [A7 (.a x0 (.n 1)) (.a x0 (.n 1))] rT Z)))) (by unfold Bx.Disj;dsimp only;exact .inr (.inl (Am λZ=>A4 [_,_] [A7 (.a x0 (.s x1 (.n 1))) (.a (.a x0 (.n 1)) (.s (.s x1 (.n 1)) (.n 1)))] rT Z))) (by unfold Bx.Disj;dsimp only;exact .inr (.inr (.inl (Am λZ=>A4 [_] [A7 (.a x0 (.n 1)) (.a x0 (.n 1))] rT Z)))),λr c i=>zIm _ ?_⟩
 ·simp only[List.mem_cons,List.not_mem_nil,or_false]at m;rcases m with rfl|rfl|rfl|rfl|rfl
  ·unfold Bx.Good Bx.Sub;exact⟨⟨Am λZ=>A4 [_] [A7 x0 (.n 0),A5 (.n 0) x0] rT Z g.1,⟨Am λZ=>A4 [_] [A7 x0 (.n 0),A5 (.n 0) x0] rT Z g.2.1,⟨Am λZ=>A4 [] [A7 (.n 1) (.n 1)] rT Z,⟨Am λZ=>A4 [_] [A7 (.s x0 (.n 1)) (.n 1),A7 (.n 2) x0] rT Z hw,⟨Am λZ=>A4 [_,_,_] [A7 x1 (.a x0 (.n 1)),A5 (.n 1) x2,A5 (.a x0 x2) x1] rT Z g.2.2.1 g.2.2.2.2.1,Am λZ=>A4 [_,_,_] [A7 x2 (.a x0 (.s x1 (.n 1))),A5 (.a x0 x1) x2] rT Z g.2.2.2.2.2⟩⟩⟩⟩⟩,⟨Am λZ=>A4 [_] [A7 x0 x0] rT Z,⟨Am λZ=>A4 [_] [A7 x0 x0] rT Z,⟨Am λZ=>A4 [_,_] [A7 (.a x0 x1) (.a x0 (.n 1)),A5 (.n 1) x1] rT Z g.2.2.1,Am λZ=>A4 [_,_] [A7 (.a x0 x1) (.a x0 (.s x1 (.n 1)))] rT Z⟩⟩⟩⟩
  ·unfold Bx.Good Bx.Sub;exact⟨⟨Am λZ=>A4 [_] [A7 x0 (.n 0),A5 (.n 0) x0] rT Z g.1,⟨Am λZ=>A4 [_,_] [A7 (.a x0 (.s x1 (.n 1))) (.n 0),A5 (.n 0) x0,A5 (.n 1) x1] rT Z g.2.1 g.2.2.2.1,⟨Am λZ=>A4 [_] [A7 (.s x0 (.n 1)) (.n 1),A7 (.n 2) x0] rT Z hh,⟨Am λZ=>A4 [] [A7 (.n 1) (.n 1)] rT Z,⟨Am λZ=>A4 [_,_,_] [A7 x2 (.a x0 (.s x1 (.n 1))),A5 (.a x0 x1) x2] rT Z g.2.2.2.2.1,Am λZ=>A4 [_,_,_] [A7 x2 (.a (.a x0 (.s x1 (.n 1))) (.n 1)),A5 (.a x0 x1) x2] rT Z g.2.2.2.2.2⟩⟩⟩⟩⟩,⟨Am λZ=>A4 [_] [A7 x0 x0] rT Z,⟨Am λZ=>A4 [_,_] [A7 (.a x0 (.s x1 (.n 1))) x0,A5 (.n 1) x1] rT Z g.2.2.2.1,⟨Am λZ=>A4 [_,_] [A7 (.a x0 x1) (.a x0 (.s x1 (.n 1)))] rT Z,Am λZ=>A4 [_,_] [A7 (.a x0 x1) (.a (.a x0 (.s x1 (.n 1))) (.n 1))] rT Z⟩⟩⟩⟩
  ·unfold Bx.Good Bx.Sub;exact⟨⟨Am λZ=>A4 [_,_] [A7 (.a x0 (.s x1 (.n 1))) (.n 0),A5 (.n 0) x0,A5 (.n 1) x1] rT Z g.1 g.2.2.1,⟨Am λZ=>A4 [_] [A7 (.a x0 (.n 1)) (.n 0),A5 (.n 0) x0] rT Z g.2.1,⟨Am λZ=>A4 [] [A7 (.n 1) (.n 1)] rT Z,⟨Am λZ=>A4 [_] [A7 (.s x0 (.n 1)) (.n 1),A7 (.n 2) x0] rT Z hw,⟨Am λZ=>A4 [_,_,_] [A7 x2 (.a (.a x0 (.s x1 (.n 1))) (.n 1)),A5 (.a x0 x1) x2] rT Z g.2.2.2.2.1,Am λZ=>A4 [_,_,_] [A7 x2 (.a (.a x0 (.n 1)) (.s x1 (.n 1))),A5 (.a x0 x1) x2] rT Z g.2.2.2.2.2⟩⟩⟩⟩⟩,⟨Am λZ=>A4 [_,_] [A7 (.a x0 (.s x1 (.n 1))) x0,A5 (.n 1) x1] rT Z g.2.2.1,⟨Am λZ=>A4 [_] [A7 (.a x0 (.n 1)) x0] rT Z,⟨Am λZ=>A4 [_,_] [A7 (.a x0 x1) (.a (.a x0 (.s x1 (.n 1))) (.n 1))] rT Z,Am λZ=>A4 [_,_] [A7 (.a x0 x1) (.a (.a x0 (.n 1)) (.s x1 (.n 1)))] rT Z⟩⟩⟩⟩
  ·unfold Bx.Good Bx.Sub;dsimp only;exact⟨⟨Am λZ=>A4 [_] [A7 (.a x0 (.n 1)) (.n 0),A5 (.n 0) x0] rT Z g.1,⟨Am λZ=>A4 [_] [A7 x0 (.n 0),A5 (.n 0) x0] rT Z g.2.1,⟨Am λZ=>A4 [_] [A7 (.s x0 (.n 1)) (.n 1),A7 (.n 2) x0] rT Z hh,⟨Am λZ=>A4 [] [A7 (.n 1) (.n 1)] rT Z,⟨Am λZ=>A4 [_,_,_] [A7 x2 (.a (.a x0 (.n 1)) (.s x1 (.n 1))),A5 (.a x0 x1) x2] rT Z g.2.2.2.2.1,Am λZ=>A4 [_,_,_] [A7 x1 (.a x0 (.n 1)),A5 (.n 1) x2,A5 (.a x0 x2) x1] rT Z g.2.2.2.1 g.2.2.2.2.2⟩⟩⟩⟩⟩,⟨Am λZ=>A4 [_] [A7 (.a x0 (.n 1)) x0] rT Z,⟨Am λZ=>A4 [_] [A7 x0 x0] rT Z,⟨Am λZ=>A4 [_,_] [A7 (.a x0 x1) (.a (.a x0 (.n 1)) (.s x1 (.n 1)))] rT Z,Am λZ=>A4 [_,_] [A7 (.a x0 x1) (.a x0 (.n 1)),A5 (.n 1) x1] rT Z g.2.2.2.1⟩⟩⟩⟩
  ·unfold Bx.Good Bx.Sub;exact⟨⟨Am λZ=>A4 [_] [A7 (.a x0 (.n 1)) (.n 0),A5 (.n 0) x0] rT Z g.1,⟨Am λZ=>A4 [_] [A7 (.a x0 (.n 1)) (.n 0),A5 (.n 0) x0] rT Z g.2.1,⟨Am λZ=>A4 [_] [A7 (.s (.s x0 (.n 1)) (.n 1)) (.n 1),A7 (.n 2) x0] rT Z hh,⟨Am λZ=>A4 [_] [A7 (.s (.s x0 (.n 1)) (.n 1)) (.n 1),A7 (.n 2) x0] rT Z hw,⟨Am λZ=>A4 [_,_,_] [A7 x2 (.a (.a x0 (.n 1)) (.s (.s x1 (.n 1)) (.n 1))),A5 (.a x0 x1) x2] rT Z g.2.2.2.2.1,Am λZ=>A4 [_,_,_] [A7 x2 (.a (.a x0 (.n 1)) (.s (.s x1 (.n 1)) (.n 1))),A5 (.a x0 x1) x2] rT Z g.2.2.2.2.2⟩⟩⟩⟩⟩,⟨Am λZ=>A4 [_] [A7 (.a x0 (.n 1)) x0] rT Z,⟨Am λZ=>A4 [_] [A7 (.a x0 (.n 1)) x0] rT Z,⟨Am λZ=>A4 [_,_] [A7 (.a x0 x1) (.a (.a x0 (.n 1)) (.s (.s x1 (.n 1)) (.n 1)))] rT Z,Am λZ=>A4 [_,_] [A7 (.a x0 x1) (.a (.a x0 (.n 1)) (.s (.s x1 (.n 1)) (.n 1)))] rT Z⟩⟩⟩⟩
 ·unfold Bx.In at i ⊢;dsimp only;by_cases h1:r<=b.t
  ·by_cases h2:c<b.l+(b.w - 1)
   ·exact .inl (⟨Am λZ=>A4 [_,_] [A7 x1 x0,A5 x0 x1] rT Z i.1,⟨C4 λZ=>A4 [_,_] [A5 (.a x0 (.n 1)) x1,A5 x1 x0] rT Z h1,⟨Am λZ=>A4 [_,_] [A7 x1 x0,A5 x0 x1] rT Z i.2.2.1,C4 λZ=>A4 [_,_,_] [A5 (.a x0 (.s x1 (.n 1))) x2,A7 x2 (.a x0 (.s x1 (.n 1)))] rT Z h2⟩⟩⟩)
   ·exact .inr (.inl (⟨Am λZ=>A4 [_,_] [A7 x1 x0,A5 x0 x1] rT Z i.1,⟨C4 λZ=>A4 [_,_,_] [A5 (.a x0 (.s x1 (.n 1))) x2,A7 (.n 2) x1,A5 x2 x0] rT Z hh h1,⟨Am λZ=>A4 [_,_,_] [A7 x2 (.a x0 (.s x1 (.n 1))),A5 (.a x0 (.s x1 (.n 1))) x2] rT Z (Int.not_lt.mp h2),C4 λZ=>A4 [_,_,_] [A5 (.a (.a x0 (.s x1 (.n 1))) (.n 1)) x2,A7 x2 (.a x0 x1)] rT Z i.2.2.2⟩⟩⟩))
  ·by_cases h3:b.t+(b.h - 1)<=r
   ·by_cases h4:b.l<c
    ·exact .inr (.inr (.inl (⟨Am λZ=>A4 [_,_,_] [A7 x2 (.a x0 (.s x1 (.n 1))),A5 (.a x0 (.s x1 (.n 1))) x2] rT Z h3,⟨C4 λZ=>A4 [_,_,_] [A5 (.a (.a x0 (.s x1 (.n 1))) (.n 1)) x2,A7 x2 (.a x0 x1)] rT Z i.2.1,⟨Am λZ=>A4 [_,_] [A7 x1 (.a x0 (.n 1)),A7 x0 x1] rT Z h4,C4 λZ=>A4 [_,_,_] [A5 (.a (.a x0 (.n 1)) (.s x1 (.n 1))) x2,A7 x2 (.a x0 x1)] rT Z i.2.2.2⟩⟩⟩)))
    ·exact .inr (.inr (.inr (.inl (⟨Am λZ=>A4 [_,_] [A7 x1 (.a x0 (.n 1)),A7 x0 x1] rT Z (Int.not_le.mp h1),⟨C4 λZ=>A4 [_,_,_] [A5 (.a (.a x0 (.n 1)) (.s x1 (.n 1))) x2,A7 x2 (.a x0 x1)] rT Z i.2.1,⟨Am λZ=>A4 [_,_] [A7 x1 x0,A5 x0 x1] rT Z i.2.2.1,C4 λZ=>A4 [_,_] [A5 (.a x0 (.n 1)) x1,A5 x1 x0] rT Z (Int.not_lt.mp h4)⟩⟩⟩))))
   ·by_cases h5:c<=b.l
    ·exact .inr (.inr (.inr (.inl (⟨Am λZ=>A4 [_,_] [A7 x1 (.a x0 (.n 1)),A7 x0 x1] rT Z (Int.not_le.mp h1),⟨C4 λZ=>A4 [_,_,_] [A5 (.a (.a x0 (.n 1)) (.s x1 (.n 1))) x2,A7 x2 (.a x0 x1)] rT Z i.2.1,⟨Am λZ=>A4 [_,_] [A7 x1 x0,A5 x0 x1] rT Z i.2.2.1,C4 λZ=>A4 [_,_] [A5 (.a x0 (.n 1)) x1,A5 x1 x0] rT Z h5⟩⟩⟩))))
    ·by_cases h6:b.l+(b.w - 1)<=c
     ·exact .inr (.inl (⟨Am λZ=>A4 [_,_] [A7 x1 x0,A5 x0 x1] rT Z i.1,⟨C4 λZ=>A4 [_,_,_] [A5 (.a x0 (.s x1 (.n 1))) x2,A7 x2 (.a x0 (.s x1 (.n 1)))] rT Z (Int.not_le.mp h3),⟨Am λZ=>A4 [_,_,_] [A7 x2 (.a x0 (.s x1 (.n 1))),A5 (.a x0 (.s x1 (.n 1))) x2] rT Z h6,C4 λZ=>A4 [_,_,_] [A5 (.a (.a x0 (.s x1 (.n 1))) (.n 1)) x2,A7 x2 (.a x0 x1)] rT Z i.2.2.2⟩⟩⟩))
     ·exact .inr (.inr (.inr (.inr (⟨Am λZ=>A4 [_,_] [A7 x1 (.a x0 (.n 1)),A7 x0 x1] rT Z (Int.not_le.mp h1),⟨C4 λZ=>A4 [_,_,_] [A5 (.a (.a x0 (.n 1)) (.s (.s x1 (.n 1)) (.n 1))) x2,A7 x2 (.a x0 (.s x1 (.n 1)))] rT Z (Int.not_le.mp h3),⟨Am λZ=>A4 [_,_] [A7 x1 (.a x0 (.n 1)),A7 x0 x1] rT Z (Int.not_le.mp h5),C4 λZ=>A4 [_,_,_] [A5 (.a (.a x0 (.n 1)) (.s (.s x1 (.n 1)) (.n 1))) x2,A7 x2 (.a x0 (.s x1 (.n 1)))] rT Z (Int.not_le.mp h6)⟩⟩⟩))))
theorem Ri{R C:Int}{b:Bx}(g:b.Good R C) (hh:2<b.h) (hw:2<b.w):
  Jc R C b [⟨b.t,b.l+1,1,b.w - 1⟩,⟨b.t,b.l,b.h - 1,1⟩,⟨b.t+(b.h - 1),b.l,1,b.w - 1⟩,⟨b.t+1,b.l+(b.w - 1),b.h - 1,1⟩,⟨b.t+1,b.l+1,b.h - 1 - 1,b.w - 1 - 1⟩]:=by
 unfold Bx.Good at g;refine⟨λp m=>?_,zK4 (by unfold Bx.Disj;dsimp only;exact .inr (.inr (.inr (Am λZ=>A4 [_] [A7 (.a x0 (.n 1)) (.a x0 (.n 1))] rT Z)))) (by unfold Bx.Disj;dsimp only;exact .inl (Am λZ=>A4 [_,_] [A7 (.a x0 (.s x1 (.n 1))) (.a x0 (.n 1)),A7 (.n 2) x1] rT Z hh)) (by unfold Bx.Disj;dsimp only;exact .inl (Am λZ=>A4 [_] [A7 (.a x0 (.n 1)) (.a x0 (.n 1))] rT Z)) (by unfold Bx.Disj;dsimp only;exact .inl (Am λZ=>A4 [_] [A7 (.a x0 (.n 1)) (.a x0 (.n 1))] rT Z)) (by unfold Bx.Disj;dsimp only;exact .inl (Am λZ=>A4 [_,_] [A7 (.a x0 (.s x1 (.n 1))) (.a x0 (.s x1 (.n 1)))] rT Z)) (by unfold Bx.Disj;dsimp only;exact .inr (.inr (.inl (Am λZ=>A4 [_,_] [A7 (.a x0 (.s x1 (.n 1))) (.a x0 (.n 1)),A7 (.n 2) x1] rT Z hw)))) (by unfold Bx.Disj;dsimp only;exact .inr (.inr (.inl (Am λZ=>A4 [_] [A7 (.a x0 (.n 1)) (.a x0 (.n 1))] rT Z)))) (by unfold Bx.Disj;dsimp only;exact .inr (.inr (.inl (Am λZ=>A4 [_,_] [A7 (.a x0 (.s x1 (.n 1))) (.a x0 (.s x1 (.n 1)))] rT Z)))) (by unfold Bx.Disj;dsimp only;exact .inr (.inl (Am λZ=>A4 [_,_] [A7 (.a x0 (.s x1 (.n 1))) (.a (.a x0 (.n 1)) (.s (.s x1 (.n 1)) (.n 1)))] rT Z))) (by unfold Bx.Disj;exact .inr (.inr (.inr (Am λZ=>A4 [_,_] [A7 (.a x0 (.s x1 (.n 1))) (.a (.a x0 (.n 1)) (.s (.s x1 (.n 1)) (.n 1)))] rT Z)))),λr c i=>zIm _ ?_⟩
 ·simp only[List.mem_cons,List.not_mem_nil,or_false]at m;rcases m with rfl|rfl|rfl|rfl|rfl
  ·unfold Bx.Good Bx.Sub;exact⟨⟨Am λZ=>A4 [_] [A7 x0 (.n 0),A5 (.n 0) x0] rT Z g.1,⟨Am λZ=>A4 [_] [A7 (.a x0 (.n 1)) (.n 0),A5 (.n 0) x0] rT Z g.2.1,⟨Am λZ=>A4 [] [A7 (.n 1) (.n 1)] rT Z,⟨Am λZ=>A4 [_] [A7 (.s x0 (.n 1)) (.n 1),A7 (.n 2) x0] rT Z hw,⟨Am λZ=>A4 [_,_,_] [A7 x1 (.a x0 (.n 1)),A5 (.n 1) x2,A5 (.a x0 x2) x1] rT Z g.2.2.1 g.2.2.2.2.1,Am λZ=>A4 [_,_,_] [A7 x2 (.a (.a x0 (.n 1)) (.s x1 (.n 1))),A5 (.a x0 x1) x2] rT Z g.2.2.2.2.2⟩⟩⟩⟩⟩,⟨Am λZ=>A4 [_] [A7 x0 x0] rT Z,⟨Am λZ=>A4 [_] [A7 (.a x0 (.n 1)) x0] rT Z,⟨Am λZ=>A4 [_,_] [A7 (.a x0 x1) (.a x0 (.n 1)),A5 (.n 1) x1] rT Z g.2.2.1,Am λZ=>A4 [_,_] [A7 (.a x0 x1) (.a (.a x0 (.n 1)) (.s x1 (.n 1)))] rT Z⟩⟩⟩⟩
  ·unfold Bx.Good Bx.Sub;exact⟨⟨Am λZ=>A4 [_] [A7 x0 (.n 0),A5 (.n 0) x0] rT Z g.1,⟨Am λZ=>A4 [_] [A7 x0 (.n 0),A5 (.n 0) x0] rT Z g.2.1,⟨Am λZ=>A4 [_] [A7 (.s x0 (.n 1)) (.n 1),A7 (.n 2) x0] rT Z hh,⟨Am λZ=>A4 [] [A7 (.n 1) (.n 1)] rT Z,⟨Am λZ=>A4 [_,_,_] [A7 x2 (.a x0 (.s x1 (.n 1))),A5 (.a x0 x1) x2] rT Z g.2.2.2.2.1,Am λZ=>A4 [_,_,_] [A7 x1 (.a x0 (.n 1)),A5 (.n 1) x2,A5 (.a x0 x2) x1] rT Z g.2.2.2.1 g.2.2.2.2.2⟩⟩⟩⟩⟩,⟨Am λZ=>A4 [_] [A7 x0 x0] rT Z,⟨Am λZ=>A4 [_] [A7 x0 x0] rT Z,⟨Am λZ=>A4 [_,_] [A7 (.a x0 x1) (.a x0 (.s x1 (.n 1)))] rT Z,Am λZ=>A4 [_,_] [A7 (.a x0 x1) (.a x0 (.n 1)),A5 (.n 1) x1] rT Z g.2.2.2.1⟩⟩⟩⟩
  ·unfold Bx.Good Bx.Sub;exact⟨⟨Am λZ=>A4 [_,_] [A7 (.a x0 (.s x1 (.n 1))) (.n 0),A5 (.n 0) x0,A5 (.n 1) x1] rT Z g.1 g.2.2.1,⟨Am λZ=>A4 [_] [A7 x0 (.n 0),A5 (.n 0) x0] rT Z g.2.1,⟨Am λZ=>A4 [] [A7 (.n 1) (.n 1)] rT Z,⟨Am λZ=>A4 [_] [A7 (.s x0 (.n 1)) (.n 1),A7 (.n 2) x0] rT Z hw,⟨Am λZ=>A4 [_,_,_] [A7 x2 (.a (.a x0 (.s x1 (.n 1))) (.n 1)),A5 (.a x0 x1) x2] rT Z g.2.2.2.2.1,Am λZ=>A4 [_,_,_] [A7 x2 (.a x0 (.s x1 (.n 1))),A5 (.a x0 x1) x2] rT Z g.2.2.2.2.2⟩⟩⟩⟩⟩,⟨Am λZ=>A4 [_,_] [A7 (.a x0 (.s x1 (.n 1))) x0,A5 (.n 1) x1] rT Z g.2.2.1,⟨Am λZ=>A4 [_] [A7 x0 x0] rT Z,⟨Am λZ=>A4 [_,_] [A7 (.a x0 x1) (.a (.a x0 (.s x1 (.n 1))) (.n 1))] rT Z,Am λZ=>A4 [_,_] [A7 (.a x0 x1) (.a x0 (.s x1 (.n 1)))] rT Z⟩⟩⟩⟩
  ·unfold Bx.Good Bx.Sub;exact⟨⟨Am λZ=>A4 [_] [A7 (.a x0 (.n 1)) (.n 0),A5 (.n 0) x0] rT Z g.1,⟨Am λZ=>A4 [_,_] [A7 (.a x0 (.s x1 (.n 1))) (.n 0),A5 (.n 0) x0,A5 (.n 1) x1] rT Z g.2.1 g.2.2.2.1,⟨Am λZ=>A4 [_] [A7 (.s x0 (.n 1)) (.n 1),A7 (.n 2) x0] rT Z hh,⟨Am λZ=>A4 [] [A7 (.n 1) (.n 1)] rT Z,⟨Am λZ=>A4 [_,_,_] [A7 x2 (.a (.a x0 (.n 1)) (.s x1 (.n 1))),A5 (.a x0 x1) x2] rT Z g.2.2.2.2.1,Am λZ=>A4 [_,_,_] [A7 x2 (.a (.a x0 (.s x1 (.n 1))) (.n 1)),A5 (.a x0 x1) x2] rT Z g.2.2.2.2.2⟩⟩⟩⟩⟩,⟨Am λZ=>A4 [_] [A7 (.a x0 (.n 1)) x0] rT Z,⟨Am λZ=>A4 [_,_] [A7 (.a x0 (.s x1 (.n 1))) x0,A5 (.n 1) x1] rT Z g.2.2.2.1,⟨Am λZ=>A4 [_,_] [A7 (.a x0 x1) (.a (.a x0 (.n 1)) (.s x1 (.n 1)))] rT Z,Am λZ=>A4 [_,_] [A7 (.a x0 x1) (.a (.a x0 (.s x1 (.n 1))) (.n 1))] rT Z⟩⟩⟩⟩
  ·unfold Bx.Good Bx.Sub;exact⟨⟨Am λZ=>A4 [_] [A7 (.a x0 (.n 1)) (.n 0),A5 (.n 0) x0] rT Z g.1,⟨Am λZ=>A4 [_] [A7 (.a x0 (.n 1)) (.n 0),A5 (.n 0) x0] rT Z g.2.1,⟨Am λZ=>A4 [_] [A7 (.s (.s x0 (.n 1)) (.n 1)) (.n 1),A7 (.n 2) x0] rT Z hh,⟨Am λZ=>A4 [_] [A7 (.s (.s x0 (.n 1)) (.n 1)) (.n 1),A7 (.n 2) x0] rT Z hw,⟨Am λZ=>A4 [_,_,_] [A7 x2 (.a (.a x0 (.n 1)) (.s (.s x1 (.n 1)) (.n 1))),A5 (.a x0 x1) x2] rT Z g.2.2.2.2.1,Am λZ=>A4 [_,_,_] [A7 x2 (.a (.a x0 (.n 1)) (.s (.s x1 (.n 1)) (.n 1))),A5 (.a x0 x1) x2] rT Z g.2.2.2.2.2⟩⟩⟩⟩⟩,⟨Am λZ=>A4 [_] [A7 (.a x0 (.n 1)) x0] rT Z,⟨Am λZ=>A4 [_] [A7 (.a x0 (.n 1)) x0] rT Z,⟨Am λZ=>A4 [_,_] [A7 (.a x0 x1) (.a (.a x0 (.n 1)) (.s (.s x1 (.n 1)) (.n 1)))] rT Z,Am λZ=>A4 [_,_] [A7 (.a x0 x1) (.a (.a x0 (.n 1)) (.s (.s x1 (.n 1)) (.n 1)))] rT Z⟩⟩⟩⟩
 ·unfold Bx.In at i ⊢;dsimp only;by_cases h1:r<=b.t
  ·by_cases h2:b.l<c
   ·exact .inl (⟨Am λZ=>A4 [_,_] [A7 x1 x0,A5 x0 x1] rT Z i.1,⟨C4 λZ=>A4 [_,_] [A5 (.a x0 (.n 1)) x1,A5 x1 x0] rT Z h1,⟨Am λZ=>A4 [_,_] [A7 x1 (.a x0 (.n 1)),A7 x0 x1] rT Z h2,C4 λZ=>A4 [_,_,_] [A5 (.a (.a x0 (.n 1)) (.s x1 (.n 1))) x2,A7 x2 (.a x0 x1)] rT Z i.2.2.2⟩⟩⟩)
   ·exact .inr (.inl (⟨Am λZ=>A4 [_,_] [A7 x1 x0,A5 x0 x1] rT Z i.1,⟨C4 λZ=>A4 [_,_,_] [A5 (.a x0 (.s x1 (.n 1))) x2,A7 (.n 2) x1,A5 x2 x0] rT Z hh h1,⟨Am λZ=>A4 [_,_] [A7 x1 x0,A5 x0 x1] rT Z i.2.2.1,C4 λZ=>A4 [_,_] [A5 (.a x0 (.n 1)) x1,A5 x1 x0] rT Z (Int.not_lt.mp h2)⟩⟩⟩))
  ·by_cases h3:b.t+(b.h - 1)<=r
   ·by_cases h4:c<b.l+(b.w - 1)
    ·exact .inr (.inr (.inl (⟨Am λZ=>A4 [_,_,_] [A7 x2 (.a x0 (.s x1 (.n 1))),A5 (.a x0 (.s x1 (.n 1))) x2] rT Z h3,⟨C4 λZ=>A4 [_,_,_] [A5 (.a (.a x0 (.s x1 (.n 1))) (.n 1)) x2,A7 x2 (.a x0 x1)] rT Z i.2.1,⟨Am λZ=>A4 [_,_] [A7 x1 x0,A5 x0 x1] rT Z i.2.2.1,C4 λZ=>A4 [_,_,_] [A5 (.a x0 (.s x1 (.n 1))) x2,A7 x2 (.a x0 (.s x1 (.n 1)))] rT Z h4⟩⟩⟩)))
    ·exact .inr (.inr (.inr (.inl (⟨Am λZ=>A4 [_,_] [A7 x1 (.a x0 (.n 1)),A7 x0 x1] rT Z (Int.not_le.mp h1),⟨C4 λZ=>A4 [_,_,_] [A5 (.a (.a x0 (.n 1)) (.s x1 (.n 1))) x2,A7 x2 (.a x0 x1)] rT Z i.2.1,⟨Am λZ=>A4 [_,_,_] [A7 x2 (.a x0 (.s x1 (.n 1))),A5 (.a x0 (.s x1 (.n 1))) x2] rT Z (Int.not_lt.mp h4),C4 λZ=>A4 [_,_,_] [A5 (.a (.a x0 (.s x1 (.n 1))) (.n 1)) x2,A7 x2 (.a x0 x1)] rT Z i.2.2.2⟩⟩⟩))))
   ·by_cases h5:c<=b.l
    ·exact .inr (.inl (⟨Am λZ=>A4 [_,_] [A7 x1 x0,A5 x0 x1] rT Z i.1,⟨C4 λZ=>A4 [_,_,_] [A5 (.a x0 (.s x1 (.n 1))) x2,A7 x2 (.a x0 (.s x1 (.n 1)))] rT Z (Int.not_le.mp h3),⟨Am λZ=>A4 [_,_] [A7 x1 x0,A5 x0 x1] rT Z i.2.2.1,C4 λZ=>A4 [_,_] [A5 (.a x0 (.n 1)) x1,A5 x1 x0] rT Z h5⟩⟩⟩))
    ·by_cases h6:b.l+(b.w - 1)<=c
     ·exact .inr (.inr (.inr (.inl (⟨Am λZ=>A4 [_,_] [A7 x1 (.a x0 (.n 1)),A7 x0 x1] rT Z (Int.not_le.mp h1),⟨C4 λZ=>A4 [_,_,_] [A5 (.a (.a x0 (.n 1)) (.s x1 (.n 1))) x2,A7 x2 (.a x0 x1)] rT Z i.2.1,⟨Am λZ=>A4 [_,_,_] [A7 x2 (.a x0 (.s x1 (.n 1))),A5 (.a x0 (.s x1 (.n 1))) x2] rT Z h6,C4 λZ=>A4 [_,_,_] [A5 (.a (.a x0 (.s x1 (.n 1))) (.n 1)) x2,A7 x2 (.a x0 x1)] rT Z i.2.2.2⟩⟩⟩))))
     ·exact .inr (.inr (.inr (.inr (⟨Am λZ=>A4 [_,_] [A7 x1 (.a x0 (.n 1)),A7 x0 x1] rT Z (Int.not_le.mp h1),⟨C4 λZ=>A4 [_,_,_] [A5 (.a (.a x0 (.n 1)) (.s (.s x1 (.n 1)) (.n 1))) x2,A7 x2 (.a x0 (.s x1 (.n 1)))] rT Z (Int.not_le.mp h3),⟨Am λZ=>A4 [_,_] [A7 x1 (.a x0 (.n 1)),A7 x0 x1] rT Z (Int.not_le.mp h5),C4 λZ=>A4 [_,_,_] [A5 (.a (.a x0 (.n 1)) (.s (.s x1 (.n 1)) (.n 1))) x2,A7 x2 (.a x0 (.s x1 (.n 1)))] rT Z (Int.not_le.mp h6)⟩⟩⟩))))
theorem zBo{α β:Type}{f:α->β}{l:List α}:∀{m:List β},m.Perm (l.map f)->∃l':List α,l'.Perm l/\m=l'.map f:=by
 intro m p;generalize hn:l.map f=n at p
 induction p generalizing l with
 |nil=>
  have e:=List.map_eq_nil_iff.mp hn;subst e;exact⟨[],.refl _,rfl⟩
 |cons x p ih=>
  cases l with
  |nil=>simp at hn
  |cons a l=>
   simp only[List.map_cons,List.cons.injEq]at hn;obtain⟨l',pl,e⟩:=ih hn.2;exact⟨a::l',pl.cons a,by rw[e,List.map_cons,hn.1]⟩
 |swap x y t=>
  cases l with
  |nil=>simp at hn
  |cons a l=>
   cases l with
   |nil=>simp at hn
   |cons b l=>
    simp only[List.map_cons,List.cons.injEq]at hn;obtain⟨h1,h2,h3⟩:=hn;exact⟨b::a::l,.swap _ _ _,by rw[List.map_cons,List.map_cons,h1,h2,h3]⟩
 |trans p q ih1 ih2=>
  obtain⟨l2,p2,e2⟩:=ih2 hn;obtain⟨l1,p1,e1⟩:=ih1 e2.symm;exact⟨l1,p1.trans p2,e1⟩
theorem Qn{α:Type}(key:α->Int) (k:Int):∀(L:List α),L.Pairwise (λa b=>key a<=key b)->(∀a,a∈L->k<=key a)->L.filter (λa=>key a==k)++L.filter (λa=>!(key a==k))=L
 |[],_,_=>rfl
 |a::L,hp,hk=>by
  have hp':=List.pairwise_cons.mp hp
  cases e:key a==k with
  |true=>
   rw[List.filter_cons_of_pos (by simpa using e),List.filter_cons_of_neg (by simp only[e];decide),List.cons_append,Qn key k L hp'.2 λb m=>hk b (lq4 _ m)]
  |false=>
   have hne:∀b,b∈a::L->(key b==k)=false:=λb m=>by
    have h1:=hk a lq1;have h2:key a≠k:=by simpa using e
    have h3:key a<=key b:=by
     rcases List.mem_cons.mp m with rfl|m
     ·exact Int.le_refl _
     ·exact hp'.1 b m
    rw[beq_eq_false_iff_ne];omega
   rw[List.filter_eq_nil_iff.mpr λb m=>by rw[hne b m];decide,List.nil_append]
   exact List.filter_eq_self.mpr λb m=>by rw[hne b m];rfl
theorem Va{α:Type}(key:α->Int):∀(n:Nat) (lo:Int) (L:List α),L.Pairwise (λa b=>key a<=key b)->(∀a,a∈L->lo<=key a/\key a<lo+n)->(List.range n).flatMap (λ(i:Nat)=>L.filter λa=>key a==lo+(i:Int))=L
 |0,lo,L,_,h=>by
  cases L with
  |nil=>rfl
  |cons a L=>have:=h a lq1;exact False.elim (A4 [_,_] [A5 x0 x1,A7 x1 (.a x0 (.n 0))] rT this.1 this.2)
 |n+1,lo,L,hp,h=>by
  have ih:=Va key n (lo+1) (L.filter λa=>!(key a==lo)) (hp.filter _) λa m=>by
   obtain⟨m,k⟩:=List.mem_filter.mp m;have:=h a m
   have k':key a≠lo:=by simpa using k
   omega
  simp only[List.range_succ_eq_map,List.flatMap_cons,List.flatMap_map];have e0:(L.filter λa=>key a==lo+((0:Nat):Int))=L.filter λa=>key a==lo:=by rw[Int.natCast_zero,Int.add_zero]
  rw[e0];have e1:((List.range n).flatMap λ(i:Nat)=>L.filter λa=>key a==lo+((i+1:Nat):Int))=(List.range n).flatMap λ(i:Nat)=>(L.filter λa=>!(key a==lo)).filter λa=>key a==lo+1+(i:Int):=by
   congr 1
   funext i
   simp only[List.filter_filter];congr 1
   funext a
   have:(lo+((i+1:Nat):Int))=lo+1+i:=by exact Ur (λZ=>A4 [_,_] [A7 (.a x0 (.a x1 (.n 1))) (.a (.a x0 (.n 1)) x1)] rT Z) (λZ=>A4 [_,_] [A7 (.a (.a x0 (.n 1)) x1) (.a x0 (.a x1 (.n 1)))] rT Z)
   rw[this]
   cases q:key a==lo+1+(i:Int)with
   |false=>rfl
   |true=>
    have q':key a=lo+1+i:=by simpa using q
    have:(key a==lo)=false:=by simp only[beq_eq_false_iff_ne];exactλZ=>A4 [_,_,_] [B9 x1 x0,Gl x1 (.a (.a x0 (.n 1)) x2),A5 (.n 0) x2] rT Z q' (Hd _)
    rw[this];rfl
  simp only[e1,ih];exact Qn key lo L hp λa m=>(h a m).1
theorem zCB{α:Type}{A B:List α}(p:A.Perm B) (h:B.length<=1):A=B:=by
 rcases B with _|⟨b,_|⟨c,B⟩⟩
 ·exact p.eq_nil
 ·exact List.perm_singleton.mp p
 ·exact absurd h (by simp)
theorem zGV{α:Type}(key:α->Int){k:Int}{L:List α}(hn:(L.map key).Nodup):∀{M:List α},M.Sublist L->(∀a,a∈M->key a=k)->M.length<=1
 |[],_,_=>lq5 _
 |[_],_,_=>Nat.le_refl _
 |a::b::M,s,h=>by
  have:=hn.sublist (s.map key)
  rw[List.map_cons,List.map_cons,List.nodup_cons]at this;exact absurd (List.mem_cons.mpr (.inl ((h a lq1).trans (h b (lq4 _ lq1)).symm))) this.1
theorem Yd{α:Type}(key:α->Int){n:Nat}{A B:List α}(p:A.Perm B) (hA:A.Pairwise λa b=>key a<=key b) (hB:B.Pairwise λa b=>key a<=key b) (hn:(B.map key).Nodup) (hb:∀b,b∈B->0<=key b/\key b<0+(n:Int)):A=B:=by
 have eA:=Va key n 0 A hA λa m=>hb a (p.mem_iff.mp m)
 have eB:=Va key n 0 B hB hb
 refine eA.symm.trans (Eq.trans ?_ eB)
 congr 1
 funext i
 exact zCB (p.filter _) (zGV key (k:=0+i) hn (List.filter_sublist ..) λa m=>by simpa using(List.mem_filter.mp m).2)
noncomputable def Lm (l:Int) (w:Nat) (r:Int):List (List Int):=(List.range w).map λ(j:Nat)=>[r,l+(j:Int)]
noncomputable def sq (b:Bx):List (List Int):=(List.range b.h.toNat).flatMap λ(i:Nat)=>Lm b.l b.w.toNat (b.t+(i:Int))
theorem Gz{b:Bx}{x:List Int}(h:x∈sq b):∃r c,x=[r,c]/\b.In r c:=by
 obtain⟨i,mi,m⟩:=List.mem_flatMap.mp h;obtain⟨j,mj,rfl⟩:=List.mem_map.mp m;have hi:=List.mem_range.mp mi;have hj:=List.mem_range.mp mj;exact⟨_,_,rfl,Int.le_add_of_nonneg_right (Int.natCast_nonneg _),Int.add_lt_add_left (Int.lt_toNat.mp hi) _,Int.le_add_of_nonneg_right (Int.natCast_nonneg _),Int.add_lt_add_left (Int.lt_toNat.mp hj) _⟩
theorem Ra{b:Bx}{r c:Int}(h:b.In r c):[r,c]∈sq b:=by
 unfold Bx.In at h;refine List.mem_flatMap.mpr ⟨(r - b.t).toNat,List.mem_range.mpr (by exact Iy (C4 λZ=>A4 [_,_,_,_,_] [A5 x1 x0,A7 x3 (.a x2 x4),A5 x4 x1,B9 x0 (.s x3 x2)] rT Z h.2.1 (H7 _) (Cf (Am λY=>A4 [_,_] [A7 (.s x1 x0) (.n 0),A5 x0 x1] rT Y h.1)))),List.mem_map.mpr ⟨(c - b.l).toNat,List.mem_range.mpr (by exact Iy (C4 λZ=>A4 [_,_,_,_,_] [A5 x1 x0,A7 x3 (.a x2 x4),A5 x4 x1,B9 x0 (.s x3 x2)] rT Z h.2.2.2 (H7 _) (Cf (Am λY=>A4 [_,_] [A7 (.s x1 x0) (.n 0),A5 x0 x1] rT Y h.2.2.1)))),?_⟩⟩
 rw[show b.t+((r - b.t).toNat:Int)=r by exact Ur (λZ=>A4 [_,_,_] [A7 (.a x0 x2) x1,A5 (.s x1 x0) x2] rT Z (H7 _)) (λZ=>A4 [_,_,_] [A7 x1 (.a x0 x2),B9 x2 (.s x1 x0)] rT Z (Cf (Am λY=>A4 [_,_] [A7 (.s x1 x0) (.n 0),A5 x0 x1] rT Y h.1))),show b.l+((c - b.l).toNat:Int)=c by exact Ur (λZ=>A4 [_,_,_] [A7 (.a x0 x2) x1,A5 (.s x1 x0) x2] rT Z (H7 _)) (λZ=>A4 [_,_,_] [A7 x1 (.a x0 x2),B9 x2 (.s x1 x0)] rT Z (Cf (Am λY=>A4 [_,_] [A7 (.s x1 x0) (.n 0),A5 x0 x1] rT Y h.2.2.1)))]
theorem L6{α β:Type}{f:α->List β}:∀{l:List α},(∀a,a∈l->(f a).Nodup)->l.Pairwise (λa b=>∀x,x∈f a->x∉f b)->(l.flatMap f).Nodup
 |[],_,_=>List.nodup_nil
 |a::l,h,p=>by
  have p':=List.pairwise_cons.mp p;simp only[List.flatMap_cons];refine List.nodup_append.mpr ⟨h a lq1,L6 (λb m=>h b (lq4 _ m)) p'.2,λx m y m' e=>?_⟩
  subst e;obtain⟨b,mb,mx⟩:=List.mem_flatMap.mp m';exact p'.1 b mb x m mx
theorem Yb{l:Int}{w:Nat}{r:Int}:(Lm l w r).Nodup:=by
 refine List.pairwise_map.mpr ((List.nodup_range (n:=w)).imp λ{a b} h e=>h ?_)
 injection e with _ e
 injection e with e _
 exact zGe (Ur (λZ=>A4 [_,_,_] [A7 x0 x1,Gl (.a x2 x0) (.a x2 x1)] rT Z e) (λZ=>A4 [_,_,_] [A7 x1 x0,B9 (.a x2 x0) (.a x2 x1)] rT Z e))
theorem Th{b:Bx}:(sq b).Nodup:=by
 refine L6 (λi _=>Yb) ((List.nodup_range (n:=b.h.toNat)).imp λ{a c} h x m m'=>h ?_)
 obtain⟨j,_,rfl⟩:=List.mem_map.mp m;obtain⟨k,_,e⟩:=List.mem_map.mp m';injection e with e _
 exact zGe (Ur (λZ=>A4 [_,_,_] [A7 x1 x0,B9 (.a x2 x0) (.a x2 x1)] rT Z e) (λZ=>A4 [_,_,_] [A7 x0 x1,Gl (.a x2 x0) (.a x2 x1)] rT Z e))
theorem zBG{a b:Bx}(d:a.Disj b):∀x,x∈sq a->x∉sq b:=λx m m'=>by
 obtain⟨r,c,rfl,i⟩:=Gz m;obtain⟨r',c',e,i'⟩:=Gz m';injection e with e1 e
 injection e with e2 _
 subst e1 e2;unfold Bx.Disj at d;unfold Bx.In at i i';exact Or.elim d (λhd2=>A4 [_,_,_,_] [A7 x2 (.a x0 x1),A5 x3 x2,A5 (.a x0 x1) x3] rT i.2.1 i'.1 hd2) (λhd2=>Or.elim hd2 (λhd3=>A4 [_,_,_,_] [A5 x0 x1,A7 x1 (.a x2 x3),A5 (.a x2 x3) x0] rT i.1 i'.2.1 hd3) (λhd3=>Or.elim hd3 (λhd4=>A4 [_,_,_,_] [A7 x2 (.a x0 x1),A5 x3 x2,A5 (.a x0 x1) x3] rT i.2.2.2 i'.2.2.1 hd4) (λhd4=>A4 [_,_,_,_] [A5 x0 x1,A7 x1 (.a x2 x3),A5 (.a x2 x3) x0] rT i.2.2.1 i'.2.2.2 hd4)))
theorem Py{R C:Int}{bs:List Bx}(h:Le R C bs):(bs.flatMap sq).Nodup:=L6 (λ_ _=>Th) (h.2.imp λd=>zBG d)
theorem X6{α:Type} [DecidableEq α]:∀{l m:List α},l.Nodup->(∀x,x∈l->x∈m)->l.length<=m.length
 |[],_,_,_=>lq5 _
 |a::l,m,hn,hs=>by
  have hn':=List.nodup_cons.mp hn;have ma:=hs a lq1;have ih:=X6 (l:=l) (m:=m.erase a) hn'.2 λx mx=>(List.mem_erase_of_ne (λ(e:x=a)=>hn'.1 (by rw[←e];exact mx))).mpr (hs x (lq4 _ mx))
  simp only[List.length_erase_of_mem ma]at ih;have:0<m.length:=List.length_pos_of_mem ma
  simp only[List.length_cons];exact Aw λZ=>A8 [_,_,_] [A7 x1 (.a x0 (.n 1)),A5 x0 x2,B9 (.a x2 (.n 1)) x1] rT Z ih (Aq (Aw λY=>A8 [_] [A7 x0 (.n 1),A7 (.n 0) x0] rT Y this))
theorem zD1(l:Int) (w:Nat) (r:Int):(Lm l w r).length=w:=by unfold Lm;rw[lq6,List.length_range]
theorem Uf(l t:Int) (w:Nat):∀n:Nat,((List.range n).flatMap λ(i:Nat)=>Lm l w (t+(i:Int))).length=n*w
 |0=>by rw[List.range_zero,List.flatMap_nil,Nat.zero_mul];rfl
 |n+1=>by
  simp only[List.range_succ,List.flatMap_append,lq7,Uf l t w n,List.flatMap_cons,List.flatMap_nil,List.append_nil,zD1,Nat.succ_mul]
theorem Rs(b:Bx):(sq b).length=b.h.toNat*b.w.toNat:=Uf b.l b.t b.w.toNat b.h.toNat
theorem X1(t l:Int) (w:Nat) (hw:0<w):∀n:Nat,((List.range (n*w)).map λ(k:Nat)=>[t+((k / w:Nat):Int),l+((k % w:Nat):Int)])=(List.range n).flatMap λ(i:Nat)=>Lm l w (t+(i:Int))
 |0=>by rw[Nat.zero_mul,List.range_zero];rfl
 |n+1=>by
  rw[Nat.succ_mul,List.range_add,List.map_append,X1 t l w hw n,List.range_succ,List.flatMap_append,List.flatMap_cons,List.flatMap_nil,List.append_nil];congr 1
  unfold Lm;rw[List.map_map];refine List.map_congr_left λj mj=>?_
  have hj:=List.mem_range.mp mj;show[t+(((n*w+j) / w:Nat):Int),l+(((n*w+j) % w:Nat):Int)]=_
  rw[Nat.mul_comm n w,Nat.mul_add_div hw,Nat.mul_add_mod,Nat.div_eq_of_lt hj,Nat.mod_eq_of_lt hj,Nat.add_zero]
theorem zGz(b:Bx) (hw:1<=b.w):((List.range (b.h.toNat*b.w.toNat)).map λ(k:Nat)=>[b.t+((k / b.w.toNat:Nat):Int),b.l+((k % b.w.toNat:Nat):Int)])=sq b:=
 X1 b.t b.l b.w.toNat (by exact Iy (C4 λZ=>A4 [_,_] [A5 x0 (.n 0),A5 (.n 1) x1,A5 x1 x0] rT Z hw (H7 _))) b.h.toNat
theorem zHu{R C:Nat}{bs:List Bx}(h:∀b,b∈bs->b.Good R C) (hn:(bs.flatMap sq).Nodup):(bs.flatMap sq).length<=R*C:=by
 have e:=Rs ⟨0,0,R,C⟩;simp only[Int.toNat_natCast]at e;rw[←e];refine X6 hn λx m=>?_
 obtain⟨b,mb,mx⟩:=List.mem_flatMap.mp m;obtain⟨r,c,rfl,i⟩:=Gz mx;have g:=h b mb;refine Ra ?_
 unfold Bx.In Bx.Good at*
 simp only
 exact⟨Am λZ=>A4 [_,_] [A7 x0 (.n 0),A5 x1 x0,A5 (.n 0) x1] rT Z i.1 g.1,⟨C4 λZ=>A4 [_,_,_,_] [A5 (.a (.n 0) x1) x0,A7 x0 (.a x2 x3),A5 (.a x2 x3) x1] rT Z i.2.1 g.2.2.2.2.1,⟨Am λZ=>A4 [_,_] [A7 x0 (.n 0),A5 x1 x0,A5 (.n 0) x1] rT Z i.2.2.1 g.2.1,C4 λZ=>A4 [_,_,_,_] [A5 (.a (.n 0) x1) x0,A7 x0 (.a x2 x3),A5 (.a x2 x3) x1] rT Z i.2.2.2 g.2.2.2.2.2⟩⟩⟩
theorem Qf{R C:Int}{b:Bx}(g:b.Good R C):[b.t,b.l]∈sq b:=Ra (by unfold Bx.In Bx.Good at *; exact⟨Am λZ=>A4 [_] [A7 x0 x0] rT Z,⟨C4 λZ=>A4 [_,_] [A5 (.a x0 x1) x0,A5 (.n 1) x1] rT Z g.2.2.1,⟨Am λZ=>A4 [_] [A7 x0 x0] rT Z,C4 λZ=>A4 [_,_] [A5 (.a x0 x1) x0,A5 (.n 1) x1] rT Z g.2.2.2.1⟩⟩⟩)
noncomputable def Vs (p:Bx):List Int->Bool
 |[r,c]=>decide (p.t<=r)&&(decide (r<p.t+p.h)&&(decide (p.l<=c)&&decide (c<p.l+p.w)))
 |_=>false
theorem Lu{p:Bx}{r c:Int}:Vs p [r,c]=true↔p.In r c:=by
 unfold Vs Bx.In;simp only[Bool.and_eq_true,decide_eq_true_eq]
theorem Oq{R C:Int}{b p:Bx}(g:b.Good R C) (gp:p.Good R C):(sq b).countP (Vs p)=0↔b.Disj p:=by
 rw[List.countP_eq_zero];unfold Bx.Good at g gp;constructor
 ·intro h;rcases Classical.em (b.Disj p)with d|d
  ·exact d
  ·have n1:=Int.not_le.mp λz=>d (.inl z)
   have n2:=Int.not_le.mp λz=>d (.inr (.inl z))
   have n3:=Int.not_le.mp λz=>d (.inr (.inr (.inl z)))
   have n4:=Int.not_le.mp λz=>d (.inr (.inr (.inr z)))
   have own:∀{a h:Int},1<=h->a<a+h:=λz=>Int.lt_add_of_pos_right _ z
   have hi:b.In (max b.t p.t) (max b.l p.l):=⟨Int.le_max_left _ _,Int.max_lt.mpr ⟨own g.2.2.1,n1⟩,Int.le_max_left _ _,Int.max_lt.mpr ⟨own g.2.2.2.1,n3⟩⟩
   exact absurd (Lu.mpr ⟨Int.le_max_right _ _,Int.max_lt.mpr ⟨n2,own gp.2.2.1⟩,Int.le_max_right _ _,Int.max_lt.mpr ⟨n4,own gp.2.2.2.1⟩⟩) (h _ (Ra hi))
 ·intro d x m hx;obtain⟨r,c,rfl,i⟩:=Gz m;have:=Lu.mp hx
  unfold Bx.Disj at d;unfold Bx.In at i this;exact Or.elim d (λhd2=>A4 [_,_,_,_] [A7 x2 (.a x0 x1),A5 x3 x2,A5 (.a x0 x1) x3] rT i.2.1 this.1 hd2) (λhd2=>Or.elim hd2 (λhd3=>A4 [_,_,_,_] [A5 x0 x1,A7 x1 (.a x2 x3),A5 (.a x2 x3) x0] rT i.1 this.2.1 hd3) (λhd3=>Or.elim hd3 (λhd4=>A4 [_,_,_,_] [A7 x2 (.a x0 x1),A5 x3 x2,A5 (.a x0 x1) x3] rT i.2.2.2 this.2.2.1 hd4) (λhd4=>A4 [_,_,_,_] [A5 x0 x1,A7 x1 (.a x2 x3),A5 (.a x2 x3) x0] rT i.2.2.1 this.2.2.2 hd4)))
theorem X7{R C:Int}{b p:Bx}(g:b.Good R C):(sq b).countP (Vs p)=(sq b).length↔b.Sub p:=by
 rw[List.countP_eq_length];unfold Bx.Good at g;constructor
 ·intro h;have h1:=Lu.mp (h _ (Ra (show b.In b.t b.l by unfold Bx.In;exact⟨Am λZ=>A4 [_] [A7 x0 x0] rT Z,⟨C4 λZ=>A4 [_,_] [A5 (.a x0 x1) x0,A5 (.n 1) x1] rT Z g.2.2.1,⟨Am λZ=>A4 [_] [A7 x0 x0] rT Z,C4 λZ=>A4 [_,_] [A5 (.a x0 x1) x0,A5 (.n 1) x1] rT Z g.2.2.2.1⟩⟩⟩)))
  have h2:=Lu.mp (h _ (Ra (show b.In (b.t+b.h - 1) (b.l+b.w - 1)by exact⟨Am λZ=>A4 [_,_] [A7 (.s (.a x0 x1) (.n 1)) x0,A5 (.n 1) x1] rT Z g.2.2.1,⟨C4 λZ=>A4 [_,_] [A5 (.a x0 x1) (.s (.a x0 x1) (.n 1))] rT Z,⟨Am λZ=>A4 [_,_] [A7 (.s (.a x0 x1) (.n 1)) x0,A5 (.n 1) x1] rT Z g.2.2.2.1,C4 λZ=>A4 [_,_] [A5 (.a x0 x1) (.s (.a x0 x1) (.n 1))] rT Z⟩⟩⟩)))
  unfold Bx.In at h1 h2;exact⟨Am λZ=>A4 [_,_] [A7 x0 x1,A5 x1 x0] rT Z h1.1,⟨Am λZ=>A4 [_,_] [A7 x0 x1,A5 x1 x0] rT Z h1.2.2.1,⟨Am λZ=>A4 [_,_,_,_] [A7 (.a x2 x3) (.a x0 x1),A7 (.s (.a x0 x1) (.n 1)) (.a x2 x3)] rT Z h2.2.1,Am λZ=>A4 [_,_,_,_] [A7 (.a x2 x3) (.a x0 x1),A7 (.s (.a x0 x1) (.n 1)) (.a x2 x3)] rT Z h2.2.2.2⟩⟩⟩
 ·intro d x m;obtain⟨r,c,rfl,i⟩:=Gz m;refine Lu.mpr ?_
  unfold Bx.Sub at d;exact⟨Am λZ=>A4 [_,_,_] [A7 x1 x0,A5 x0 x2,A5 x2 x1] rT Z d.1 i.1,⟨C4 λZ=>A4 [_,_,_,_,_] [A5 (.a x0 x1) x2,A5 (.a x3 x4) (.a x0 x1),A7 x2 (.a x3 x4)] rT Z d.2.2.1 i.2.1,⟨Am λZ=>A4 [_,_,_] [A7 x1 x0,A5 x0 x2,A5 x2 x1] rT Z d.2.1 i.2.2.1,C4 λZ=>A4 [_,_,_,_,_] [A5 (.a x0 x1) x2,A5 (.a x3 x4) (.a x0 x1),A7 x2 (.a x3 x4)] rT Z d.2.2.2 i.2.2.2⟩⟩⟩
noncomputable def Gh (p b:Bx):Bool:=decide (b.t+b.h<=p.t)||(decide (p.t+p.h<=b.t)||(decide (b.l+b.w<=p.l)||decide (p.l+p.w<=b.l)))
theorem Eu{p b:Bx}:Gh p b=true↔b.Disj p:=by
 unfold Gh Bx.Disj;simp only[Bool.or_eq_true,decide_eq_true_eq]
theorem zB2{R C:Int}{bs:List Bx}{p:Bx}(h:Le R C bs) (gp:p.Good R C):Le R C (bs.filter (Gh p)++[p]):=by
 refine⟨λb m=>?_,List.pairwise_append.mpr ⟨h.2.sublist List.filter_sublist,List.pairwise_singleton _ _,λa ma b mb=>?_⟩⟩
 ·rcases List.mem_append.mp m with m|m
  ·exact h.1 b (List.mem_filter.mp m).1
  ·rw[lq0 m];exact gp
 ·simp only[lq0 mb];exact Eu.mp (List.mem_filter.mp ma).2
theorem zBv{R C:Int}{bs:List Bx}{p:Bx}(h:Pu R C bs) (hs:∀b,b∈bs->b.Disj p∨b.Sub p):Pu R C (bs.filter (Gh p)++[p]):=λr c h1 h2 h3 h4=>by
 obtain⟨b,mb,ib⟩:=h r c h1 h2 h3 h4;rcases hs b mb with d|d
 ·exact⟨b,List.mem_append_left _ (List.mem_filter.mpr ⟨mb,Eu.mpr d⟩),ib⟩
 ·refine⟨p,List.mem_append_right _ (List.mem_singleton.mpr rfl),?_⟩
  unfold Bx.Sub at d;exact⟨Am λZ=>A4 [_,_,_] [A7 x0 x1,A5 x2 x0,A5 x1 x2] rT Z ib.1 d.1,⟨C4 λZ=>A4 [_,_,_,_,_] [A5 (.a x1 x2) x0,A7 x0 (.a x3 x4),A5 (.a x3 x4) (.a x1 x2)] rT Z ib.2.1 d.2.2.1,⟨Am λZ=>A4 [_,_,_] [A7 x0 x1,A5 x2 x0,A5 x1 x2] rT Z ib.2.2.1 d.2.1,C4 λZ=>A4 [_,_,_,_,_] [A5 (.a x1 x2) x0,A7 x0 (.a x3 x4),A5 (.a x3 x4) (.a x1 x2)] rT Z ib.2.2.2 d.2.2.2⟩⟩⟩
noncomputable def one:List Int->Bx
 |[r,c]=>⟨r,c,1,1⟩
 |_=>⟨0,0,1,1⟩
theorem Jw{R C:Int}{b:Bx}(g:b.Good R C):Jc R C b ((sq b).map one):=by
 have hg:=g;refine⟨λp m=>?_,List.pairwise_map.mpr ?_,λr c i=>?_⟩
 ·obtain⟨x,mx,rfl⟩:=List.mem_map.mp m;obtain⟨r,c,rfl,i⟩:=Gz mx;unfold Bx.In at i;unfold Bx.Good Bx.Sub one;simp only
  exact⟨⟨Am λZ=>A4 [_,_] [A7 x0 (.n 0),A5 (.n 0) x1,A5 x1 x0] rT Z hg.1 i.1,⟨Am λZ=>A4 [_,_] [A7 x0 (.n 0),A5 (.n 0) x1,A5 x1 x0] rT Z hg.2.1 i.2.2.1,⟨Am λZ=>A4 [] [A7 (.n 1) (.n 1)] rT Z,⟨Am λZ=>A4 [] [A7 (.n 1) (.n 1)] rT Z,⟨Am λZ=>A4 [_,_,_,_] [A7 x0 (.a x1 (.n 1)),A5 (.a x2 x3) x0,A7 x1 (.a x2 x3)] rT Z hg.2.2.2.2.1 i.2.1,Am λZ=>A4 [_,_,_,_] [A7 x0 (.a x1 (.n 1)),A5 (.a x2 x3) x0,A7 x1 (.a x2 x3)] rT Z hg.2.2.2.2.2 i.2.2.2⟩⟩⟩⟩⟩,⟨Am λZ=>A4 [_,_] [A7 x1 x0,A5 x0 x1] rT Z i.1,⟨Am λZ=>A4 [_,_] [A7 x1 x0,A5 x0 x1] rT Z i.2.2.1,⟨Am λZ=>A4 [_,_,_] [A7 (.a x0 x1) (.a x2 (.n 1)),A7 x2 (.a x0 x1)] rT Z i.2.1,Am λZ=>A4 [_,_,_] [A7 (.a x0 x1) (.a x2 (.n 1)),A7 x2 (.a x0 x1)] rT Z i.2.2.2⟩⟩⟩⟩
 ·have:(sq b).Pairwise λx y=>x∈sq b/\y∈sq b/\x≠y:=by
   have hn:(sq b).Pairwise (λx y=>x≠y):=Th
   rw[List.pairwise_iff_getElem]at hn ⊢;exactλi j hi hj hij=>⟨List.getElem_mem hi,List.getElem_mem hj,hn i j hi hj hij⟩
  refine this.imp ?_
  rintro x y ⟨mx,my,hxy⟩
  obtain⟨r,c,rfl,_⟩:=Gz mx;obtain⟨r',c',rfl,_⟩:=Gz my;unfold Bx.Disj one;simp only
  have:r≠r'∨c≠c':=by
   rcases Classical.em (r=r')with h|h
   ·rcases Classical.em (c=c')with h'|h'
    ·exact absurd (by rw[h,h']) hxy
    ·exact .inr h'
   ·exact .inl h
  omega
 ·exact⟨one [r,c],List.mem_map.mpr ⟨_,Ra i,rfl⟩,by unfold Bx.In one;simp only;exact⟨Am λZ=>A4 [_] [A7 x0 x0] rT Z,⟨C4 λZ=>A4 [_] [A5 (.a x0 (.n 1)) x0] rT Z,⟨Am λZ=>A4 [_] [A7 x0 x0] rT Z,C4 λZ=>A4 [_] [A5 (.a x0 (.n 1)) x0] rT Z⟩⟩⟩⟩
theorem Vn{R C:Int}{l1 l2:List Bx}{b:Bx}(h:Le R C (l1++b::l2)):Le R C (l1++l2++(sq b).map one):=by
 have g:=h.1 b (List.mem_append_right _ lq1);have:=h.swap (Jw g)
 have p:(l1++l2++(sq b).map one).Perm (l1++(sq b).map one++l2):=by
  simp only[lq8,lq8];exact List.Perm.append_left _ List.perm_append_comm
 exact⟨λx m=>this.1 x (p.mem_iff.mp m),(p.pairwise_iff λ{a b} d=>Bx.Disj.symm d).mpr this.2⟩
theorem Vq{R C:Int}{l1 l2:List Bx}{b:Bx}(ht:Le R C (l1++b::l2)) (h:Pu R C (l1++b::l2)):Pu R C (l1++l2++(sq b).map one):=λr c h1 h2 h3 h4=>by
 have g:=ht.1 b (List.mem_append_right _ lq1);obtain⟨x,m,i⟩:=h.swap (Jw g) r c h1 h2 h3 h4;refine⟨x,?_,i⟩
 rcases List.mem_append.mp m with m|m
 ·rcases List.mem_append.mp m with m|m
  ·exact List.mem_append_left _ (List.mem_append_left _ m)
  ·exact List.mem_append_right _ m
 ·exact List.mem_append_left _ (List.mem_append_right _ m)
theorem Pc{R C:Int}{l1 l2:List Bx}{b:Bx}{r c:Int}(h:Le R C (l1++b::l2)) (i:b.In r c):∀x,x∈l1++l2->¬x.In r c:=λx m j=>by
 have d:x.Disj b:=by
  obtain⟨_,d2,d3⟩:=List.pairwise_append.mp h.2;rcases List.mem_append.mp m with m|m
  ·exact d3 x m b lq1
  ·exact((List.pairwise_cons.mp d2).1 x m).symm
 unfold Bx.Disj at d;unfold Bx.In at i j;exact Or.elim d (λhd8=>A4 [_,_,_,_] [A5 x0 x1,A7 x1 (.a x2 x3),A5 (.a x2 x3) x0] rT i.1 j.2.1 hd8) (λhd8=>Or.elim hd8 (λhd9=>A4 [_,_,_,_] [A7 x1 (.a x0 x2),A5 x3 x1,A5 (.a x0 x2) x3] rT i.2.1 j.1 hd9) (λhd9=>Or.elim hd9 (λhd10=>A4 [_,_,_,_] [A5 x0 x1,A7 x1 (.a x2 x3),A5 (.a x2 x3) x0] rT i.2.2.1 j.2.2.2 hd10) (λhd10=>A4 [_,_,_,_] [A7 x1 (.a x0 x2),A5 x3 x1,A5 (.a x0 x2) x3] rT i.2.2.2 j.2.2.1 hd10)))
section
open Builtin.Str
theorem W8(p:Nat->Bool) (l:List Nat):l.take (l.length - (l.reverse.takeWhile p).length)=(l.reverse.dropWhile p).reverse:=by
 have h:=List.takeWhile_append_dropWhile (p:=p) (l:=l.reverse);have h2:l=(l.reverse.dropWhile p).reverse++(l.reverse.takeWhile p).reverse:=by
  rw[←List.reverse_append,h,List.reverse_reverse]
 have h3:l.length=(l.reverse.dropWhile p).length+(l.reverse.takeWhile p).length:=by
  have:=congrArg List.length h2
  simpa using this
 have h4:l.length - (l.reverse.takeWhile p).length=(l.reverse.dropWhile p).reverse.length:=by rw[List.length_reverse];omega
 rw[h4];conv=>lhs;arg 2;rw[h2]
 exact List.take_left ..
theorem U3(x:Str):(cl (Txt.rstripChars x (Str.ofString " "))).getLast?≠some 32:=by
 have e:cl (Txt.rstripChars x (Str.ofString " "))=((cl x).reverse.dropWhile (Str.ofString " ").cps.contains).reverse:=by
  show cl (Txt.stripBy (Str.ofString " ").cps.contains false true x)=_
  rw[stripBy_eq,←W8];simp[cl,strSub,stripLo,stripHi,Str.length]
 rw[e,List.getLast?_reverse];intro h;have:=List.head?_dropWhile_not (Str.ofString " ").cps.contains (cl x).reverse
 rw[h]at this;simp only at this
 exact absurd this (by decide+kernel)
end
section
open Builtin.Str
noncomputable def zHn (c:Nat):Bool:=decide (32<=c)&&decide (c<=126)
noncomputable def zJV (l:List Nat):Prop:=l.all zHn=true/\l.getLast?≠some 32
noncomputable def M2 (l:List Nat):Bool:=if decide ((l.length:Int)>200)||l.getLast? ==some 10 then false else(Fg 10 l).all (λp=>p.getLast? !=some 32&&p.all (λc=>decide (32<=c)&&decide (c<=126)))
theorem zJV.no10{l:List Nat}(h:zJV l):10∉l:=λm=>by
 have:=List.all_eq_true.mp h.1 10 m
 cases this
theorem Of{as:List (List Nat)}(hne:as≠[]) (h:∀a,a∈as->zJV a) (hl:(D6 10 as).length<=200) (hz:(D6 10 as).getLast?≠some 10):M2 (D6 10 as)=true:=by
 unfold M2;have h1:decide (((D6 10 as).length:Int)>200)=false:=decide_eq_false (by omega)
 have h2:((D6 10 as).getLast? ==some 10)=false:=by simpa using hz
 rw[h1,h2,Rf hne λa m=>(h a m).no10]
 simp only[Bool.or_self,Bool.false_eq_true,if_false];refine List.all_eq_true.mpr λa m=>?_
 have g:=h a m;rw[Bool.and_eq_true];exact⟨by simpa using g.2,g.1⟩
theorem Rb{l:List Nat}(h:zJV l) (hl:l.length<=200):M2 l=true:=
 Of (as:=[l]) (by simp) (λa m=>by rw[lq0 m];exact h) hl λz=>h.no10 (List.mem_of_getLast? z)
theorem Qz(c e:Nat):∀(as:List (List Nat)) (z:List Nat),D6 c (as++[z])++[e]=D6 c (as++[z++[e]])
 |[],z=>rfl
 |[a],z=>by simp[Ib,Id,Ir]
 |a::b::as,z=>by
  have:=Qz c e (b::as) z
  simp only[List.cons_append,Ib,Id,Ir]at this ⊢;rw[←this];simp
theorem zAX{as:List (List Nat)}(hne:as≠[]) (h:∀a,a∈as->zJV a) (hl:(D6 10 as).length+1<=200):M2 (D6 10 as++[46])=true:=by
 obtain⟨bs,z,rfl⟩:∃bs z,as=bs++[z]:=⟨as.dropLast,as.getLast hne,(List.dropLast_concat_getLast hne).symm⟩
 have e:=Qz 10 46 bs z;have hlen:(D6 10 (bs++[z++[46]])).length<=200:=by rw[←e,lq7];exact hl
 have hlast:(D6 10 (bs++[z++[46]])).getLast?≠some 10:=by rw[←e,List.getLast?_append];simp
 rw[e];refine Of (by simp) (λa m=>?_) hlen hlast
 rcases List.mem_append.mp m with m|m
 ·exact h a (List.mem_append_left _ m)
 ·rw[lq0 m];refine⟨?_,by simp⟩
  rw[List.all_append,(h z (List.mem_append_right _ (List.mem_singleton.mpr rfl))).1];rfl
end
section
open W
noncomputable def ke (P:Params) (x:Str) (t:Nat) (v:Value):DictEntry:=⟨PyData.keyHash P x,.str x t,v⟩
noncomputable def Pt (p:Program) (i:Nat) (md:Str) (t:Nat) (c:Addr):Obj:=match p.main.body[i]? with
 |some (.FunctionDef nm args b _ _ _ sc _ _ _)=>{cls:=.type "function",data:=.func {name:=nm,qualname:=nm,params:=args,body:=.stmts b,scope:=sc,globals:=3,closure:=[],defaults:=.none,kwdefaults:=.none,pyModule:=.str md t,code:=.ref c}}
 |_=>default
theorem zE5{l:OpenLaw}{keep:List Nat}{K:Params->Frag}{as:List Addr}{N:Nat}(e:∀P,as=(K P).map (·.1)) (ws:l.wellSaid=true)
  (left:∀w,(openEnds treeTable l.prog w N).map (λs=>(openSeen (view l.prog keep) [] (importedModules l.prog.main.body) (λs=>xlAt (view l.prog keep) [] s&&recOk [] s) true s,as.map s.heap.get?))=some (openGood (view l.prog keep) [],(K w.params).map λp=>some p.2))
  (hx:(defOf (view l.prog keep) l.name).isSome=true) (hp:l.prog.theDef l.name=some (((defOf (view l.prog keep) l.name).get hx).1.params,((defOf (view l.prog keep) l.name).get hx).1.body,((defOf (view l.prog keep) l.name).get hx).1.scope))
  (hk:kwWritten? ((defOf (view l.prog keep) l.name).get hx).1.params.kwonlyargs ((defOf (view l.prog keep) l.name).get hx).1.params.kw_defaults=some ((defOf (view l.prog keep) l.name).get hx).2)
  (hwr:(!l.row.writes||l.row.records.isEmpty)=true) (ok:(chainsOk (view l.prog keep)&&opensWell l.prog&&(frees l.row.toRowW&&l.row.within.isEmpty))=true) (hb:l.prog.bare) (hw:l.row.toRowW.promised)
  (walk:WalkO (view l.prog keep) [] (XL (view l.prog keep) []) (kHook K as e).says l.row.toRowW ((defOf (view l.prog keep) l.name).get hx).1 ((defOf (view l.prog keep) l.name).get hx).2 λf vs=>PySem.call f vs):l.Holds:=
 holds_law ws λsaid=>holds_open (r:=l.row) (q:=view l.prog keep) (loose:=[]) (Xt:=λs=>xlAt (view l.prog keep) [] s&&recOk [] s) (XP:=XL (view l.prog keep) []) (Yf:=(kHook K as e).obs) (Ya:=(kHook K as e).val) (YP:=(kHook K as e).says) (N:=N) left (kHook K as e).of (kHook K as e).keeps
  (λs h=>xl_of s (Bool.and_eq_true_iff.mp h).1) XL.keeps (Option.some_get hx).symm hp hk (λs h=>recFacts_of (Bool.and_eq_true_iff.mp h).2) hwr said ok hb hw walk
end
noncomputable def X {α:Type}(m:Mn α) (st:St) (c:Addr) (Q:St->Prop):Prop:=∃st',m st=.exc c st'/\Q st'
section
variable {α β:Type}{st st1:St}{c:Addr}{Q:St->Prop}
theorem Xa{m:Mn α}{f:α->Mn β}(h:X m st c Q):X (bnd m f) st c Q:=by
 obtain⟨s,e,q⟩:=h;exact⟨s,by unfold bnd;rw[e],q⟩
theorem Mt{m:Mn α}{f:α->Mn β}(h:W m st λa s=>X (f a) s c Q):X (bnd m f) st c Q:=by
 obtain⟨a,s,e,s',e',q⟩:=h;exact⟨s',by unfold bnd;rw[e];exact e',q⟩
theorem Jh{m n:Mn Fl}(h:X m st c Q):X (Ad m n) st c Q:=Xa h
theorem V6{m n:Mn Fl}(h:W m st λfl s=>fl=.next/\X n s c Q):X (Ad m n) st c Q:=by
 obtain⟨a,s,e,rfl,h⟩:=h;exact Mt ⟨_,_,e,h⟩
theorem zHq{m:Mn Bool}{a b:Mn Fl}(h:W m st λt s=>X (if t=true then a else b) s c Q):X (Di m a b) st c Q:=Mt h
theorem zFs{m:Mn Bool}{t:Bool}{a b:Mn Fl}(e:m st=.ok t st1) (ht:t=true) (h:X a st1 c Q):X (Di m a b) st c Q:=zHq ⟨_,_,e,by show X (if t=true then a else b) st1 c Q;rw[if_pos ht];exact h⟩
theorem Rw(h:Q st):X (H0 c) st c Q:=⟨st,rfl,h⟩
theorem zE9{ps:List Nat}{body:Mn Fl}{ds:List D}(hl:ds.length=ps.length) (h:X body ⟨Cj Bh ps ds,st.sto⟩ c λs=>Q ⟨st.loc,s.sto⟩):X (Dp ps body ds) st c Q:=by
 obtain⟨s,e,q⟩:=h;exact⟨_,by unfold Dp;rw[if_pos hl,e],q⟩
theorem zAx{tgt:D->C3->Option C3}{g:Bm->Prop}{body:Mn Fl}(J:List D->St->Prop) (hstep:∀d rest st,J (d::rest) st->g st.sto/\∃loc',tgt d st.loc=some loc'/\(X body ⟨loc',st.sto⟩ c Q∨W body ⟨loc',st.sto⟩ λfl s=>fl=.next/\J rest s))
  (hend:∀st,¬J [] st):∀(ds:List D) (st:St),J ds st->X (D9 tgt g body ds) st c Q
 |[],st,h=>absurd h (hend st)
 |d::rest,st,h=>by
  obtain⟨h1,loc',h2,h3⟩:=hstep d rest st h;rcases h3 with⟨s,e,q⟩|⟨fl,s,e,rfl,hj⟩
  ·exact⟨s,by rw[Dl,if_pos h1];simp only[h2,e],q⟩
  ·obtain⟨s',e',q⟩:=zAx J hstep hend rest s hj;exact⟨s',by rw[Dl,if_pos h1];simp only[h2,e];exact e',q⟩
theorem zGc{b h:Mn Fl}{sub:Addr->Bool}{i:Nat}{Q':Fl->St->Prop}(h1:X b st c Q) (hs:sub c=true) (h2:∀s,Q s->W h ⟨upd s.loc i (.exc c),s.sto⟩ λfl s'=>Q' fl ⟨zHN s'.loc i,s'.sto⟩):W (Ky b sub i h) st Q':=by
 obtain⟨s,e,q⟩:=h1;obtain⟨fl,s',e',q'⟩:=h2 s q;exact⟨fl,_,by unfold Ky;simp only[e,hs,e'],q'⟩
end
noncomputable def Kp (σ σ':Bm):Prop:=σ.length<=σ'.length/\∀(i:Nat) (ds:List D),σ[i]? =some (PO.list ds)->σ'[i]? =some (PO.list ds)
theorem Ft.kp{σ σ':Bm}(x:Ft σ σ'):Kp σ σ':=⟨x.len,λ_ _ e=>x.get e⟩
theorem Kp.trans{a b c:Bm}(x:Kp a b) (y:Kp b c):Kp a c:=⟨Nat.le_trans x.1 y.1,λi ds e=>y.2 i ds (x.2 i ds e)⟩
theorem Kp.refl(σ:Bm):Kp σ σ:=⟨Nat.le_refl _,λ_ _ e=>e⟩
theorem Kp.app(σ j:Bm):Kp σ (σ++j):=(Ft.app σ j).kp
section
open W
noncomputable abbrev pw:Program:=PySem.Challenge.pw_uf030034_09
noncomputable def Jg:List Nat:=[1,2,3,4,5,6,7,8,9,10,12,13,14,15,16,18,19,21,22,23,24,25,26,27,28,29,30,31,32,33,34,35]
noncomputable def zFZ (a n d t u:Nat) (x:Str):Obj:={cls:=.type "type",data:=.cls {name:=x,bases:=[.ref 24],mro:=[.ref a,.ref 24,.type "ValueError",.type "Exception",.type "BaseException",.type "object"],ns:=n,qualname:=x,hasDict:=true,slotNames:=[],subclasses:=[],abstract:=false,collection:=none,hasDel:=false},slots:= #[some (.ref d),none,some (.str x t),some (.str x u),some (.builtin "ValueError.__new__"),some (.bool true)]}
noncomputable def hK (P:Params):Frag:=[
 (3,{cls:=(.type "dict"),data:=.dict #[ke P (sO "__name__") 165 (.str (sO "law_uf030034_09") 400),ke P (sO "__doc__") 166 .none,ke P (sO "__package__") 167 .none,ke P (sO "__loader__") 168 (.builtin "__main__.__loader__#opaque"),ke P (sO "__spec__") 169 .none,ke P (sO "__annotations__") 170 (.ref 6),ke P (sO "__builtins__") 171 (.ref 4),ke P (sO "__file__") 173 (.str (sO "/claim/cut.py") 172),ke P (sO "__cached__") 174 .none,ke P (sO "TableError") 206 (.ref 24),ke P (sO "BadSize") 222 (.ref 37),ke P (sO "BadCell") 238 (.ref 49),ke P (sO "BadText") 254 (.ref 61),ke P (sO "Shared") 270 (.ref 73),ke P (sO "Bare") 286 (.ref 85),ke P (sO "NoSquare") 302 (.ref 97),ke P (sO "Cut") 318 (.ref 109),ke P (sO "NoDrawing") 334 (.ref 121),ke P (sO "MOST") 336 (.int 200 335),ke P (sO "is_whole") 345 (.ref 130),ke P (sO "in_order") 352 (.ref 137),ke P (sO "lies_in") 365 (.ref 144),ke P (sO "squares_of") 375 (.ref 151),ke P (sO "owner") 385 (.ref 158),ke P (sO "joined") 393 (.ref 163),ke P (sO "parted") 399 (.ref 168),ke P (sO "_law_whole") 408 (.ref 175),ke P (sO "_law_at") 416 (.ref 182),ke P (sO "_law_line") 422 (.ref 187),ke P (sO "_law_text") 428 (.ref 192),ke P (sO "_law_size") 435 (.ref 199),ke P (sO "_law_parts") 449 (.ref 206),ke P (sO "_law_corner") 456 (.ref 213),ke P (sO "_law_cells") 462 (.ref 218),ke P (sO "_law_part") 482 (.ref 225),ke P (sO "_law_due") 497 (.ref 232),ke P (sO "_law_tried") 507 (.ref 239),ke P (sO "_law_no_square") 516 (.ref 246),ke P (sO "_law_is") 529 (.ref 253),ke P (sO "_law_parted_well") 549 (.ref 260),ke P (sO "law") 563 (.ref 267)] 41}),
 (24,{cls:=(.type "type"),data:=.cls {name:=(sO "TableError"),bases:=[(.type "ValueError")],mro:=[(.ref 24),(.type "ValueError"),(.type "Exception"),(.type "BaseException"),(.type "object")],ns:=23,qualname:=(sO "TableError"),hasDict:=true,slotNames:=[],subclasses:=[(.ref 37),(.ref 49),(.ref 61),(.ref 73),(.ref 85),(.ref 97),(.ref 109),(.ref 121)],abstract:=false,collection:=none,hasDel:=false},slots:= #[(some (.ref 15)),none,(some (.str (sO "TableError") 189)),(some (.str (sO "TableError") 197)),(some (.builtin "ValueError.__new__")),(some (.bool true))]}),
 (37,zFZ 37 36 28 207 215 (sO "BadSize")),
 (49,zFZ 49 48 40 223 231 (sO "BadCell")),
 (61,zFZ 61 60 52 239 247 (sO "BadText")),
 (73,zFZ 73 72 64 255 263 (sO "Shared")),
 (85,zFZ 85 84 76 271 279 (sO "Bare")),
 (97,zFZ 97 96 88 287 295 (sO "NoSquare")),
 (109,zFZ 109 108 100 303 311 (sO "Cut")),
 (121,zFZ 121 120 112 319 327 (sO "NoDrawing")),
 (130,Pt pw 12 (sO "boxtable.tables") 337 129),
 (137,Pt pw 13 (sO "boxtable.tables") 337 136),
 (144,Pt pw 14 (sO "boxtable.tables") 337 143),
 (151,Pt pw 15 (sO "boxtable.tables") 337 150),
 (158,Pt pw 16 (sO "boxtable.tables") 337 157),
 (163,Pt pw 18 (sO "boxtable.shapes") 386 162),
 (168,Pt pw 19 (sO "boxtable.shapes") 386 167),
 (175,Pt pw 21 (sO "law_uf030034_09") 400 174),
 (182,Pt pw 22 (sO "law_uf030034_09") 400 181),
 (187,Pt pw 23 (sO "law_uf030034_09") 400 186),
 (192,Pt pw 24 (sO "law_uf030034_09") 400 191),
 (199,Pt pw 25 (sO "law_uf030034_09") 400 198),
 (206,Pt pw 26 (sO "law_uf030034_09") 400 205),
 (213,Pt pw 27 (sO "law_uf030034_09") 400 212),
 (218,Pt pw 28 (sO "law_uf030034_09") 400 217),
 (225,Pt pw 29 (sO "law_uf030034_09") 400 224),
 (232,Pt pw 30 (sO "law_uf030034_09") 400 231),
 (239,Pt pw 31 (sO "law_uf030034_09") 400 238),
 (246,Pt pw 32 (sO "law_uf030034_09") 400 245),
 (253,Pt pw 33 (sO "law_uf030034_09") 400 252),
 (260,Pt pw 34 (sO "law_uf030034_09") 400 259),
 (267,Pt pw 35 (sO "law_uf030034_09") 400 266),
 (23,{cls:=(.type "dict"),data:=.dict #[ke P (sO "__module__") 196 (.str (sO "boxtable.errors") 187),ke P (sO "__firstlineno__") 200 (.int 2 199),ke P (sO "__static_attributes__") 201 (.ref 22),ke P (sO "__weakref__") 203 (.ref 25),ke P (sO "__doc__") 204 .none] 3}),
 (36,{cls:=(.type "dict"),data:=.dict #[ke P (sO "__module__") 214 (.str (sO "boxtable.errors") 187),ke P (sO "__firstlineno__") 218 (.int 4 217),ke P (sO "__static_attributes__") 219 (.ref 35),ke P (sO "__doc__") 220 .none] 2}),
 (48,{cls:=(.type "dict"),data:=.dict #[ke P (sO "__module__") 230 (.str (sO "boxtable.errors") 187),ke P (sO "__firstlineno__") 234 (.int 6 233),ke P (sO "__static_attributes__") 235 (.ref 47),ke P (sO "__doc__") 236 .none] 2}),
 (60,{cls:=(.type "dict"),data:=.dict #[ke P (sO "__module__") 246 (.str (sO "boxtable.errors") 187),ke P (sO "__firstlineno__") 250 (.int 8 249),ke P (sO "__static_attributes__") 251 (.ref 59),ke P (sO "__doc__") 252 .none] 2}),
 (72,{cls:=(.type "dict"),data:=.dict #[ke P (sO "__module__") 262 (.str (sO "boxtable.errors") 187),ke P (sO "__firstlineno__") 266 (.int 10 265),ke P (sO "__static_attributes__") 267 (.ref 71),ke P (sO "__doc__") 268 .none] 2}),
 (84,{cls:=(.type "dict"),data:=.dict #[ke P (sO "__module__") 278 (.str (sO "boxtable.errors") 187),ke P (sO "__firstlineno__") 282 (.int 12 281),ke P (sO "__static_attributes__") 283 (.ref 83),ke P (sO "__doc__") 284 .none] 2}),
 (96,{cls:=(.type "dict"),data:=.dict #[ke P (sO "__module__") 294 (.str (sO "boxtable.errors") 187),ke P (sO "__firstlineno__") 298 (.int 14 297),ke P (sO "__static_attributes__") 299 (.ref 95),ke P (sO "__doc__") 300 .none] 2}),
 (108,{cls:=(.type "dict"),data:=.dict #[ke P (sO "__module__") 310 (.str (sO "boxtable.errors") 187),ke P (sO "__firstlineno__") 314 (.int 16 313),ke P (sO "__static_attributes__") 315 (.ref 107),ke P (sO "__doc__") 316 .none] 2}),
 (120,{cls:=(.type "dict"),data:=.dict #[ke P (sO "__module__") 326 (.str (sO "boxtable.errors") 187),ke P (sO "__firstlineno__") 330 (.int 18 329),ke P (sO "__static_attributes__") 331 (.ref 119),ke P (sO "__doc__") 332 .none] 2}),
 (129,{cls:=(.type "code"),data:=.fields #[(.str (sO "is_whole") 339),(.str (sO "is_whole") 340),(.str (sO "/claim/cut.py") 341),(.int 22 0),(.int 1 0),(.int 0 0),(.int 0 0),(.int 3 0),(.ref 124),(.bool true),(.int 181 0),(.ref 125),.none,(.ref 126),(.ref 127),(.ref 128),(.int 343 0),(.int 22 0),(.str (sO "/claim/cut.py") 344)]}),
 (136,{cls:=(.type "code"),data:=.fields #[(.str (sO "in_order") 346),(.str (sO "in_order") 347),(.str (sO "/claim/cut.py") 348),(.int 24 0),(.int 1 0),(.int 0 0),(.int 0 0),(.int 3 0),(.ref 131),(.bool true),(.int 181 0),(.ref 132),.none,(.ref 133),(.ref 134),(.ref 135),(.int 350 0),(.int 24 0),(.str (sO "/claim/cut.py") 351)]}),
 (143,{cls:=(.type "code"),data:=.fields #[(.str (sO "lies_in") 353),(.str (sO "lies_in") 354),(.str (sO "/claim/cut.py") 355),(.int 26 0),(.int 6 0),(.int 0 0),(.int 0 0),(.int 3 0),(.ref 138),(.bool true),(.int 181 0),(.ref 139),.none,(.ref 140),(.ref 141),(.ref 142),(.int 363 0),(.int 26 0),(.str (sO "/claim/cut.py") 364)]}),
 (150,{cls:=(.type "code"),data:=.fields #[(.str (sO "squares_of") 366),(.str (sO "squares_of") 367),(.str (sO "/claim/cut.py") 368),(.int 33 0),(.int 1 0),(.int 0 0),(.int 0 0),(.int 3 0),(.ref 145),(.bool true),(.int 181 0),(.ref 146),.none,(.ref 147),(.ref 148),(.ref 149),(.int 373 0),(.int 33 0),(.str (sO "/claim/cut.py") 374)]}),
 (157,{cls:=(.type "code"),data:=.fields #[(.str (sO "owner") 376),(.str (sO "owner") 377),(.str (sO "/claim/cut.py") 378),(.int 39 0),(.int 3 0),(.int 0 0),(.int 0 0),(.int 3 0),(.ref 152),(.bool true),(.int 181 0),(.ref 153),.none,(.ref 154),(.ref 155),(.ref 156),(.int 383 0),(.int 39 0),(.str (sO "/claim/cut.py") 384)]}),
 (162,{cls:=(.type "code"),data:=.fields #[(.str (sO "joined") 388),(.str (sO "joined") 389),(.str (sO "/claim/cut.py") 390),(.int 47 0),(.int 5 0),(.int 0 0),(.int 0 0),(.int 3 0),(.ref 159),(.bool true),(.int 181 0),(.ref 160),.none,.none,.none,(.ref 161),(.int 391 0),(.int 47 0),(.str (sO "/claim/cut.py") 392)]}),
 (167,{cls:=(.type "code"),data:=.fields #[(.str (sO "parted") 394),(.str (sO "parted") 395),(.str (sO "/claim/cut.py") 396),(.int 67 0),(.int 3 0),(.int 0 0),(.int 0 0),(.int 3 0),(.ref 164),(.bool true),(.int 181 0),(.ref 165),.none,.none,.none,(.ref 166),(.int 397 0),(.int 67 0),(.str (sO "/claim/cut.py") 398)]}),
 (174,{cls:=(.type "code"),data:=.fields #[(.str (sO "_law_whole") 402),(.str (sO "_law_whole") 403),(.str (sO "/claim/cut.py") 404),(.int 76 0),(.int 1 0),(.int 0 0),(.int 0 0),(.int 3 0),(.ref 169),(.bool true),(.int 181 0),(.ref 170),.none,(.ref 171),(.ref 172),(.ref 173),(.int 406 0),(.int 76 0),(.str (sO "/claim/cut.py") 407)]}),
 (181,{cls:=(.type "code"),data:=.fields #[(.str (sO "_law_at") 409),(.str (sO "_law_at") 410),(.str (sO "/claim/cut.py") 411),(.int 78 0),(.int 2 0),(.int 0 0),(.int 0 0),(.int 3 0),(.ref 176),(.bool true),(.int 181 0),(.ref 177),.none,(.ref 178),(.ref 179),(.ref 180),(.int 414 0),(.int 78 0),(.str (sO "/claim/cut.py") 415)]}),
 (186,{cls:=(.type "code"),data:=.fields #[(.str (sO "_law_line") 417),(.str (sO "_law_line") 418),(.str (sO "/claim/cut.py") 419),(.int 82 0),(.int 2 0),(.int 0 0),(.int 0 0),(.int 3 0),(.ref 183),(.bool true),(.int 181 0),(.ref 184),.none,.none,.none,(.ref 185),(.int 420 0),(.int 82 0),(.str (sO "/claim/cut.py") 421)]}),
 (191,{cls:=(.type "code"),data:=.fields #[(.str (sO "_law_text") 423),(.str (sO "_law_text") 424),(.str (sO "/claim/cut.py") 425),(.int 86 0),(.int 1 0),(.int 0 0),(.int 0 0),(.int 3 0),(.ref 188),(.bool true),(.int 181 0),(.ref 189),.none,.none,.none,(.ref 190),(.int 426 0),(.int 86 0),(.str (sO "/claim/cut.py") 427)]}),
 (198,{cls:=(.type "code"),data:=.fields #[(.str (sO "_law_size") 429),(.str (sO "_law_size") 430),(.str (sO "/claim/cut.py") 431),(.int 97 0),(.int 1 0),(.int 0 0),(.int 0 0),(.int 3 0),(.ref 193),(.bool true),(.int 181 0),(.ref 194),.none,(.ref 195),(.ref 196),(.ref 197),(.int 433 0),(.int 97 0),(.str (sO "/claim/cut.py") 434)]}),
 (205,{cls:=(.type "code"),data:=.fields #[(.str (sO "_law_parts") 436),(.str (sO "_law_parts") 437),(.str (sO "/claim/cut.py") 438),(.int 101 0),(.int 2 0),(.int 0 0),(.int 0 0),(.int 3 0),(.ref 200),(.bool true),(.int 181 0),(.ref 201),.none,(.ref 202),(.ref 203),(.ref 204),(.int 447 0),(.int 101 0),(.str (sO "/claim/cut.py") 448)]}),
 (212,{cls:=(.type "code"),data:=.fields #[(.str (sO "_law_corner") 450),(.str (sO "_law_corner") 451),(.str (sO "/claim/cut.py") 452),(.int 119 0),(.int 1 0),(.int 0 0),(.int 0 0),(.int 3 0),(.ref 207),(.bool true),(.int 181 0),(.ref 208),.none,(.ref 209),(.ref 210),(.ref 211),(.int 454 0),(.int 119 0),(.str (sO "/claim/cut.py") 455)]}),
 (217,{cls:=(.type "code"),data:=.fields #[(.str (sO "_law_cells") 457),(.str (sO "_law_cells") 458),(.str (sO "/claim/cut.py") 459),(.int 121 0),(.int 3 0),(.int 0 0),(.int 0 0),(.int 3 0),(.ref 214),(.bool true),(.int 181 0),(.ref 215),.none,.none,.none,(.ref 216),(.int 460 0),(.int 121 0),(.str (sO "/claim/cut.py") 461)]}),
 (224,{cls:=(.type "code"),data:=.fields #[(.str (sO "_law_part") 463),(.str (sO "_law_part") 464),(.str (sO "/claim/cut.py") 465),(.int 127 0),(.int 4 0),(.int 0 0),(.int 0 0),(.int 3 0),(.ref 219),(.bool true),(.int 181 0),(.ref 220),.none,(.ref 221),(.ref 222),(.ref 223),(.int 480 0),(.int 127 0),(.str (sO "/claim/cut.py") 481)]}),
 (231,{cls:=(.type "code"),data:=.fields #[(.str (sO "_law_due") 483),(.str (sO "_law_due") 484),(.str (sO "/claim/cut.py") 485),(.int 151 0),(.int 4 0),(.int 0 0),(.int 0 0),(.int 3 0),(.ref 226),(.bool true),(.int 181 0),(.ref 227),.none,(.ref 228),(.ref 229),(.ref 230),(.int 495 0),(.int 151 0),(.str (sO "/claim/cut.py") 496)]}),
 (238,{cls:=(.type "code"),data:=.fields #[(.str (sO "_law_tried") 498),(.str (sO "_law_tried") 499),(.str (sO "/claim/cut.py") 500),(.int 174 0),(.int 2 0),(.int 0 0),(.int 0 0),(.int 3 0),(.ref 233),(.bool true),(.int 181 0),(.ref 234),.none,(.ref 235),(.ref 236),(.ref 237),(.int 505 0),(.int 174 0),(.str (sO "/claim/cut.py") 506)]}),
 (245,{cls:=(.type "code"),data:=.fields #[(.str (sO "_law_no_square") 508),(.str (sO "_law_no_square") 509),(.str (sO "/claim/cut.py") 510),(.int 190 0),(.int 3 0),(.int 0 0),(.int 0 0),(.int 3 0),(.ref 240),(.bool true),(.int 181 0),(.ref 241),.none,(.ref 242),(.ref 243),(.ref 244),(.int 514 0),(.int 190 0),(.str (sO "/claim/cut.py") 515)]}),
 (252,{cls:=(.type "code"),data:=.fields #[(.str (sO "_law_is") 517),(.str (sO "_law_is") 518),(.str (sO "/claim/cut.py") 519),(.int 196 0),(.int 4 0),(.int 0 0),(.int 0 0),(.int 3 0),(.ref 247),(.bool true),(.int 181 0),(.ref 248),.none,(.ref 249),(.ref 250),(.ref 251),(.int 527 0),(.int 196 0),(.str (sO "/claim/cut.py") 528)]}),
 (259,{cls:=(.type "code"),data:=.fields #[(.str (sO "_law_parted_well") 530),(.str (sO "_law_parted_well") 531),(.str (sO "/claim/cut.py") 532),(.int 208 0),(.int 5 0),(.int 0 0),(.int 0 0),(.int 3 0),(.ref 254),(.bool true),(.int 181 0),(.ref 255),.none,(.ref 256),(.ref 257),(.ref 258),(.int 547 0),(.int 208 0),(.str (sO "/claim/cut.py") 548)]}),
 (266,{cls:=(.type "code"),data:=.fields #[(.str (sO "law") 550),(.str (sO "law") 551),(.str (sO "/claim/cut.py") 552),(.int 236 0),(.int 1 0),(.int 0 0),(.int 0 0),(.int 3 0),(.ref 261),(.bool true),(.int 181 0),(.ref 262),.none,(.ref 263),(.ref 264),(.ref 265),(.int 561 0),(.int 236 0),(.str (sO "/claim/cut.py") 562)]})]
noncomputable def hA:List Addr:=[3,24,37,49,61,73,85,97,109,121,130,137,144,151,158,163,168,175,182,187,192,199,206,213,218,225,232,239,246,253,260,267,23,36,48,60,72,84,96,108,120,129,136,143,150,157,162,167,174,181,186,191,198,205,212,217,224,231,238,245,252,259,266]
theorem hE(P:Params):hA=(hK P).map (·.1):=by kernel_rfl
theorem hX:(defOf (view pw Jg) PySem.Challenge.rw_uf030034_09.name).isSome=true:=by kernel_rfl
theorem hL(w:World):(openEnds treeTable pw w 5386).map (λs=>(openSeen (view pw Jg) [] (importedModules pw.main.body) (λs=>xlAt (view pw Jg) [] s&&recOk [] s) true s,hA.map s.heap.get?))=some (openGood (view pw Jg) [],(hK w.params).map λp=>some p.2):=by kernel_rfl
theorem hd(walk:WalkO (view pw Jg) [] (XL (view pw Jg) []) (kHook hK hA hE).says PySem.Challenge.rw_uf030034_09.row.toRowW ((defOf (view pw Jg) PySem.Challenge.rw_uf030034_09.name).get hX).1 ((defOf (view pw Jg) PySem.Challenge.rw_uf030034_09.name).get hX).2 λf vs=>PySem.call f vs):PySem.Challenge.rw_uf030034_09.Holds:=
 zE5 (l:=PySem.Challenge.rw_uf030034_09) (keep:=Jg) hE (by decide+kernel) hL hX (by kernel_rfl) (by kernel_rfl) (by kernel_rfl) (by decide+kernel) ⟨by kernel_rfl,by kernel_rfl,by kernel_rfl,by kernel_rfl,by kernel_rfl,by decide+kernel⟩ ⟨[.list []],by decide+kernel,by decide+kernel⟩ walk
end
section
open W
noncomputable abbrev Hm:Addr:=132
noncomputable abbrev Os:Gu:=[(49,true),(61,false),(109,false),(97,false)]
noncomputable abbrev Pi:Gu:=[(49,false),(61,false),(109,false),(97,false)]
noncomputable abbrev Ov:Gu:=[(49,false),(61,true),(109,false),(97,false)]
noncomputable abbrev Xx:Gu:=[(49,false),(61,false),(109,false),(97,false)]
noncomputable abbrev zB4:Gu:=[(49,false),(61,false),(109,true),(97,false)]
noncomputable abbrev M9:Gu:=[(49,false),(61,false),(109,false),(97,false)]
noncomputable abbrev Jf:Gu:=[(49,false),(61,false),(109,false),(97,true)]
noncomputable abbrev Qg:Gu:=[(49,false),(61,false),(109,false),(97,false)]
noncomputable abbrev Kk:Gu:=[(49,true),(61,true),(109,true),(97,true)]
noncomputable abbrev Hh:Gu:=[(49,true),(61,true),(109,true),(97,true)]
noncomputable def zJk:Kf:=[((Str.ofString "BadCell"),(.ref 49,Os)),((Str.ofString "BadSize"),(.ref 37,Pi)),((Str.ofString "BadText"),(.ref 61,Ov)),((Str.ofString "Bare"),(.ref 85,Xx)),((Str.ofString "Cut"),(.ref 109,zB4)),((Str.ofString "NoDrawing"),(.ref 121,M9)),((Str.ofString "NoSquare"),(.ref 97,Jf)),((Str.ofString "Shared"),(.ref 73,Qg)),((Str.ofString "TableError"),(.ref 24,Kk)),((Str.ofString "ValueError"),(.type "ValueError",Hh))]
noncomputable def zKF:Operator->Option (D->D->Mn D)
 |.Add=>some Au
 |.Sub=>some Ek
 |.FloorDiv=>some Ec
 |.Mod=>some Cm
 |.Mult=>some Ep
 |_=>none
noncomputable def zJt:CmpOp->Option (D->D->Mn D)
 |.Lt=>some It
 |.Gt=>some Uq
 |.LtE=>some Mp
 |.GtE=>some zGG
 |.Eq=>some Ex
 |.NotEq=>some G8
 |_=>none
noncomputable def T0:Tb where
 fns:=[]
 nums:=[((Str.ofString "MOST"),200)]
 bf:=[((Str.ofString "abs"),("abs",Zn)),((Str.ofString "len"),("len",Ea)),((Str.ofString "max"),("max",X5)),((Str.ofString "min"),("min",J4))]
 tv:=[((Str.ofString "int"),("int",Ei)),((Str.ofString "list"),("list",Fr))]
 ts:=[((Str.ofString "enumerate"),("enumerate",true,Lk)),((Str.ofString "range"),("range",false,E9)),((Str.ofString "zip"),("zip",true,Rh))]
 sm:=[((Str.ofString "join"),("str.join",Eo)),((Str.ofString "rstrip"),("str.rstrip",Oa))]
 ty:=[((Str.ofString "bool"),"bool"),((Str.ofString "int"),"int"),((Str.ofString "list"),"list"),((Str.ofString "str"),"str"),((Str.ofString "tuple"),"tuple")]
 bin:=zKF
 cmp:=zJt
 me:=(zDb (Str.ofString "clear") Tz (zDb (Str.ofString "append") Rd zIZ))
 so:=λF=>some (Bo F)
 sl:=zFu (Str.ofString "cell") 136 0 Hm
 xe:=zGB zJk
 xs:=zGK zJk
noncomputable def Qi:Mn Fl:=(Ad (Di (Bc It (A6 1) (bnd (A0 (A6 0) Ah) Ea)) (Ad (Bt (Ac Co (A6 0) (A6 1)))
 (ret1 .next)) (ret1 .next))
 (Ad (Bt (ret1 (.int 0)))
 (ret1 .next)))
noncomputable def Bs:List D->Mn D:=Dp [0,1] Qi
noncomputable def T__law_at:Tb:={T0 with fns:=((sO "_law_at"),182,1,Bs)::T0.fns}
noncomputable def Kn:Mn Fl:=(Ad (Bt (D7 (A0 (ix 0 0) (A0 (ix 0 1) Ah))))
 (ret1 .next))
noncomputable def Cs:List D->Mn D:=Dp [0] Kn
noncomputable def T__law_corner:Tb:={T__law_at with fns:=((sO "_law_corner"),213,1,Cs)::T__law_at.fns}
noncomputable def Lw:Mn Fl:=(Ad (bnd (Ac Ec (A6 1) (ret1 (.int 4))) (Aj 2))
 (Ad (bnd (Ac Ek (ix 0 2) (ret1 (.int 1))) (Aj 3))
 (Ad (bnd (Ac Ek (ix 0 3) (ret1 (.int 1))) (Aj 4))
 (Ad (Di (Fa (Bc Ex (Ac Cm (A6 1) (ret1 (.int 4))) (ret1 (.int 0))) (Bc Uq (A6 3) (ret1 (.int 0)))) (Ad (bnd (Ac Au (ret1 (.int 1)) (Ac Cm (A6 2) (A6 3))) (Aj 5))
 (Ad (Bt (Cd (A0 (D7 (A0 (ix 0 0) (A0 (ix 0 1) (A0 (A6 5) (A0 (ix 0 3) Ah))))) (A0 (D7 (A0 (Ac Au (ix 0 0) (A6 5)) (A0 (ix 0 1) (A0 (Ac Ek (ix 0 2) (A6 5)) (A0 (ix 0 3) Ah))))) Ah))))
 (ret1 .next))) (ret1 .next))
 (Ad (Di (Fa (Bc Ex (Ac Cm (A6 1) (ret1 (.int 4))) (ret1 (.int 1))) (Bc Uq (A6 4) (ret1 (.int 0)))) (Ad (bnd (Ac Au (ret1 (.int 1)) (Ac Cm (A6 2) (A6 4))) (Aj 5))
 (Ad (Bt (Cd (A0 (D7 (A0 (ix 0 0) (A0 (ix 0 1) (A0 (ix 0 2) (A0 (A6 5) Ah))))) (A0 (D7 (A0 (ix 0 0) (A0 (Ac Au (ix 0 1) (A6 5)) (A0 (ix 0 2) (A0 (Ac Ek (ix 0 3) (A6 5)) Ah))))) Ah))))
 (ret1 .next))) (ret1 .next))
 (Ad (Di (Fa (Bc Uq (Ac Cm (A6 1) (ret1 (.int 4))) (ret1 (.int 1))) (Fa (Bc Uq (A6 3) (ret1 (.int 1))) (Bc Uq (A6 4) (ret1 (.int 1))))) (Ad (bnd (D7 (A0 (Ac Au (ix 0 0) (ret1 (.int 1))) (A0 (Ac Au (ix 0 1) (ret1 (.int 1))) (A0 (Ac Ek (A6 3) (ret1 (.int 1))) (A0 (Ac Ek (A6 4) (ret1 (.int 1))) Ah))))) (Aj 6))
 (Ad (Di (Bc Ex (Ac Cm (A6 1) (ret1 (.int 4))) (ret1 (.int 2))) (Ad (bnd (Cd (A0 (D7 (A0 (ix 0 0) (A0 (ix 0 1) (A0 (ret1 (.int 1)) (A0 (A6 4) Ah))))) (A0 (D7 (A0 (ix 0 0) (A0 (Ac Au (ix 0 1) (A6 4)) (A0 (A6 3) (A0 (ret1 (.int 1)) Ah))))) (A0 (D7 (A0 (Ac Au (ix 0 0) (A6 3)) (A0 (Ac Au (ix 0 1) (ret1 (.int 1))) (A0 (ret1 (.int 1)) (A0 (A6 4) Ah))))) Ah)))) (Aj 7))
 (Ad (Bt (Ac Au (A6 7) (Cd (A0 (D7 (A0 (Ac Au (ix 0 0) (ret1 (.int 1))) (A0 (ix 0 1) (A0 (A6 3) (A0 (ret1 (.int 1)) Ah))))) (A0 (A6 6) Ah)))))
 (ret1 .next))) (ret1 .next))
 (Ad (bnd (Cd (A0 (D7 (A0 (ix 0 0) (A0 (Ac Au (ix 0 1) (ret1 (.int 1))) (A0 (ret1 (.int 1)) (A0 (A6 4) Ah))))) (A0 (D7 (A0 (ix 0 0) (A0 (ix 0 1) (A0 (A6 3) (A0 (ret1 (.int 1)) Ah))))) (A0 (D7 (A0 (Ac Au (ix 0 0) (A6 3)) (A0 (ix 0 1) (A0 (ret1 (.int 1)) (A0 (A6 4) Ah))))) Ah)))) (Aj 7))
 (Ad (Bt (Ac Au (A6 7) (Cd (A0 (D7 (A0 (Ac Au (ix 0 0) (ret1 (.int 1))) (A0 (Ac Au (ix 0 1) (A6 4)) (A0 (A6 3) (A0 (ret1 (.int 1)) Ah))))) (A0 (A6 6) Ah)))))
 (ret1 .next))))) (ret1 .next))
 (Ad (Bt (Cd (A0 (A6 0) Ah)))
 (ret1 .next))))))))
noncomputable def E3:List D->Mn D:=Dp [0,1] Lw
noncomputable def T__law_parts:Tb:={T__law_corner with fns:=((sO "_law_parts"),206,1,E3)::T__law_corner.fns}
noncomputable def Nf:Mn Fl:=(Ad (bnd (ret1 (.str (sO " !\"#$&'()*+,-./0123456789:;<=>?@ABCDEFGHIJKLMNOPQRSTUVWXYZ[\\]^_`"))) (Aj 2))
 (Ad (bnd (Ac Au (A6 2) (ret1 (.str (sO "abcdefghijklmnopqrstuvwxyz{|}~")))) (Aj 2))
 (Ad (Bt (bnd (bnd (ret1 (.str (Str.ofString ""))) (Hy λx=>bnd (A0 (bnd (bnd (A0 (A6 1) Ah) E9) (Dq [3] (Ca 3) (ret1 true) (Ac Co (A6 2) (Ac Cm (Ac Au (A6 0) (Ac Ep (A6 3) (Ac Au (ret1 (.int 1)) (Ac Cm (Ac Ec (A6 0) (ret1 (.int 94))) (ret1 (.int 93)))))) (ret1 (.int 94)))))) Ah) (Eo x))) (Hy λx=>bnd (A0 (ret1 (.str (sO " "))) Ah) (Oa x))))
 (ret1 .next))))
noncomputable def Db:List D->Mn D:=Dp [0,1] Nf
noncomputable def T__law_line:Tb:={T__law_parts with fns:=((sO "_law_line"),187,1,Db)::T__law_parts.fns}
noncomputable def Nl:Mn Fl:=(Ad (bnd (Ac Ec (A6 0) (ret1 (.int 16))) (Aj 1))
 (Ad (Di (Bc Ex (Ac Cm (A6 0) (ret1 (.int 4))) (ret1 (.int 1))) (Ad (Bt (bnd (A0 (Ac Ec (A6 1) (ret1 (.int 200))) (A0 (Ac Cm (A6 1) (ret1 (.int 200))) Ah)) Db))
 (ret1 .next)) (ret1 .next))
 (Ad (Di (Bc Ex (Ac Cm (A6 0) (ret1 (.int 16))) (ret1 (.int 14))) (Ad (bnd (bnd (bnd (A0 (Ac Au (ret1 (.int 1)) (Ac Cm (A6 1) (ret1 (.int 60)))) Ah) E9) (Dq [3] (Ca 3) (ret1 true) (bnd (A0 (Ac Au (Ac Ec (A6 1) (ret1 (.int 60))) (Ac Ep (ret1 (.int 7)) (A6 3))) (A0 (Ac Cm (Ac Au (A6 1) (A6 3)) (ret1 (.int 3))) Ah)) Db))) (Aj 2))
 (Ad (Bt (Ac Au (bnd (ret1 (.str (sO "\n"))) (Hy λx=>bnd (A0 (A6 2) Ah) (Eo x))) (ret1 (.str (sO ".")))))
 (ret1 .next))) (ret1 .next))
 (Ad (Di (Bc Ex (Ac Cm (A6 0) (ret1 (.int 4))) (ret1 (.int 2))) (Ad (bnd (bnd (bnd (A0 (Ac Au (ret1 (.int 1)) (Ac Cm (A6 1) (ret1 (.int 6)))) Ah) E9) (Dq [3] (Ca 3) (ret1 true) (bnd (A0 (Ac Au (Ac Ec (A6 1) (ret1 (.int 36))) (Ac Ep (ret1 (.int 29)) (A6 3))) (A0 (Ac Cm (Ac Au (Ac Ec (A6 1) (ret1 (.int 4))) (Ac Ep (ret1 (.int 2)) (A6 3))) (ret1 (.int 5))) Ah)) Db))) (Aj 2))
 (Ad (Bt (Ac Au (bnd (ret1 (.str (sO "\n"))) (Hy λx=>bnd (A0 (A6 2) Ah) (Eo x))) (ret1 (.str (sO ".")))))
 (ret1 .next))) (ret1 .next))
 (Ad (Bt (bnd (A0 (Ac Ec (A6 1) (ret1 (.int 9))) (A0 (Ac Ep (Ac Cm (A6 1) (ret1 (.int 9))) (bnd (A0 (Ac Ex (Ac Cm (A6 0) (ret1 (.int 4))) (ret1 (.int 3))) Ah) Ei)) Ah)) Db))
 (ret1 .next))))))
noncomputable def Hc:List D->Mn D:=Dp [0] Nl
noncomputable def T__law_text:Tb:={T__law_line with fns:=((sO "_law_text"),192,2,Hc)::T__law_line.fns}
noncomputable def Io:Mn Fl:=(Ad (bnd (Cd (A0 (D7 (A0 (ret1 (.int 0)) (A0 (ret1 (.int 0)) (A0 (A6 1) (A0 (A6 2) Ah))))) Ah)) (Aj 3))
 (Ad (bnd (bnd (A0 (ret1 (.int 5)) (A0 (bnd (A0 (A6 0) Ah) Ea) (A0 (ret1 (.int 2)) Ah))) E9) λsrc=>D9 (Ca 4) src.g (Ad (bnd (Ac Cm (Ac Co (A6 0) (A6 4)) (bnd (A0 (A6 3) Ah) Ea)) (Aj 5))
 (Ad (bnd (Ac Au (Ac Au (G5 (A6 3) none (some (A6 5))) (bnd (A0 (Ac Co (A6 3) (A6 5)) (A0 (Ac Ec (Ac Co (A6 0) (A6 4)) (bnd (A0 (A6 3) Ah) Ea)) Ah)) E3)) (G5 (A6 3) (some (Ac Au (A6 5) (ret1 (.int 1)))) none)) (Aj 3))
 (ret1 .next))) src.ds)
 (Ad (Bt (bnd (A0 (bnd (bnd (A0 (A6 3) Ah) Lk) (Dq [4,6] (Sf 2 (Iv (Ca 4) (Iv (Ca 6) Op))) (ret1 true) (Ac Au (A6 6) (D7 (A0 (bnd (A0 (bnd (A0 (A6 0) (A0 (Ac Au (ret1 (.int 6)) (Ac Ep (ret1 (.int 2)) (A6 4))) Ah)) Bs) Ah) Hc) Ah))))) Ah) (Bo Cs)))
 (ret1 .next))))
noncomputable def Ey:List D->Mn D:=Dp [0,1,2] Io
noncomputable def T__law_cells:Tb:={T__law_text with fns:=((sO "_law_cells"),218,3,Ey)::T__law_text.fns}
noncomputable def Lv:Mn Fl:=(Ad (Bt (Q2 (bnd (A6 0) (Gb "int")) (Zk (bnd (A6 0) (Gb "bool")))))
 (ret1 .next))
noncomputable def Cg:List D->Mn D:=Dp [0] Lv
noncomputable def T__law_whole:Tb:={T__law_cells with fns:=((sO "_law_whole"),175,1,Cg)::T__law_cells.fns}
noncomputable def Ik:Mn Fl:=(Ad (bnd (bnd (A6 3) Dy) λsrc=>D9 (Ca 4) src.g (Ad (Di (E8 (bnd (bnd (A0 (A6 4) Ah) Cg) As)) (Ad (Bt (ret1 (.str (sO "cell"))))
 (ret1 .next)) (ret1 .next))
 (ret1 .next)) src.ds)
 (Ad (Di (Hp (Bc It (bnd (A0 (ix 3 0) (A0 (ix 3 1) Ah)) J4) (ret1 (.int 0))) (Hp (Bc It (bnd (A0 (ix 3 2) (A0 (ix 3 3) Ah)) J4) (ret1 (.int 1))) (Bc Uq (Ac Au (ix 3 0) (ix 3 2)) (A6 1)))) (Ad (Bt (ret1 (.str (sO "cell"))))
 (ret1 .next)) (ret1 .next))
 (Ad (Di (Bc Uq (Ac Au (ix 3 1) (ix 3 3)) (A6 2)) (Ad (Bt (ret1 (.str (sO "cell"))))
 (ret1 .next)) (ret1 .next))
 (Ad (bnd (Cd Ah) (Aj 5))
 (Ad (bnd (Cd Ah) (Aj 6))
 (Ad (bnd (bnd (A6 0) Dy) λsrc=>D9 (Ca 7) src.g (Ad (bnd (zIF (Ac zGG (ix 7 0) (Ac Au (ix 3 0) (ix 3 2))) (Ac Mp (Ac Au (ix 7 0) (ix 7 2)) (ix 3 0))) (Aj 8))
 (Ad (Di (Hp (bnd (A6 8) As) (Hp (Bc zGG (ix 7 1) (Ac Au (ix 3 1) (ix 3 3))) (Bc Mp (Ac Au (ix 7 1) (ix 7 3)) (ix 3 1)))) (Ad (bnd (bnd (A6 6) (De λk=>bnd (A6 7) (Br k))) Dr)
 (ret1 .next)) (Ad (Di (Bc It (bnd (A0 (Ac Ek (ix 7 0) (ix 3 0)) (A0 (Ac Ek (ix 7 1) (ix 3 1)) (A0 (Ac Ek (Ac Ek (Ac Au (ix 3 0) (ix 3 2)) (ix 7 0)) (ix 7 2)) Ah))) J4) (ret1 (.int 0))) (Ad (Bt (ret1 (.str (sO "cut"))))
 (ret1 .next)) (Ad (Di (Bc It (Ac Au (ix 3 1) (ix 3 3)) (Ac Au (ix 7 1) (ix 7 3))) (Ad (Bt (ret1 (.str (sO "cut"))))
 (ret1 .next)) (Ad (bnd (Ac Au (A6 5) (Ac Ep (Cd (A0 (ix 7 4) Ah)) (bnd (A0 (Ac G8 (ix 7 4) (ret1 (.str (Str.ofString "")))) Ah) Ei))) (Aj 5))
 (ret1 .next)))
 (ret1 .next)))
 (ret1 .next)))
 (ret1 .next))) src.ds)
 (Ad (Di (Bc Uq (bnd (A0 (bnd (ret1 (.str (sO "\n"))) (Hy λx=>bnd (A0 (A6 5) Ah) (Eo x))) Ah) Ea) (ret1 (.int 200))) (Ad (Bt (ret1 (.str (sO "text"))))
 (ret1 .next)) (ret1 .next))
 (Ad (Bt (bnd (A0 (Ac Au (A6 6) (Cd (A0 (Ac Au (A6 3) (D7 (A0 (bnd (ret1 (.str (sO "\n"))) (Hy λx=>bnd (A0 (A6 5) Ah) (Eo x))) Ah))) Ah))) Ah) (Bo Cs)))
 (ret1 .next)))))))))
noncomputable def Fj:List D->Mn D:=Dp [0,1,2,3] Ik
noncomputable def T__law_due:Tb:={T__law_whole with fns:=((sO "_law_due"),232,3,Fj)::T__law_whole.fns}
noncomputable def Mr:Mn Fl:=(Ad (Di (Hp (E8 (bnd (bnd (A6 0) (Gb "tuple")) As)) (Hp (Bc G8 (bnd (A0 (A6 0) Ah) Ea) (ret1 (.int 3))) (Hp (E8 (bnd (bnd (A0 (ix 0 0) Ah) Cg) As)) (E8 (bnd (bnd (A0 (ix 0 1) Ah) Cg) As))))) (Ad (Bt (ret1 (.bool false)))
 (ret1 .next)) (ret1 .next))
 (Ad (Di (Hp (Bc G8 (ix 0 0) (A6 1)) (Hp (Bc G8 (ix 0 1) (A6 2)) (Hp (E8 (bnd (bnd (ix 0 2) (Gb "list")) As)) (Bc G8 (bnd (A0 (ix 0 2) Ah) Ea) (bnd (A0 (A6 3) Ah) Ea))))) (Ad (Bt (ret1 (.bool false)))
 (ret1 .next)) (ret1 .next))
 (Ad (bnd (bnd (A0 (ix 0 2) (A0 (A6 3) Ah)) Rh) λsrc=>D9 (Sf 2 (Iv (Ca 4) (Iv (Ca 5) Op))) src.g (Ad (Di (Hp (E8 (bnd (bnd (A6 4) (Gb "tuple")) As)) (Hp (Bc G8 (bnd (A0 (A6 4) Ah) Ea) (ret1 (.int 5))) (Hp (E8 (bnd (bnd (ix 4 4) (Gb "str")) As)) (Bc G8 (ix 4 4) (ix 5 4))))) (Ad (Bt (ret1 (.bool false)))
 (ret1 .next)) (ret1 .next))
 (Ad (bnd (bnd (A0 (ret1 (.int 4)) Ah) E9) λsrc=>D9 (Ca 6) src.g (Ad (Di (Hp (E8 (bnd (bnd (A0 (Ac Co (A6 4) (A6 6)) Ah) Cg) As)) (Bc G8 (Ac Co (A6 4) (A6 6)) (Ac Co (A6 5) (A6 6)))) (Ad (Bt (ret1 (.bool false)))
 (ret1 .next)) (ret1 .next))
 (ret1 .next)) src.ds)
 (ret1 .next))) src.ds)
 (Ad (Bt (ret1 (.bool true)))
 (ret1 .next)))))
noncomputable def E2:List D->Mn D:=Dp [0,1,2,3] Mr
noncomputable def T__law_is:Tb:={T__law_due with fns:=((sO "_law_is"),253,2,E2)::T__law_due.fns}
noncomputable def Je:Mn Fl:=(Ad (bnd (Ac Ec (A6 3) (ret1 (.int 4))) (Aj 4))
 (Ad (Di (Bc Ex (Ac Cm (A6 3) (ret1 (.int 4))) (ret1 (.int 3))) (Ad (Bt (D7 (A0 (ret1 (.int 0)) (A0 (ret1 (.int 0)) (A0 (A6 1) (A0 (A6 2) Ah))))))
 (ret1 .next)) (ret1 .next))
 (Ad (Di (Bc Ex (Ac Cm (A6 3) (ret1 (.int 4))) (ret1 (.int 0))) (Ad (bnd (Ac Co (A6 0) (Ac Cm (A6 4) (bnd (A0 (A6 0) Ah) Ea))) (Aj 5))
 (Ad (bnd (Ac Co (A6 0) (Ac Cm (Ac Ec (A6 4) (bnd (A0 (A6 0) Ah) Ea)) (bnd (A0 (A6 0) Ah) Ea))) (Aj 6))
 (Ad (bnd (bnd (A0 (ix 5 0) (A0 (ix 6 0) Ah)) J4) (Aj 7))
 (Ad (bnd (bnd (A0 (ix 5 1) (A0 (ix 6 1) Ah)) J4) (Aj 8))
 (Ad (bnd (Ac Ek (bnd (A0 (Ac Au (ix 5 0) (ix 5 2)) (A0 (Ac Au (ix 6 0) (ix 6 2)) Ah)) X5) (A6 7)) (Aj 9))
 (Ad (Bt (D7 (A0 (A6 7) (A0 (A6 8) (A0 (A6 9) (A0 (Ac Ek (bnd (A0 (Ac Au (ix 5 1) (ix 5 3)) (A0 (Ac Au (ix 6 1) (ix 6 3)) Ah)) X5) (A6 8)) Ah))))))
 (ret1 .next))))))) (ret1 .next))
 (Ad (bnd (Ac Cm (A6 4) (A6 1)) (Aj 7))
 (Ad (bnd (Ac Cm (Ac Ec (A6 4) (A6 1)) (A6 2)) (Aj 8))
 (Ad (bnd (Ac Ec (Ac Ec (A6 4) (A6 1)) (A6 2)) (Aj 4))
 (Ad (bnd (D7 (A0 (A6 7) (A0 (A6 8) (A0 (Ac Au (ret1 (.int 1)) (Ac Cm (A6 4) (Ac Ek (A6 1) (A6 7)))) (A0 (Ac Au (ret1 (.int 1)) (Ac Cm (Ac Ec (A6 4) (Ac Ek (A6 1) (A6 7))) (Ac Ek (A6 2) (A6 8)))) Ah))))) (Aj 10))
 (Ad (Di (Bc Ex (Ac Cm (A6 3) (ret1 (.int 4))) (ret1 (.int 1))) (Ad (bnd (bnd (A0 (Ac Ec (A6 4) (ret1 (.int 400))) Ah) Zn) (Aj 4))
 (Ad (bnd (Ac Cm (A6 4) (ret1 (.int 4))) (Aj 11))
 (Ad (bnd (Ac Co (Cd (A0 (Ac Au (Ac Ek (A6 1) (A6 7)) (ret1 (.int 1))) (A0 (Ac Au (Ac Ek (A6 2) (A6 8)) (ret1 (.int 1))) Ah))) (Ac Cm (A6 11) (ret1 (.int 2)))) (Aj 12))
 (Ad (bnd (Ac Co (Cd (A0 (Ac Co (Cd (A0 (bnd (ret1 (.int 1)) Sh) (A0 (bnd (ret1 (.int 1)) Sh) (A0 (ret1 (.int 0)) (A0 (ret1 (.int 0)) Ah))))) (A6 11)) (A0 (Ac Au (ret1 (.int 21)) (Ac Ec (A6 4) (ret1 (.int 24)))) (A0 (ret1 .none) (A0 (ret1 (.bool true)) (A0 (ret1 (.str (sO "1"))) (A0 (A6 12) (A0 (ret1 (.bool false)) Ah)))))))) (Ac Cm (Ac Ec (A6 4) (ret1 (.int 4))) (ret1 (.int 7)))) (Aj 13))
 (Ad (Di (Bc Ex (Ac Cm (Ac Ec (A6 4) (ret1 (.int 4))) (ret1 (.int 6))) (ret1 (.int 5))) (Ad (bnd (Ac Au (ret1 (.int 2)) (Ac Cm (A6 11) (ret1 (.int 2)))) (Aj 11))
 (ret1 .next)) (ret1 .next))
 (Ad (Bt (Ac Au (Ac Au (G5 (A6 10) none (some (A6 11))) (D7 (A0 (A6 13) Ah))) (G5 (A6 10) (some (Ac Au (A6 11) (ret1 (.int 1)))) none)))
 (ret1 .next))))))) (ret1 .next))
 (Ad (Bt (A6 10))
 (ret1 .next))))))))))
noncomputable def Em:List D->Mn D:=Dp [0,1,2,3] Je
noncomputable def T__law_part:Tb:={T__law_is with fns:=((sO "_law_part"),225,1,Em)::T__law_is.fns}
noncomputable def La:Mn Fl:=(Ad (Bt (bnd (A0 (A6 0) Ah) (λds=>bnd (Ic 0 Hm 25 29 (sO "in_order.<locals>.<lambda>")) λ_=>Bo (Nx (D7 (A0 (ix 0 0) (A0 (ix 0 1) Ah)))) ds)))
 (ret1 .next))
noncomputable def Fo:List D->Mn D:=Dp [0] La
noncomputable def T_in_order:Tb:={T__law_part with fns:=((sO "in_order"),137,3,Fo)::T__law_part.fns}
noncomputable def Oi:Mn Fl:=(Ad (Bt (Q2 (bnd (A6 0) (Gb "int")) (Zk (bnd (A6 0) (Gb "bool")))))
 (ret1 .next))
noncomputable def Dg:List D->Mn D:=Dp [0] Oi
noncomputable def T_is_whole:Tb:={T_in_order with fns:=((sO "is_whole"),130,1,Dg)::T_in_order.fns}
noncomputable def Ke:Mn Fl:=(Ad (Di (Hp (E8 (bnd (bnd (A0 (A6 1) Ah) Dg) As)) (E8 (bnd (bnd (A0 (A6 2) Ah) Dg) As))) (Ad (H0 97)
 (ret1 .next)) (ret1 .next))
 (Ad (bnd (bnd (ix 0 2) Dy) λsrc=>D9 (Ca 3) src.g (Ad (Di (Fa (Bc Mp (ix 3 0) (A6 1)) (Fa (Bc It (A6 1) (Ac Au (ix 3 0) (ix 3 2))) (Fa (Bc Mp (ix 3 1) (A6 2)) (Bc It (A6 2) (Ac Au (ix 3 1) (ix 3 3)))))) (Ad (Bt (A6 3))
 (ret1 .next)) (ret1 .next))
 (ret1 .next)) src.ds)
 (Ad (H0 97)
 (ret1 .next))))
noncomputable def Mh:List D->Mn D:=Dp [0,1,2] Ke
noncomputable def T_owner:Tb:={T_is_whole with fns:=((sO "owner"),158,2,Mh)::T_is_whole.fns}
noncomputable def Iq:Mn Fl:=(Ad (bnd (Cd Ah) (Aj 1))
 (Ad (bnd (bnd (A0 (ix 0 0) (A0 (Ac Au (ix 0 0) (ix 0 2)) Ah)) E9) λsrc=>D9 (Ca 2) src.g (Ad (bnd (bnd (A0 (ix 0 1) (A0 (Ac Au (ix 0 1) (ix 0 3)) Ah)) E9) λsrc=>D9 (Ca 3) src.g (Ad (bnd (bnd (A6 1) (De λk=>bnd (D7 (A0 (A6 2) (A0 (A6 3) Ah))) (Br k))) Dr)
 (ret1 .next)) src.ds)
 (ret1 .next)) src.ds)
 (Ad (Bt (A6 1))
 (ret1 .next))))
noncomputable def E4:List D->Mn D:=Dp [0] Iq
noncomputable def T_squares_of:Tb:={T_owner with fns:=((sO "squares_of"),151,1,E4)::T_owner.fns}
noncomputable def Lo:Mn Fl:=(Ad (bnd (bnd (A0 (A6 0) (A0 (A6 1) (A0 (A6 2) Ah))) Mh) (Aj 3))
 (Ad (bnd (bnd (bnd (ix 0 2) Dy) (Dq [8] (Ca 8) (Hp (Bc G8 (ix 8 0) (ix 3 0)) (Bc G8 (ix 8 1) (ix 3 1))) (A6 8))) (Aj 4))
 (Ad (bnd (ix 3 4) (Aj 5))
 (Ad (bnd (bnd (bnd (A0 (A6 3) Ah) E4) Dy) λsrc=>D9 (Sf 2 (Iv (Ca 6) (Iv (Ca 7) Op))) src.g (Ad (bnd (bnd (A6 4) (De λk=>bnd (D7 (A0 (A6 6) (A0 (A6 7) (A0 (ret1 (.int 1)) (A0 (ret1 (.int 1)) (A0 (A6 5) Ah)))))) (Br k))) Dr)
 (Ad (bnd (ret1 (.str (Str.ofString ""))) (Aj 5))
 (ret1 .next))) src.ds)
 (Ad (Bt (D7 (A0 (ix 0 0) (A0 (ix 0 1) (A0 (bnd (A0 (A6 4) Ah) Fo) Ah)))))
 (ret1 .next))))))
noncomputable def Jo:List D->Mn D:=Dp [0,1,2] Lo
noncomputable def T_parted:Tb:={T_squares_of with fns:=((sO "parted"),168,4,Jo)::T_squares_of.fns}
noncomputable def Fh:Mn Fl:=(Ad (Hr (Ad (bnd (bnd (A0 (A6 0) (A0 (A6 1) (A0 (A6 2) Ah))) Jo) Dr)
 (ret1 .next)) (Y3 Jf) (Ad (Bt (ret1 (.bool true)))
 (ret1 .next)))
 (Ad (Bt (ret1 (.bool false)))
 (ret1 .next)))
noncomputable def C5:List D->Mn D:=Dp [0,1,2] Fh
noncomputable def T__law_no_square:Tb:={T_parted with fns:=((sO "_law_no_square"),246,5,C5)::T_parted.fns}
noncomputable def N6:Mn Fl:=(Ad (bnd (bnd (D7 (A0 (A6 2) (A0 (A6 3) (A0 (A6 4) (A0 (A6 5) Ah))))) Dy) λsrc=>D9 (Ca 6) src.g (Ad (Di (E8 (bnd (bnd (A0 (A6 6) Ah) Dg) As)) (Ad (Bt (ret1 (.bool false)))
 (ret1 .next)) (ret1 .next))
 (ret1 .next)) src.ds)
 (Ad (Di (Hp (Bc It (A6 2) (ret1 (.int 0))) (Hp (Bc It (A6 3) (ret1 (.int 0))) (Hp (Bc It (A6 4) (ret1 (.int 1))) (Bc It (A6 5) (ret1 (.int 1)))))) (Ad (Bt (ret1 (.bool false)))
 (ret1 .next)) (ret1 .next))
 (Ad (Bt (Q2 (Ac Mp (Ac Au (A6 2) (A6 4)) (A6 0)) (Ac Mp (Ac Au (A6 3) (A6 5)) (A6 1))))
 (ret1 .next))))
noncomputable def Hn:List D->Mn D:=Dp [0,1,2,3,4,5] N6
noncomputable def T_lies_in:Tb:={T__law_no_square with fns:=((sO "lies_in"),144,2,Hn)::T__law_no_square.fns}
noncomputable def Ht:Mn Fl:=(Ad (Di (E8 (bnd (bnd (A0 (ix 0 0) (A0 (ix 0 1) (A0 (A6 1) (A0 (A6 2) (A0 (A6 3) (A0 (A6 4) Ah)))))) Hn) As)) (Ad (H0 49)
 (ret1 .next)) (ret1 .next))
 (Ad (bnd (Cd Ah) (Aj 5))
 (Ad (bnd (Cd Ah) (Aj 6))
 (Ad (bnd (bnd (ix 0 2) Dy) λsrc=>D9 (Ca 7) src.g (Ad (bnd (ret1 (.int 0)) (Aj 8))
 (Ad (bnd (bnd (bnd (A0 (A6 7) Ah) E4) Dy) λsrc=>D9 (Sf 2 (Iv (Ca 9) (Iv (Ca 10) Op))) src.g (Ad (Di (Fa (Bc Mp (A6 1) (A6 9)) (Fa (Bc It (A6 9) (Ac Au (A6 1) (A6 3))) (Fa (Bc Mp (A6 2) (A6 10)) (Bc It (A6 10) (Ac Au (A6 2) (A6 4)))))) (Ad (bnd (Ac Au (A6 8) (ret1 (.int 1))) (Aj 8))
 (ret1 .next)) (ret1 .next))
 (ret1 .next)) src.ds)
 (Ad (Di (Bc Ex (A6 8) (ret1 (.int 0))) (Ad (bnd (bnd (A6 6) (De λk=>bnd (A6 7) (Br k))) Dr)
 (ret1 .next)) (Ad (Di (Bc Ex (A6 8) (Ac Ep (ix 7 2) (ix 7 3))) (Ad (bnd (bnd (A6 5) (De λk=>bnd (A6 7) (Br k))) Dr)
 (ret1 .next)) (Ad (H0 109)
 (ret1 .next)))
 (ret1 .next)))
 (ret1 .next)))) src.ds)
 (Ad (bnd (bnd (ret1 (.str (sO "\n"))) (Hy λx=>bnd (A0 (bnd (bnd (A6 5) Dy) (Dq [7] (Ca 7) (Bc G8 (ix 7 4) (ret1 (.str (Str.ofString "")))) (ix 7 4))) Ah) (Eo x))) (Aj 11))
 (Ad (Di (Bc Uq (bnd (A0 (A6 11) Ah) Ea) (ret1 (.int 200))) (Ad (H0 61)
 (ret1 .next)) (ret1 .next))
 (Ad (Bt (D7 (A0 (ix 0 0) (A0 (ix 0 1) (A0 (bnd (A0 (Ac Au (A6 6) (Cd (A0 (D7 (A0 (A6 1) (A0 (A6 2) (A0 (A6 3) (A0 (A6 4) (A0 (A6 11) Ah)))))) Ah))) Ah) Fo) Ah)))))
 (ret1 .next))))))))
noncomputable def Dt:List D->Mn D:=Dp [0,1,2,3,4] Ht
noncomputable def T_joined:Tb:={T_lies_in with fns:=((sO "joined"),163,4,Dt)::T_lies_in.fns}
noncomputable def Eh:Mn Fl:=(Ad (bnd (Ac Cm (A6 4) (A6 1)) (Aj 5))
 (Ad (bnd (Ac Cm (Ac Ec (A6 4) (A6 1)) (A6 2)) (Aj 6))
 (Ad (bnd (Ac Co (Cd (A0 (Ac Ek (bnd (ret1 (.int 1)) Sh) (bnd (A0 (A6 4) Ah) Zn)) (A0 (Ac Au (Ac Au (A6 1) (A6 2)) (bnd (A0 (A6 4) Ah) Zn)) (A0 (ret1 .none) (A0 (ret1 (.str (sO "0"))) (A0 (ret1 (.bool true)) (A0 (ret1 (.bool false)) Ah))))))) (Ac Cm (Ac Ec (Ac Ec (A6 4) (A6 1)) (A6 2)) (ret1 (.int 6)))) (Aj 7))
 (Ad (Di (Hp (E8 (bnd (bnd (A0 (A6 0) (A0 (A6 7) (A0 (A6 6) Ah))) C5) As)) (E8 (bnd (bnd (A0 (A6 0) (A0 (A6 5) (A0 (A6 7) Ah))) C5) As))) (Ad (Bt (ret1 (.bool false)))
 (ret1 .next)) (ret1 .next))
 (Ad (Di (Hp (E8 (bnd (bnd (A0 (A6 0) (A0 (A6 1) (A0 (A6 6) Ah))) C5) As)) (E8 (bnd (bnd (A0 (A6 0) (A0 (A6 5) (A0 (bnd (ret1 (.int 1)) Sh) Ah))) C5) As))) (Ad (Bt (ret1 (.bool false)))
 (ret1 .next)) (ret1 .next))
 (Ad (bnd (Cd Ah) (Aj 8))
 (Ad (bnd (ret1 .none) (Aj 9))
 (Ad (bnd (bnd (A6 3) Dy) λsrc=>D9 (Ca 10) src.g (Ad (Di (Fa (Nd Mp It (ix 10 0) (A6 5) (Ac Au (ix 10 0) (ix 10 2))) (Nd Mp It (ix 10 1) (A6 6) (Ac Au (ix 10 1) (ix 10 3)))) (Ad (bnd (A6 10) (Aj 9))
 (ret1 .next)) (Ad (bnd (bnd (A6 8) (De λk=>bnd (A6 10) (Br k))) Dr)
 (ret1 .next)))
 (ret1 .next)) src.ds)
 (Ad (bnd (bnd (A0 (Ac Ep (ix 9 2) (ix 9 3)) Ah) E9) λsrc=>D9 (Ca 11) src.g (Ad (bnd (bnd (A6 8) (De λk=>bnd (D7 (A0 (Ac Au (ix 9 0) (Ac Ec (A6 11) (ix 9 3))) (A0 (Ac Au (ix 9 1) (Ac Cm (A6 11) (ix 9 3))) (A0 (ret1 (.int 1)) (A0 (ret1 (.int 1)) (A0 (Ac Co (Cd (A0 (ret1 (.str (Str.ofString ""))) (A0 (ix 9 4) Ah))) (bnd (A0 (Ac Ex (A6 11) (ret1 (.int 0))) Ah) Ei)) Ah)))))) (Br k))) Dr)
 (ret1 .next)) src.ds)
 (Ad (bnd (bnd (A0 (A6 0) (A0 (A6 5) (A0 (A6 6) Ah))) Jo) (Aj 12))
 (Ad (Di (E8 (bnd (bnd (A0 (A6 12) (A0 (A6 1) (A0 (A6 2) (A0 (bnd (A0 (A6 8) Ah) (Bo Cs)) Ah)))) E2) As)) (Ad (Bt (ret1 (.bool false)))
 (ret1 .next)) (ret1 .next))
 (Ad (bnd (bnd (A0 (A6 12) (A0 (ix 9 0) (A0 (ix 9 1) (A0 (ix 9 2) (A0 (ix 9 3) Ah))))) Dt) (Aj 13))
 (Ad (Di (E8 (bnd (bnd (A0 (A6 13) (A0 (A6 1) (A0 (A6 2) (A0 (A6 3) Ah)))) E2) As)) (Ad (Bt (ret1 (.bool false)))
 (ret1 .next)) (ret1 .next))
 (Ad (bnd (bnd (ix 13 2) (De Ez)) Dr)
 (Ad (Di (E8 (bnd (bnd (A0 (A6 12) (A0 (A6 1) (A0 (A6 2) (A0 (bnd (A0 (A6 8) Ah) (Bo Cs)) Ah)))) E2) As)) (Ad (Bt (ret1 (.bool false)))
 (ret1 .next)) (ret1 .next))
 (Ad (bnd (bnd (ix 12 2) (De Ez)) Dr)
 (Ad (Bt (ret1 (.bool true)))
 (ret1 .next))))))))))))))))))
noncomputable def Cv:List D->Mn D:=Dp [0,1,2,3,4] Eh
noncomputable def T__law_parted_well:Tb:={T_joined with fns:=((sO "_law_parted_well"),260,6,Cv)::T_joined.fns}
noncomputable def Nt:Mn Fl:=(Ad (Di (Bc Ex (Ac Cm (A6 0) (ret1 (.int 3))) (ret1 (.int 1))) (Ad (Bt (Ac Au (ret1 (.int 1)) (Ac Cm (Ac Ec (A6 0) (ret1 (.int 9))) (ret1 (.int 20)))))
 (ret1 .next)) (ret1 .next))
 (Ad (Bt (Ac Au (ret1 (.int 1)) (Ac Cm (Ac Ec (A6 0) (ret1 (.int 9))) (ret1 (.int 5)))))
 (ret1 .next)))
noncomputable def Dv:List D->Mn D:=Dp [0] Nt
noncomputable def T__law_size:Tb:={T__law_parted_well with fns:=((sO "_law_size"),199,1,Dv)::T__law_parted_well.fns}
noncomputable def Gg:Mn Fl:=(Ad (Ky (Ad (Bt (bnd (A0 (A6 0) (A0 (ix 1 0) (A0 (ix 1 1) (A0 (ix 1 2) (A0 (ix 1 3) Ah))))) Dt))
 (ret1 .next)) (Y3 Kk) 2 (Ad (bnd (Ac Co (Cd (A0 (ret1 (.str (Str.ofString ""))) (A0 (ret1 (.str (sO "no value error "))) Ah))) (bnd (A0 (Zk (bnd (A6 2) (Jb Hh))) Ah) Ei)) (Aj 3))
 (Ad (Di (bnd (bnd (A6 2) (Jb Os)) As) (Ad (bnd (Ac Au (A6 3) (ret1 (.str (sO "cell")))) (Aj 3))
 (ret1 .next)) (ret1 .next))
 (Ad (Di (bnd (bnd (A6 2) (Jb zB4)) As) (Ad (bnd (Ac Au (A6 3) (ret1 (.str (sO "cut")))) (Aj 3))
 (ret1 .next)) (ret1 .next))
 (Ad (Di (bnd (bnd (A6 2) (Jb Ov)) As) (Ad (bnd (Ac Au (A6 3) (ret1 (.str (sO "text")))) (Aj 3))
 (ret1 .next)) (ret1 .next))
 (Ad (Di (Hp (bnd (bnd (A6 2) (Jb Pi)) As) (Hp (bnd (bnd (A6 2) (Jb Qg)) As) (bnd (bnd (A6 2) (Jb Xx)) As))) (Ad (bnd (Ac Au (A6 3) (ret1 (.str (sO "another")))) (Aj 3))
 (ret1 .next)) (ret1 .next))
 (Ad (Di (Hp (bnd (bnd (A6 2) (Jb Jf)) As) (bnd (bnd (A6 2) (Jb M9)) As)) (Ad (bnd (Ac Au (A6 3) (ret1 (.str (sO "another")))) (Aj 3))
 (ret1 .next)) (ret1 .next))
 (Ad (Bt (A6 3))
 (ret1 .next)))))))))
 (ret1 .next))
noncomputable def Dh:List D->Mn D:=Dp [0,1] Gg
noncomputable def Rv:Tb:={T__law_size with fns:=((sO "_law_tried"),239,5,Dh)::T__law_size.fns}
noncomputable def zBk:Mn Fl:=(Ad (bnd (bnd (A0 (bnd (A0 (A6 0) (A0 (ret1 (.int 0)) Ah)) Bs) Ah) Dv) (Aj 1))
 (Ad (bnd (bnd (A0 (bnd (A0 (A6 0) (A0 (ret1 (.int 1)) Ah)) Bs) Ah) Dv) (Aj 2))
 (Ad (bnd (bnd (A0 (A6 0) (A0 (A6 1) (A0 (A6 2) Ah))) Ey) (Aj 3))
 (Ad (bnd (D7 (A0 (A6 1) (A0 (A6 2) (A0 (bnd (A0 (A6 3) Ah) Fr) Ah)))) (Aj 4))
 (Ad (bnd (bnd (A0 (A6 3) (A0 (A6 1) (A0 (A6 2) (A0 (Ac Au (bnd (A0 (A6 0) (A0 (ret1 (.int 2)) Ah)) Bs) (Ac Ep (ret1 (.int 4)) (bnd (A0 (A6 0) (A0 (ret1 (.int 3)) Ah)) Bs))) Ah)))) Em) (Aj 5))
 (Ad (bnd (bnd (A0 (A6 3) (A0 (A6 1) (A0 (A6 2) (A0 (A6 5) Ah)))) Fj) (Aj 6))
 (Ad (bnd (bnd (A0 (A6 4) (A0 (A6 5) Ah)) Dh) (Aj 7))
 (Ad (Di (bnd (bnd (A6 6) (Gb "str")) As) (Ad (Di (Hp (E8 (bnd (bnd (A6 7) (Gb "str")) As)) (Bc G8 (A6 7) (A6 6))) (Ad (Bt (ret1 (.bool false)))
 (ret1 .next)) (ret1 .next))
 (ret1 .next)) (Ad (Di (E8 (bnd (bnd (A0 (A6 7) (A0 (A6 1) (A0 (A6 2) (A0 (A6 6) Ah)))) E2) As)) (Ad (Bt (ret1 (.bool false)))
 (ret1 .next)) (Ad (bnd (bnd (ix 7 2) (De Ez)) Dr)
 (ret1 .next)))
 (ret1 .next)))
 (Ad (Di (Bc G8 (ix 4 2) (A6 3)) (Ad (Bt (ret1 (.bool false)))
 (ret1 .next)) (ret1 .next))
 (Ad (Bt (Q2 (bnd (A0 (A6 4) (A0 (A6 1) (A0 (A6 2) (A0 (A6 3) (A0 (bnd (A0 (A6 0) (A0 (ret1 (.int 4)) Ah)) Bs) Ah))))) Cv) (Ac Ex (ix 4 2) (A6 3))))
 (ret1 .next)))))))))))
noncomputable def zBb:List D->Mn D:=Dp [0] zBk
section
variable {G:Gd}{P:Params}(L:zIk G (hK P) 136 132)
include L
theorem zIT:U7 G (hK P) zJk where
 kin:=L.lay.kin
 nm x V t h:=(Ak (P:=zLL G (hK P)) ⟨.inl (L.lay.glob (by kernel_rfl)),Hk (by kernel_rfl)⟩ (Ak ⟨.inl (L.lay.glob (by kernel_rfl)),Hk (by kernel_rfl)⟩ (Ak ⟨.inl (L.lay.glob (by kernel_rfl)),Hk (by kernel_rfl)⟩ (Ak ⟨.inl (L.lay.glob (by kernel_rfl)),Hk (by kernel_rfl)⟩ (Ak ⟨.inl (L.lay.glob (by kernel_rfl)),Hk (by kernel_rfl)⟩ (Ak ⟨.inl (L.lay.glob (by kernel_rfl)),Hk (by kernel_rfl)⟩ (Ak ⟨.inl (L.lay.glob (by kernel_rfl)),Hk (by kernel_rfl)⟩ (Ak ⟨.inl (L.lay.glob (by kernel_rfl)),Hk (by kernel_rfl)⟩ (Ak ⟨.inl (L.lay.glob (by kernel_rfl)),Hk (by kernel_rfl)⟩ (Ak ⟨.inr (L.lay.bui (by kernel_rfl) (by boot_by_name) (by kernel_rfl)),Hk (by kernel_rfl)⟩ (Ee))))))))))) x (V,t) h
 isi:=(L.lay.bui (by kernel_rfl) (by boot_by_name) (by kernel_rfl))
 cls x c t h:=(Ak (P:=zLJ G) (λc e=>by cases e;exact Ih L.lay (by kernel_rfl)) (Ak (λc e=>by cases e;exact Ih L.lay (by kernel_rfl)) (Ak (λc e=>by cases e;exact Ih L.lay (by kernel_rfl)) (Ak (λc e=>by cases e;exact Ih L.lay (by kernel_rfl)) (Ak (λc e=>by cases e;exact Ih L.lay (by kernel_rfl)) (Ak (λc e=>by cases e;exact Ih L.lay (by kernel_rfl)) (Ak (λc e=>by cases e;exact Ih L.lay (by kernel_rfl)) (Ak (λc e=>by cases e;exact Ih L.lay (by kernel_rfl)) (Ak (λc e=>by cases e;exact Ih L.lay (by kernel_rfl)) (Ak (λc e=>by cases e) (Ee))))))))))) x (.ref c,t) h c rfl
 exm x c t h:=(Ak (P:=zLQ (hK P)) (λT e=>by cases e;exact Hz (by kernel_rfl)) (Ak (λT e=>by cases e;exact Hz (by kernel_rfl)) (Ak (λT e=>by cases e;exact Hz (by kernel_rfl)) (Ak (λT e=>by cases e;exact Hz (by kernel_rfl)) (Ak (λT e=>by cases e;exact Hz (by kernel_rfl)) (Ak (λT e=>by cases e;exact Hz (by kernel_rfl)) (Ak (λT e=>by cases e;exact Hz (by kernel_rfl)) (Ak (λT e=>by cases e;exact Hz (by kernel_rfl)) (Ak (λT e=>by cases e;exact Hz (by kernel_rfl)) (Ak (λc e=>by cases e) (Ee))))))))))) x (.ref c,t) h c rfl
 glob x c t h:=(Ak (P:=zLP G) (λc e=>by cases e;exact L.lay.glob (by kernel_rfl)) (Ak (λc e=>by cases e;exact L.lay.glob (by kernel_rfl)) (Ak (λc e=>by cases e;exact L.lay.glob (by kernel_rfl)) (Ak (λc e=>by cases e;exact L.lay.glob (by kernel_rfl)) (Ak (λc e=>by cases e;exact L.lay.glob (by kernel_rfl)) (Ak (λc e=>by cases e;exact L.lay.glob (by kernel_rfl)) (Ak (λc e=>by cases e;exact L.lay.glob (by kernel_rfl)) (Ak (λc e=>by cases e;exact L.lay.glob (by kernel_rfl)) (Ak (λc e=>by cases e;exact L.lay.glob (by kernel_rfl)) (Ak (λc e=>by cases e) (Ee))))))))))) x (.ref c,t) h c rfl
theorem zKs:D5 G T0 where
 fns _ _ _ _ h:=B0 h
 nums:=(Ak (P:=zKu G) (x:=(Str.ofString "MOST")) (L.lay.globInt (by kernel_rfl)) (Ee (P:=zKu G)))
 bf f n F h:=(Ak (P:=zJ7 G) (x:=(Str.ofString "abs")) ⟨(L.lay.bui (by kernel_rfl) (by boot_by_name) (by kernel_rfl)),zG2⟩ (Ak (P:=zJ7 G) (x:=(Str.ofString "len")) ⟨(L.lay.bui (by kernel_rfl) (by boot_by_name) (by kernel_rfl)),zHl⟩ (Ak (P:=zJ7 G) (x:=(Str.ofString "max")) ⟨(L.lay.bui (by kernel_rfl) (by boot_by_name) (by kernel_rfl)),zD4⟩ (Ak (P:=zJ7 G) (x:=(Str.ofString "min")) ⟨(L.lay.bui (by kernel_rfl) (by boot_by_name) (by kernel_rfl)),zDD⟩ (Ee (P:=zJ7 G)))))) f (n,F) h
 tv f n F h:=(Ak (P:=zJz G) (x:=(Str.ofString "int")) ⟨(L.lay.bui (by kernel_rfl) (by boot_by_name) (by kernel_rfl)),zHb⟩ (Ak (P:=zJz G) (x:=(Str.ofString "list")) ⟨(L.lay.bui (by kernel_rfl) (by boot_by_name) (by kernel_rfl)),zEJ⟩ (Ee (P:=zJz G)))) f (n,F) h
 ts f n b F h:=(Ak (P:=zJe G) (x:=(Str.ofString "enumerate")) ⟨(L.lay.bui (by kernel_rfl) (by boot_by_name) (by kernel_rfl)),_,zEs,λt h=>T6 h⟩ (Ak (P:=zJe G) (x:=(Str.ofString "range")) ⟨(L.lay.bui (by kernel_rfl) (by boot_by_name) (by kernel_rfl)),_,zC5,λ_ _=>trivial⟩ (Ak (P:=zJe G) (x:=(Str.ofString "zip")) ⟨(L.lay.bui (by kernel_rfl) (by boot_by_name) (by kernel_rfl)),_,zHQ,λt h=>T6 h⟩ (Ee (P:=zJe G))))) f (n,b,F) h
 sm f n F h:=(Ak (P:=zKI G) (x:=(Str.ofString "join")) zEA (Ak (P:=zKI G) (x:=(Str.ofString "rstrip")) Yv (Ee (P:=zKI G)))) f (n,F) h
 ty:=(Ak (P:=zIE G) (x:=(Str.ofString "bool")) ⟨(L.lay.bui (by kernel_rfl) (by boot_by_name) (by kernel_rfl)),zAQ⟩ (Ak (P:=zIE G) (x:=(Str.ofString "int")) ⟨(L.lay.bui (by kernel_rfl) (by boot_by_name) (by kernel_rfl)),zEH⟩ (Ak (P:=zIE G) (x:=(Str.ofString "list")) ⟨(L.lay.bui (by kernel_rfl) (by boot_by_name) (by kernel_rfl)),zCC⟩ (Ak (P:=zIE G) (x:=(Str.ofString "str")) ⟨(L.lay.bui (by kernel_rfl) (by boot_by_name) (by kernel_rfl)),zFA⟩ (Ak (P:=zIE G) (x:=(Str.ofString "tuple")) ⟨(L.lay.bui (by kernel_rfl) (by boot_by_name) (by kernel_rfl)),Zt⟩ (Ee (P:=zIE G)))))))
 isi:=(L.lay.bui (by kernel_rfl) (by boot_by_name) (by kernel_rfl))
 bin op f h:=by
  cases op with
  |Add=>exact Al (P:=H8 G _) h zEB
  |Sub=>exact Al (P:=H8 G _) h zEz
  |FloorDiv=>exact Al (P:=H8 G _) h zDa
  |Mod=>exact Al (P:=H8 G _) h zEa
  |Mult=>exact Al (P:=H8 G _) h zDE
  |_=>exact B0 h
 cmp op f h:=by
  cases op with
  |Lt=>exact Al (P:=Ed G _) h zHw
  |Gt=>exact Al (P:=Ed G _) h zHe
  |LtE=>exact Al (P:=Ed G _) h zGh
  |GtE=>exact Al (P:=Ed G _) h zHK
  |Eq=>exact Al (P:=Ed G _) h zFP
  |NotEq=>exact Al (P:=Ed G _) h zER
  |_=>exact B0 h
 me:=(Y0 zBF (Y0 Zh zDq))
 so F F' h:=Yt (L.lay.bui (by kernel_rfl) (by boot_by_name) (by kernel_rfl)) h
 sl:=zCn (by intros;intros x;intros;kernel_rfl) L.lam (L.lay.bui (by kernel_rfl) (by boot_by_name) (by kernel_rfl))
 xe:=zCt (zIT L).toClOk
 xs:=zCK (zIT L)
theorem W7:SF G 1 182 Bs:=
 E5 (xs:=[sO "_law_script",sO "_law_k"]) (tbl:=[sO "_law_script",sO "_law_k"]) (n:=0) (Cc L.lay (by kernel_rfl) (by kernel_rfl) (Wv (by intros;kernel_rfl))) (by kernel_rfl) (code:=.ref 181) (by kernel_rfl) (qual:=sO "_law_at.<locals>.") (by kernel_rfl) (by decide+kernel) rfl ((D3 (zKs L) 60).s ⟨Cb pw 22,_,_,_,_,_⟩ (D1 pw 22) Qi (by kernel_rfl))
theorem Ol:D5 G T__law_at:=(zKs L).add (L.lay.glob (by kernel_rfl)) (L.lay.fd (by kernel_rfl)) (W7 L)
theorem Ow:SF G 1 213 Cs:=
 E5 (xs:=[sO "_law_cell"]) (tbl:=[sO "_law_cell"]) (n:=0) (Cc L.lay (by kernel_rfl) (by kernel_rfl) (Nb (by intros;kernel_rfl))) (by kernel_rfl) (code:=.ref 212) (by kernel_rfl) (qual:=sO "_law_corner.<locals>.") (by kernel_rfl) (by decide+kernel) rfl ((D3 (Ol L) 60).s ⟨Cb pw 27,_,_,_,_,_⟩ (D1 pw 27) Kn (by kernel_rfl))
theorem J7:D5 G T__law_corner:=(Ol L).add (L.lay.glob (by kernel_rfl)) (L.lay.fd (by kernel_rfl)) (Ow L)
theorem Q7:SF G 1 206 E3:=
 E5 (xs:=[sO "_law_box",sO "_law_number"]) (tbl:=[sO "_law_box",sO "_law_number",sO "_law_more",sO "_law_high",sO "_law_wide",sO "_law_cut",sO "_law_inner",sO "_law_found"]) (n:=0) (Cc L.lay (by kernel_rfl) (by kernel_rfl) (Wv (by intros;kernel_rfl))) (by kernel_rfl) (code:=.ref 205) (by kernel_rfl) (qual:=sO "_law_parts.<locals>.") (by kernel_rfl) (by decide+kernel) rfl ((D3 (J7 L) 60).s ⟨Cb pw 26,_,_,_,_,_⟩ (D1 pw 26) Lw (by kernel_rfl))
theorem Kj:D5 G T__law_parts:=(J7 L).add (L.lay.glob (by kernel_rfl)) (L.lay.fd (by kernel_rfl)) (Q7 L)
theorem Sg:SF G 1 187 Db:=
 E5 (xs:=[sO "_law_number",sO "_law_size_here"]) (tbl:=[sO "_law_number",sO "_law_size_here",sO "_law_some",sO "_law_k"]) (n:=0) (Cc L.lay (by kernel_rfl) (by kernel_rfl) (Wv (by intros;kernel_rfl))) (by kernel_rfl) (code:=.ref 186) (by kernel_rfl) (qual:=sO "_law_line.<locals>.") (by kernel_rfl) (by decide+kernel) rfl ((D3 (Kj L) 60).s ⟨Cb pw 23,_,_,_,_,_⟩ (D1 pw 23) Nf (by kernel_rfl))
theorem Mf:D5 G T__law_line:=(Kj L).add (L.lay.glob (by kernel_rfl)) (L.lay.fd (by kernel_rfl)) (Sg L)
theorem S8:SF G 2 192 Hc:=
 E5 (xs:=[sO "_law_number"]) (tbl:=[sO "_law_number",sO "_law_more",sO "_law_lines",sO "_law_k"]) (n:=1) (Cc L.lay (by kernel_rfl) (by kernel_rfl) (Nb (by intros;kernel_rfl))) (by kernel_rfl) (code:=.ref 191) (by kernel_rfl) (qual:=sO "_law_text.<locals>.") (by kernel_rfl) (by decide+kernel) rfl ((D3 (Mf L) 60).s ⟨Cb pw 24,_,_,_,_,_⟩ (D1 pw 24) Nl (by kernel_rfl))
theorem Mg:D5 G T__law_text:=(Mf L).add (L.lay.glob (by kernel_rfl)) (L.lay.fd (by kernel_rfl)) (S8 L)
theorem Q0:SF G 3 218 Ey:=
 E5 (xs:=[sO "_law_script",sO "_law_rows",sO "_law_columns"]) (tbl:=[sO "_law_script",sO "_law_rows",sO "_law_columns",sO "_law_boxes",sO "_law_k",sO "_law_at_here",sO "_law_box"]) (n:=2) (Cc L.lay (by kernel_rfl) (by kernel_rfl) (Ww (by intros;kernel_rfl))) (by kernel_rfl) (code:=.ref 217) (by kernel_rfl) (qual:=sO "_law_cells.<locals>.") (by kernel_rfl) (by decide+kernel) rfl ((D3 (Mg L) 60).s ⟨Cb pw 28,_,_,_,_,_⟩ (D1 pw 28) Io (by kernel_rfl))
theorem Kt:D5 G T__law_cells:=(Mg L).add (L.lay.glob (by kernel_rfl)) (L.lay.fd (by kernel_rfl)) (Q0 L)
theorem Q5:SF G 1 175 Cg:=
 E5 (xs:=[sO "_law_found"]) (tbl:=[sO "_law_found"]) (n:=0) (Cc L.lay (by kernel_rfl) (by kernel_rfl) (Nb (by intros;kernel_rfl))) (by kernel_rfl) (code:=.ref 174) (by kernel_rfl) (qual:=sO "_law_whole.<locals>.") (by kernel_rfl) (by decide+kernel) rfl ((D3 (Kt L) 60).s ⟨Cb pw 21,_,_,_,_,_⟩ (D1 pw 21) Lv (by kernel_rfl))
theorem Ki:D5 G T__law_whole:=(Kt L).add (L.lay.glob (by kernel_rfl)) (L.lay.fd (by kernel_rfl)) (Q5 L)
theorem Su:SF G 3 232 Fj:=
 E5 (xs:=[sO "_law_cells_here",sO "_law_rows",sO "_law_columns",sO "_law_part_here"]) (tbl:=[sO "_law_cells_here",sO "_law_rows",sO "_law_columns",sO "_law_part_here",sO "_law_number",sO "_law_texts",sO "_law_others",sO "_law_cell",sO "_law_apart"]) (n:=2) (Cc L.lay (by kernel_rfl) (by kernel_rfl) (zAc (by intros;kernel_rfl))) (by kernel_rfl) (code:=.ref 231) (by kernel_rfl) (qual:=sO "_law_due.<locals>.") (by kernel_rfl) (by decide+kernel) rfl ((D3 (Ki L) 60).s ⟨Cb pw 30,_,_,_,_,_⟩ (D1 pw 30) Ik (by kernel_rfl))
theorem Nk:D5 G T__law_due:=(Ki L).add (L.lay.glob (by kernel_rfl)) (L.lay.fd (by kernel_rfl)) (Su L)
theorem Wh:SF G 2 253 E2:=
 E5 (xs:=[sO "_law_found",sO "_law_rows",sO "_law_columns",sO "_law_cells_here"]) (tbl:=[sO "_law_found",sO "_law_rows",sO "_law_columns",sO "_law_cells_here",sO "_law_one",sO "_law_due_here",sO "_law_k"]) (n:=1) (Cc L.lay (by kernel_rfl) (by kernel_rfl) (zAc (by intros;kernel_rfl))) (by kernel_rfl) (code:=.ref 252) (by kernel_rfl) (qual:=sO "_law_is.<locals>.") (by kernel_rfl) (by decide+kernel) rfl ((D3 (Nk L) 60).s ⟨Cb pw 33,_,_,_,_,_⟩ (D1 pw 33) Mr (by kernel_rfl))
theorem Oj:D5 G T__law_is:=(Nk L).add (L.lay.glob (by kernel_rfl)) (L.lay.fd (by kernel_rfl)) (Wh L)
theorem Re:SF G 1 225 Em:=
 E5 (xs:=[sO "_law_cells_here",sO "_law_rows",sO "_law_columns",sO "_law_number"]) (tbl:=[sO "_law_cells_here",sO "_law_rows",sO "_law_columns",sO "_law_number",sO "_law_more",sO "_law_one",sO "_law_other",sO "_law_top",sO "_law_left",sO "_law_high",sO "_law_part_here",sO "_law_at_here",sO "_law_beyond",sO "_law_bad"]) (n:=0) (Cc L.lay (by kernel_rfl) (by kernel_rfl) (zAc (by intros;kernel_rfl))) (by kernel_rfl) (code:=.ref 224) (by kernel_rfl) (qual:=sO "_law_part.<locals>.") (by kernel_rfl) (by decide+kernel) rfl ((D3 (Oj L) 60).s ⟨Cb pw 29,_,_,_,_,_⟩ (D1 pw 29) Je (by kernel_rfl))
theorem M8:D5 G T__law_part:=(Oj L).add (L.lay.glob (by kernel_rfl)) (L.lay.fd (by kernel_rfl)) (Re L)
theorem T5:SF G 3 137 Fo:=
 E5 (xs:=[sO "cells"]) (tbl:=[sO "cells"]) (n:=2) (Cc L.lay (by kernel_rfl) (by kernel_rfl) (Nb (by intros;kernel_rfl))) (by kernel_rfl) (code:=.ref 136) (by kernel_rfl) (qual:=sO "in_order.<locals>.") (by kernel_rfl) (by decide+kernel) rfl ((D3 (M8 L) 60).s ⟨Cb pw 13,_,_,_,_,_⟩ (D1 pw 13) La (by kernel_rfl))
theorem N8:D5 G T_in_order:=(M8 L).add (L.lay.glob (by kernel_rfl)) (L.lay.fd (by kernel_rfl)) (T5 L)
theorem Uk:SF G 1 130 Dg:=
 E5 (xs:=[sO "value"]) (tbl:=[sO "value"]) (n:=0) (Cc L.lay (by kernel_rfl) (by kernel_rfl) (Nb (by intros;kernel_rfl))) (by kernel_rfl) (code:=.ref 129) (by kernel_rfl) (qual:=sO "is_whole.<locals>.") (by kernel_rfl) (by decide+kernel) rfl ((D3 (N8 L) 60).s ⟨Cb pw 12,_,_,_,_,_⟩ (D1 pw 12) Oi (by kernel_rfl))
theorem Ni:D5 G T_is_whole:=(N8 L).add (L.lay.glob (by kernel_rfl)) (L.lay.fd (by kernel_rfl)) (Uk L)
theorem zBA:SF G 2 158 Mh:=
 E5 (xs:=[sO "table",sO "row",sO "column"]) (tbl:=[sO "table",sO "row",sO "column",sO "cell"]) (n:=1) (Cc L.lay (by kernel_rfl) (by kernel_rfl) (Ww (by intros;kernel_rfl))) (by kernel_rfl) (code:=.ref 157) (by kernel_rfl) (qual:=sO "owner.<locals>.") (by kernel_rfl) (by decide+kernel) rfl ((D3 (Ni L) 60).s ⟨Cb pw 16,_,_,_,_,_⟩ (D1 pw 16) Ke (by kernel_rfl))
theorem Sw:D5 G T_owner:=(Ni L).add (L.lay.glob (by kernel_rfl)) (L.lay.fd (by kernel_rfl)) (zBA L)
theorem Q4:SF G 1 151 E4:=
 E5 (xs:=[sO "cell"]) (tbl:=[sO "cell",sO "found",sO "row",sO "column"]) (n:=0) (Cc L.lay (by kernel_rfl) (by kernel_rfl) (Nb (by intros;kernel_rfl))) (by kernel_rfl) (code:=.ref 150) (by kernel_rfl) (qual:=sO "squares_of.<locals>.") (by kernel_rfl) (by decide+kernel) rfl ((D3 (Sw L) 60).s ⟨Cb pw 15,_,_,_,_,_⟩ (D1 pw 15) Iq (by kernel_rfl))
theorem Kr:D5 G T_squares_of:=(Sw L).add (L.lay.glob (by kernel_rfl)) (L.lay.fd (by kernel_rfl)) (Q4 L)
theorem Zo:SF G 4 168 Jo:=
 E5 (xs:=[sO "table",sO "row",sO "column"]) (tbl:=[sO "table",sO "row",sO "column",sO "mine",sO "cells",sO "text",sO "top",sO "left",sO "cell"]) (n:=3) (Cc L.lay (by kernel_rfl) (by kernel_rfl) (Ww (by intros;kernel_rfl))) (by kernel_rfl) (code:=.ref 167) (by kernel_rfl) (qual:=sO "parted.<locals>.") (by kernel_rfl) (by decide+kernel) rfl ((D3 (Kr L) 60).s ⟨Cb pw 19,_,_,_,_,_⟩ (D1 pw 19) Lo (by kernel_rfl))
theorem Qm:D5 G T_parted:=(Kr L).add (L.lay.glob (by kernel_rfl)) (L.lay.fd (by kernel_rfl)) (Zo L)
theorem Mb:SF G 5 246 C5:=
 E5 (xs:=[sO "_law_table",sO "_law_row",sO "_law_column"]) (tbl:=[sO "_law_table",sO "_law_row",sO "_law_column"]) (n:=4) (Cc L.lay (by kernel_rfl) (by kernel_rfl) (Ww (by intros;kernel_rfl))) (by kernel_rfl) (code:=.ref 245) (by kernel_rfl) (qual:=sO "_law_no_square.<locals>.") (by kernel_rfl) (by decide+kernel) rfl ((D3 (Qm L) 60).s ⟨Cb pw 32,_,_,_,_,_⟩ (D1 pw 32) Fh (by kernel_rfl))
theorem Hf:D5 G T__law_no_square:=(Qm L).add (L.lay.glob (by kernel_rfl)) (L.lay.fd (by kernel_rfl)) (Mb L)
theorem V4:SF G 2 144 Hn:=
 E5 (xs:=[sO "rows",sO "columns",sO "top",sO "left",sO "high",sO "wide"]) (tbl:=[sO "rows",sO "columns",sO "top",sO "left",sO "high",sO "wide",sO "value"]) (n:=1) (Cc L.lay (by kernel_rfl) (by kernel_rfl) (zJ2 (by intros;kernel_rfl))) (by kernel_rfl) (code:=.ref 143) (by kernel_rfl) (qual:=sO "lies_in.<locals>.") (by kernel_rfl) (by decide+kernel) rfl ((D3 (Hf L) 60).s ⟨Cb pw 14,_,_,_,_,_⟩ (D1 pw 14) N6 (by kernel_rfl))
theorem P9:D5 G T_lies_in:=(Hf L).add (L.lay.glob (by kernel_rfl)) (L.lay.fd (by kernel_rfl)) (V4 L)
theorem Y8:SF G 4 163 Dt:=
 E5 (xs:=[sO "table",sO "top",sO "left",sO "high",sO "wide"]) (tbl:=[sO "table",sO "top",sO "left",sO "high",sO "wide",sO "inner",sO "outer",sO "cell",sO "many",sO "row",sO "column",sO "text"]) (n:=3) (Cc L.lay (by kernel_rfl) (by kernel_rfl) (zFX (by intros;kernel_rfl))) (by kernel_rfl) (code:=.ref 162) (by kernel_rfl) (qual:=sO "joined.<locals>.") (by kernel_rfl) (by decide+kernel) rfl ((D3 (P9 L) 60).s ⟨Cb pw 18,_,_,_,_,_⟩ (D1 pw 18) Ht (by kernel_rfl))
theorem Qr:D5 G T_joined:=(P9 L).add (L.lay.glob (by kernel_rfl)) (L.lay.fd (by kernel_rfl)) (Y8 L)
theorem Kg:SF G 6 260 Cv:=
 E5 (xs:=[sO "_law_table",sO "_law_rows",sO "_law_columns",sO "_law_cells_here",sO "_law_number"]) (tbl:=[sO "_law_table",sO "_law_rows",sO "_law_columns",sO "_law_cells_here",sO "_law_number",sO "_law_row",sO "_law_column",sO "_law_bad",sO "_law_due_here",sO "_law_whole_here",sO "_law_cell",sO "_law_k",sO "_law_found",sO "_law_again"]) (n:=5) (Cc L.lay (by kernel_rfl) (by kernel_rfl) (zFX (by intros;kernel_rfl))) (by kernel_rfl) (code:=.ref 259) (by kernel_rfl) (qual:=sO "_law_parted_well.<locals>.") (by kernel_rfl) (by decide+kernel) rfl ((D3 (Qr L) 60).s ⟨Cb pw 34,_,_,_,_,_⟩ (D1 pw 34) Eh (by kernel_rfl))
theorem Ga:D5 G T__law_parted_well:=(Qr L).add (L.lay.glob (by kernel_rfl)) (L.lay.fd (by kernel_rfl)) (Kg L)
theorem Rz:SF G 1 199 Dv:=
 E5 (xs:=[sO "_law_number"]) (tbl:=[sO "_law_number"]) (n:=0) (Cc L.lay (by kernel_rfl) (by kernel_rfl) (Nb (by intros;kernel_rfl))) (by kernel_rfl) (code:=.ref 198) (by kernel_rfl) (qual:=sO "_law_size.<locals>.") (by kernel_rfl) (by decide+kernel) rfl ((D3 (Ga L) 60).s ⟨Cb pw 25,_,_,_,_,_⟩ (D1 pw 25) Nt (by kernel_rfl))
theorem M7:D5 G T__law_size:=(Ga L).add (L.lay.glob (by kernel_rfl)) (L.lay.fd (by kernel_rfl)) (Rz L)
theorem Q8:SF G 5 239 Dh:=
 E5 (xs:=[sO "_law_table",sO "_law_part_here"]) (tbl:=[sO "_law_table",sO "_law_part_here",sO "e",sO "_law_found"]) (n:=4) (Cc L.lay (by kernel_rfl) (by kernel_rfl) (Wv (by intros;kernel_rfl))) (by kernel_rfl) (code:=.ref 238) (by kernel_rfl) (qual:=sO "_law_tried.<locals>.") (by kernel_rfl) (by decide+kernel) rfl ((D3 (M7 L) 60).s ⟨Cb pw 31,_,_,_,_,_⟩ (D1 pw 31) Gg (by kernel_rfl))
theorem Px:D5 G Rv:=(M7 L).add (L.lay.glob (by kernel_rfl)) (L.lay.fd (by kernel_rfl)) (Q8 L)
theorem zGW:SF G 7 267 zBb:=
 E5 (xs:=[sO "_law_script"]) (tbl:=[sO "_law_script",sO "_law_rows",sO "_law_columns",sO "_law_cells_here",sO "_law_table",sO "_law_part_here",sO "_law_due_here",sO "_law_found"]) (n:=6) (Cc L.lay (by kernel_rfl) (by kernel_rfl) (Nb (by intros;kernel_rfl))) (by kernel_rfl) (code:=.ref 266) (by kernel_rfl) (qual:=sO "law.<locals>.") (by kernel_rfl) (by decide+kernel) rfl ((D3 (Px L) 60).s ⟨Cb pw 35,_,_,_,_,_⟩ (D1 pw 35) zBk (by kernel_rfl))
end
end
section
open Builtin.Str
noncomputable abbrev D0 (R C:Int) (k:Nat):D:=.tup [.int R,.int C,.ref k]
noncomputable def Po:Str:=sO " !\"#$&'()*+,-./0123456789:;<=>?@ABCDEFGHIJKLMNOPQRSTUVWXYZ[\\]^_`"++sO "abcdefghijklmnopqrstuvwxyz{|}~"
theorem L4:Po.length=94:=by decide+kernel
noncomputable def plain (c:Nat):Bool:=decide (32<=c)&&decide (c<=126)
theorem Yr:(cl Po).all plain=true:=by decide+kernel
theorem zJE:(sO " !\"#$&'()*+,-./0123456789:;<=>?@ABCDEFGHIJKLMNOPQRSTUVWXYZ[\\]^_`").length=64:=by decide+kernel
theorem zI5:(sO "abcdefghijklmnopqrstuvwxyz{|}~").length=30:=by decide+kernel
theorem Vi(x y:Str):∃j,cl (Txt.rstripChars x y)=(cl x).take j:=by
 obtain⟨j,hj,e⟩:=rstripChars_is_prefix x y;refine⟨j,?_⟩
 rw[e];simp[cl,strSub]
theorem Gc{a b:Int}{S:St}(h:(Fs a||Fs b)=true):Ep (.int a) (.int b) S=.ok (.int (a*b)) S:=C6 h
theorem Pb{x y:Str}{S:St}(h:x.length+y.length<=sizeLine):Au (.str x) (.str y) S=.ok (.str (x++y)) S:=C6 h
theorem Xw:∀(zs:List Str),(∀y,y∈zs->∃c,y=⟨#[c]⟩/\plain c=true)->(zs.map cl).flatten.all plain=true/\(zs.map cl).flatten.length=zs.length
 |[],_=>⟨rfl,rfl⟩
 |z::r,h=>by
  obtain⟨c,rfl,hc⟩:=h z lq1;obtain⟨i1,i2⟩:=Xw r (λy m=>h y (lq4 _ m))
  rw[List.map_cons,List.flatten_cons];refine⟨?_,?_⟩
  ·simp only[List.all_append,i1,Bool.and_true];show(plain c&&true)=true
   rw[hc];rfl
  ·rw[lq7,i2,List.length_cons,Nat.add_comm];rfl
theorem Wl{xs ds:List D}{V:Str->Prop}(r:C2 (λx d=>∃y,x=D.str y/\V y) xs ds):∃ys:List Str,xs=ys.map D.str/\ys.length=ds.length/\∀y,y∈ys->V y:=by
 induction r with
 |nil=>exact⟨[],rfl,rfl,λy m=>absurd m List.not_mem_nil⟩
 |cons h _ ih=>
  obtain⟨y,rfl,v⟩:=h;obtain⟨ys,rfl,hl,hv⟩:=ih;refine⟨y::ys,rfl,by rw[List.length_cons,hl];rfl,λz m=>?_⟩
  rcases List.mem_cons.mp m with rfl|m
  ·exact v
  ·exact hv z m
theorem zBZ{ys:List Str}{size:Int}(h1:size<=300) (hys:∀y,y∈ys->∃c,y=⟨#[c]⟩/\plain c=true) (hlen:(ys.length:Int)<=size):
  JoinOk (Str.ofString "") ys=true∧(Str.join (Str.ofString "") ys).length≤sizeLine∧(cl (Txt.rstripChars (Str.join (Str.ofString "") ys) (sO " "))).all plain=true∧((Txt.rstripChars (Str.join (Str.ofString "") ys) (sO " ")).length:Int)≤size:=by
 have hsl:(1000:Nat)<=sizeLine:=by decide
 have hf:cl (Str.join (Str.ofString "") ys)=(ys.map cl).flatten:=by rw[zCJ];exact Tr ys
 obtain⟨i1,i2⟩:=Xw ys hys;have hjl:(Str.join (Str.ofString "") ys).length=ys.length:=by rw[←Ck,hf,i2]
 obtain⟨t,ht⟩:=Vi (Str.join (Str.ofString "") ys) (sO " ")
 refine⟨Jx (B:=1) (λy m=>?_) ?_,by exact Gk (Am λZ=>A4 [_,_,_,_] [A7 x0 x1,A5 x2 (.n 300),A5 x3 x2,A5 (.n 1000) x0,B9 x1 x3] rT Z h1 hlen (Nw hsl) (zCc hjl)),?_,?_⟩
 ·obtain⟨c,rfl,_⟩:=hys y m;exact Nat.le_refl 1
 ·show ys.length*1+ys.length*0<=_
  omega
 ·rw[ht,hf];exact List.all_eq_true.mpr λc mc=>List.all_eq_true.mp i1 c (List.mem_of_mem_take mc)
 ·rw[←Ck,ht,List.length_take,Ck];omega
noncomputable def Kv (c:Nat):Bool:=c==10||plain c
theorem Pm{l:List Nat}(h:l.all plain=true):l.all Kv=true:=by
 rw[List.all_eq_true]at h ⊢;intro c m;unfold Kv;simp only[h c m,Bool.or_true]
theorem zEI(x y:Str):(x++y).length=x.length+y.length:=by
 rw[←Ck,Fn,lq7,Ck,Ck]
theorem S6{k:Nat}{i:Int}{ds:List D}{S:St}(hk:S.sto[k]? =some (.list ds)) (h0:0<=i) (h1:i<ds.length) (h2:ds.length<=2 ^ 62):Co (.ref k) (.int i) S=.ok (ds[i.toNat]'(by exact Iy (C4 λZ=>A4 [_,_,_] [A5 x0 x1,A7 x2 x0,B9 x1 x2] rT Z h1 (Cf (Am λY=>A4 [_] [A7 x0 (.n 0),A5 (.n 0) x0] rT Y h0))))) S:=
 Bb ((zCd h0 hk h1 h2).mpr ⟨rfl,rfl⟩)
theorem Mx{p:Nat->Bool}{c:Nat}(hc:p c=true):∀(as:List (List Nat)),(∀a,a∈as->a.all p=true)->(D6 c as).all p=true
 |[],_=>rfl
 |[a],h=>h a lq1
 |a::b::r,h=>by
  have:=Mx hc (b::r) λx m=>h x (lq4 _ m)
  simp only[Ib,Id,Ir,List.all_append,List.all_cons,hc,this,h a lq1,Bool.and_self]
theorem zDk{ps:List Str}(hp:∀p,p∈ps->(cl p).all plain=true/\p.length<=10) (hl:ps.length<=60):
  JoinOk ⟨#[10]⟩ ps=true∧(Str.join ⟨#[10]⟩ ps).length+(sO ".").length≤sizeLine∧(cl (Str.join ⟨#[10]⟩ ps++sO ".")).all Kv=true∧(Str.join ⟨#[10]⟩ ps++sO ".").length≤1000:=by
 have hsl:(2000:Nat)<=sizeLine:=by decide
 have l1:(sO ".").length=1:=rfl
 have hjl:(Str.join ⟨#[10]⟩ ps).length<=660:=by
  rw[←Ck,Ij];refine Nat.le_trans (Gf 10 (B:=10) (ps.map cl) (λa m=>?_)) ?_
  ·obtain⟨p,mp,rfl⟩:=List.mem_map.mp m;rw[Ck];exact(hp p mp).2
  ·rw[lq6];omega
 refine⟨Jx (B:=10) (λy m=>(hp y m).2) (by show ps.length*10+ps.length*1<=_;omega),by exact Aw λZ=>A8 [_,_,_] [A7 x0 (.a x2 x1),A5 (.n 2000) x0,B9 x1 (.n 1),A5 x2 (.n 660)] rT Z hsl l1 hjl,?_,by rw[zEI];exact Aw λZ=>A8 [_,_] [A7 (.n 1000) (.a x1 x0),B9 x0 (.n 1),A5 x1 (.n 660)] rT Z l1 hjl⟩
 rw[Fn,List.all_append,Ij];refine Bool.and_eq_true_iff.mpr ⟨Mx rfl _ λa m=>?_,rfl⟩
 obtain⟨p,mp,rfl⟩:=List.mem_map.mp m;exact Pm (hp p mp).1
theorem Ve{n size:Int}{st:St}{Q:D->St->Prop}(h0:0<=size) (h1:size<=300) (hQ:∀x j,(cl x).all plain=true->(x.length:Int)<=size->(cl x).getLast?≠some 32->Q (.str x) ⟨st.loc,st.sto++j⟩):W (Db [.int n,.int size]) st Q:=by
 have hsl:(1000:Nat)<=sizeLine:=by decide
 refine Cq rfl ?_
 refine Bi (st1:=⟨upd (Cj Bh [0,1] [.int n,.int size]) 2 (.str _),st.sto⟩) rfl (Bi (run_set (Ab rfl rfl (Pb (by rw[zJE,zI5];exact Aw λZ=>A8 [_] [A7 x0 (.a (.n 64) (.n 30)),A5 (.n 1000) x0] rT Z hsl)))) (Ag ?_))
 refine Af.mpr (Af.mpr (Af.mpr (A9 rfl (Af.mpr (Af.mpr (Af.mpr (A9 (Aa rfl (Bb (Jk.mpr ⟨E1.mpr ⟨by exact Am λZ=>A4 [_] [A7 x0 (.s (.n 0) (.n 1099511627776)),A5 (.n 0) x0] rT Z h0,by exact C4 λZ=>A4 [_] [A5 (.n 1099511627776) x0,A5 x0 (.n 300)] rT Z h1⟩,rfl,rfl⟩))) ?_)))))))
 refine Lj (λ_=>true) (λ_ x _=>∃y,x=.str y/\∃c,y=⟨#[c]⟩/\plain c=true) (λl=>l 2=some (.str Po)/\l 0=some (.int n)) (by show(G6 _ _ _).length<=sizeLine;rw[Ja];exact Gk (Am λZ=>A4 [_,_,_] [A7 x0 x1,A5 x2 (.n 300),A5 (.n 1000) x0,B9 x1 x2] rT Z h1 (Nw hsl) (Cf (Am λY=>A4 [_] [A7 x0 (.n 0),A5 (.n 0) x0] rT Y h0)))) (λ_ _ _ _ _ h=>h) (λ_ _=>trivial) ⟨rfl,rfl⟩ (λd hd l σ' hA hx=>?_) λxs σ' hx r=>?_
 ·obtain⟨j,hj,rfl⟩:=Lx hd;have hr:=Ba (a:=n+(0+(j:Int)*1)*(1+(n.fdiv 94).fmod 93)) (b:=94) (by decide);refine⟨upd l 3 _,rfl,hA,A9 rfl ⟨rfl,rfl,.refl _,λ_=>No (A9 (Bf (i:=2) hA.1) (A9 (Ab (Ab (Bf (i:=0) hA.2) (Ab rfl (Ab rfl (Ab (Ab (Bf (i:=0) hA.2) rfl rfl) rfl rfl) rfl) (Gc (by rw[Dx (by omega) (by omega)];rfl))) rfl) rfl rfl) ?_))⟩⟩
  refine(zHx hr.1 (by rw[L4];exact hr.2) (by rw[L4];decide)).mpr ⟨rfl,.refl _,_,rfl,_,rfl,?_⟩
  exact List.all_eq_true.mp Yr _ (Array.getElem_mem_toList (xs:=Po.cps) (i:=(n+(0+(j:Int)*1)*(1+(n.fdiv 94).fmod 93)).fmod 94 |>.toNat) (by show _<Po.length;rw[L4];exact Iy (C4 λZ=>A4 [_,_] [A5 (.n 94) x0,A7 x1 (.n 94),B9 x0 x1] rT Z hr.2 (Cf (Am λY=>A4 [_] [A7 x0 (.n 0),A5 (.n 0) x0] rT Y hr.1)))))
 ·simp only[Lb]at r;obtain⟨ys,rfl,hl,hys⟩:=Wl r;rw[Ja]at hl;apply yo;intro _ k0
  obtain⟨j1,j2,j3,j4⟩:=zBZ (size:=size) h1 hys (by exact Am λZ=>A4 [_,_,_] [A7 x0 x1,B9 x1 x2,B9 x2 x0] rT Z (zCc hl) (Cf (Am λY=>A4 [_] [A7 x0 (.n 0),A5 (.n 0) x0] rT Y h0)))
  obtain⟨j,rfl⟩:=hx;apply k0
  refine A9 rfl (Rj.mpr ⟨_,ys,lq3,Ii ys,j1,A9 (Aa rfl (C6 j2)) (A9 rfl ?_)⟩)
  have:=hQ _ (j++[.list (ys.map D.str)]) j3 j4 (U3 _)
  rw[←lq8]at this;exact this
theorem Xd{msrc:Mn Ix}{margs:Mn (List D)}{N:Nat}{loc:C3}{σ:Bm}{more:Int}{B:Nat}(hB:B<=10) (hNB:N*(B+1)<=190) (hN1:1<=N){Q:Fl->St->Prop}(hsrc:msrc ⟨loc,σ⟩=.ok ⟨G6 0 1 N,λ_=>True⟩ ⟨loc,σ⟩) (hN:N<=60) (h1:loc 1=some (.int more))
  (hargs:∀(l:C3) (σ':Bm) (i:Int),l 1=some (.int more)->∃a b,margs ⟨upd l 3 (.int i),σ'⟩=.ok [.int a,.int b] ⟨upd l 3 (.int i),σ'⟩/\0<=b/\b<=B)
  (hQ:∀x l j,(cl x).all Kv=true->x.length<=1000->M2 (cl x)=true->Q (.ret (.str x)) ⟨l,σ++j⟩):
  W (Ad (bnd (bnd msrc (Dq [3] (Ca 3) (ret1 true) (bnd margs Db))) (Aj 2)) (Ad (Bt (Ac Au (bnd (ret1 (.str (sO "\n"))) (Hy λx=>bnd (A0 (A6 2) Ah) (Eo x))) (ret1 (.str (sO "."))))) (ret1 .next))) ⟨loc,σ⟩ Q:=by
 have hsl:(1000:Nat)<=sizeLine:=by decide
 refine Ag (Af.mpr (Af.mpr (A9 hsrc ?_)))
 refine Lj (λ_=>true) (λ_ x _=>∃y,x=.str y/\((cl y).all plain=true/\y.length<=B/\(cl y).getLast?≠some 32)) (λl=>l 1=some (.int more)) (by show(G6 _ _ _).length<=_;rw[Ja];exact Aw λZ=>A8 [_,_] [A7 x1 x0,A5 x0 (.n 60),A5 (.n 1000) x1] rT Z hN hsl) (λ_ _ _ _ _ h=>h) (λ_ _=>trivial) h1 (λd hd l σ' hA hx=>?_) λxs σ₁ hx r=>?_
 ·apply yo;intro _ k0
  obtain⟨i,_,rfl⟩:=Lx hd;obtain⟨a,b,e,b0,b1⟩:=hargs l σ' (0+(i:Int)*1) hA
  apply k0
  exact⟨upd l 3 _,rfl,hA,A9 rfl ⟨rfl,rfl,.refl _,λ_=>Af.mpr (A9 e (Ve b0 (by exact Am λZ=>A4 [_,_] [A7 (.n 300) x0,A5 x0 x1,A5 x1 (.n 10)] rT Z b1 (Nw hB)) λx jj h1 h2 h3=>⟨rfl,.app _ _,x,rfl,h1,by exact Gk (Am λZ=>A4 [_,_,_] [A7 x0 x1,A5 x2 x0,A5 x1 x2] rT Z b1 h2),h3⟩))⟩⟩
 ·simp only[Lb]at r;obtain⟨ps,rfl,hl,hps⟩:=Wl r;simp only[Ja]at hl;obtain⟨g1,g2,g3,g4⟩:=zDk (λp m=>⟨(hps p m).1,Nat.le_trans (hps p m).2.1 hB⟩) (by exact Aw λZ=>A8 [_,_] [A7 (.n 60) x0,A5 x1 (.n 60),B9 x0 x1] rT Z hN hl)
  have gg:M2 (cl (Str.join ⟨#[10]⟩ ps++sO "."))=true:=by
   rw[Fn,Ij];refine zAX (as:=ps.map cl) (λz=>?_) (λa m=>?_) ?_
   ·have:=congrArg List.length z
    rw[lq6,hl]at this;exact absurd this (by exactλZ=>A8 [_] [B9 x0 (.n 0),A5 (.n 1) x0] rT Z hN1)
   ·obtain⟨p,mp,rfl⟩:=List.mem_map.mp m;exact⟨(hps p mp).1,(hps p mp).2.2⟩
   ·have:=Gf 10 (B:=B) (ps.map cl) λa m=>by
     obtain⟨p,mp,rfl⟩:=List.mem_map.mp m;rw[Ck];exact(hps p mp).2.1
    rw[lq6,hl]at this;exact Aw λZ=>A8 [_,_] [A7 (.n 200) (.a x0 (.n 1)),A5 x1 (.n 190),A5 x0 x1] rT Z hNB this
  obtain⟨j,rfl⟩:=hx;refine A9 rfl (Ag (Af.mpr (No (Af.mpr (A9 rfl (Af.mpr (A9 rfl (Rj.mpr ⟨_,ps,lq3,Ii ps,g1,A9 rfl (A9 (Pb g2) (A9 rfl ?_))⟩))))))))
  have:=hQ _ (upd loc 2 (.ref (σ++j).length)) (j++[.list (ps.map D.str)]) g3 g4 gg
  rw[←lq8]at this;exact this
theorem zHG{n:Int}{st:St}{Q:D->St->Prop}(hQ:∀x j,(cl x).all Kv=true->x.length<=1000->M2 (cl x)=true->Q (.str x) ⟨st.loc,st.sto++j⟩):W (Hc [.int n]) st Q:=by
 refine Cq rfl ?_
 refine Bi (st1:=⟨upd (Cj Bh [0] [.int n]) 1 (.int (n.fdiv 16)),st.sto⟩) rfl ?_
 generalize n.fdiv 16=more
 refine Is (b:=n.fmod 4==1) rfl (λ_=>?_) λ_=>A9 rfl (Is (b:=n.fmod 16==14) rfl (λ_=>?_) λ_=>A9 rfl (Is (b:=n.fmod 4==2) rfl (λ_=>?_) λ_=>A9 rfl ?_))
 ·have hm:=Ba (a:=more) (b:=200) (by decide);exact Ag (Af.mpr (Af.mpr (A9 rfl (Ve hm.1 (by exact Am λZ=>A4 [_] [A7 (.n 300) x0,A7 x0 (.n 200)] rT Z hm.2) λx j h1 h2 h3=>A9 rfl (hQ x j (Pm h1) (by exact Gk (Am λZ=>A4 [_,_] [A7 (.n 1000) x0,A7 x1 (.n 200),A5 x0 x1] rT Z hm.2 h2)) (Rb ⟨h1,h3⟩ (by rw[Ck];exact Gk (Am λZ=>A4 [_,_] [A7 (.n 200) x0,A7 x1 (.n 200),A5 x0 x1] rT Z hm.2 h2))))))))
 ·have hm:=Ba (a:=more) (b:=60) (by decide);refine Xd (B:=2) (by exact Aw λZ=>A8 [] [A7 (.n 10) (.n 2)] rT Z) (by omega) (by exact Gk (Am λZ=>A4 [_,_] [A7 x0 (.n 1),A5 (.n 0) x1,A5 (.a (.n 1) x1) x0] rT Z hm.1 (H7 _))) (more:=more) (N:=(1+more.fmod 60).toNat) (Aa rfl (Bb (Jk.mpr ⟨E1.mpr ⟨by exact Am λZ=>A4 [_] [A7 (.a (.n 1) x0) (.s (.n 0) (.n 1099511627776)),A5 (.n 0) x0] rT Z hm.1,by exact C4 λZ=>A4 [_] [A5 (.n 1099511627776) (.a (.n 1) x0),A7 x0 (.n 60)] rT Z hm.2⟩,rfl,rfl⟩))) (by exact Gk (Am λZ=>A4 [_,_] [A7 (.n 60) x0,A7 x1 (.n 60),B9 x0 (.a (.n 1) x1)] rT Z hm.2 (Cf (Am λY=>A4 [_] [A7 (.a (.n 1) x0) (.n 0),A5 (.n 0) x0] rT Y hm.1)))) rfl (λl σ' i hA=>?_) λx l j h1 h2 h3=>hQ x j h1 h2 h3
  have hm3:=Ba (a:=more+i) (b:=3) (by decide);exact⟨_,_,Aa (Ab (Ab (Bf (i:=1) hA) rfl rfl) (Ab rfl rfl (Gc (by rw[Dx (by decide) (by decide)];rfl))) rfl) (Aa (Aa (Ab (Ab (Bf (i:=1) hA) rfl rfl) rfl rfl) rfl) rfl),hm3.1,by exact Am λZ=>A4 [_] [A7 (.n 2) x0,A7 x0 (.n 3)] rT Z hm3.2⟩
 ·have hm:=Ba (a:=more) (b:=6) (by decide);refine Xd (B:=8) (by exact Aw λZ=>A8 [] [A7 (.n 10) (.n 8)] rT Z) (by omega) (by exact Gk (Am λZ=>A4 [_,_] [A7 x0 (.n 1),A5 (.n 0) x1,A5 (.a (.n 1) x1) x0] rT Z hm.1 (H7 _))) (more:=more) (N:=(1+more.fmod 6).toNat) (Aa rfl (Bb (Jk.mpr ⟨E1.mpr ⟨by exact Am λZ=>A4 [_] [A7 (.a (.n 1) x0) (.s (.n 0) (.n 1099511627776)),A5 (.n 0) x0] rT Z hm.1,by exact C4 λZ=>A4 [_] [A5 (.n 1099511627776) (.a (.n 1) x0),A7 x0 (.n 6)] rT Z hm.2⟩,rfl,rfl⟩))) (by exact Gk (Am λZ=>A4 [_,_] [A7 (.n 60) x0,A7 x1 (.n 6),B9 x0 (.a (.n 1) x1)] rT Z hm.2 (Cf (Am λY=>A4 [_] [A7 (.a (.n 1) x0) (.n 0),A5 (.n 0) x0] rT Y hm.1)))) rfl (λl σ' i hA=>?_) λx l j h1 h2 h3=>hQ x j h1 h2 h3
  have hm3:=Ba (a:=more.fdiv 4+2*i) (b:=5) (by decide);exact⟨_,_,Aa (Ab (Ab (Bf (i:=1) hA) rfl rfl) (Ab rfl rfl (Gc (by rw[Dx (by decide) (by decide)];rfl))) rfl) (Aa (Aa (Ab (Ab (Ab (Bf (i:=1) hA) rfl rfl) (Ab rfl rfl (Gc (by rw[Dx (by decide) (by decide)];rfl))) rfl) rfl rfl) rfl) rfl),hm3.1,by exact Am λZ=>A4 [_] [A7 (.n 8) x0,A7 x0 (.n 5)] rT Z hm3.2⟩
 ·have hm:=Ba (a:=more) (b:=9) (by decide);obtain⟨u,hu,hue⟩:∃u:Int,(u=0∨u=1)/\(if(n.fmod 4==3)=true then(1:Int)else 0)=u:=by
   by_cases h:(n.fmod 4==3)=true
   ·exact⟨1,.inr rfl,if_pos h⟩
   ·exact⟨0,.inl rfl,if_neg h⟩
  have hmul:0<=more.fmod 9*u/\more.fmod 9*u<=9:=by
   rcases hu with e|e<;>rw[e]<;>omega
  have eu:(bnd (A0 (Ac Ex (Ac Cm (A6 0) (ret1 (.int 4))) (ret1 (.int 3))) Ah) Ei) ⟨upd (Cj Bh [0] [.int n]) 1 (.int more),st.sto⟩=.ok (.int u) ⟨upd (Cj Bh [0] [.int n]) 1 (.int more),st.sto⟩:=by rw[←hue];rfl
  refine Ag (Af.mpr (Af.mpr (A9 (Aa rfl (Aa (Aa (Ab rfl eu (Gc (a:=more.fmod 9) (b:=u) (by rw[Dx (by exact C4 λZ=>A4 [_] [A5 x0 (.s (.n 0) (.n 1000000)),A5 (.n 0) x0] rT Z hm.1) (by exact C4 λZ=>A4 [_] [A5 (.n 1000000) x0,A7 x0 (.n 9)] rT Z hm.2)];rfl))) rfl) rfl)) (Ve hmul.1 (by exact Am λZ=>A4 [_] [A7 (.n 300) x0,A5 x0 (.n 9)] rT Z hmul.2) λx j h1 h2 h3=>A9 rfl (hQ x j (Pm h1) (by exact Gk (Am λZ=>A4 [_,_] [A7 (.n 1000) x0,A5 x1 (.n 9),A5 x0 x1] rT Z hmul.2 h2)) (Rb ⟨h1,h3⟩ (by rw[Ck];exact Gk (Am λZ=>A4 [_,_] [A7 (.n 200) x0,A5 x1 (.n 9),A5 x0 x1] rT Z hmul.2 h2))))))))
theorem zDZ{ns:List Int}{k:Int}{st:St}{Q:D->St->Prop}(h0:0<=k) (hk:k<2 ^ 63) (hl:ns.length<2 ^ 62) (hQ:Q (.int (ns.getD k.toNat 0)) st):W (Bs [.scr ns,.int k]) st Q:=by
 refine Cq rfl (Is (b:=decide (k<ns.length)) (Bd rfl (Aa rfl (C6 hl)) rfl rfl) (λh=>?_) λh=>?_)
 ·have h:=of_decide_eq_true h;have hlt:k.toNat<ns.length:=by exact Iy (C4 λZ=>A4 [_,_,_] [A5 x0 x1,A7 x2 x0,B9 x1 x2] rT Z h (Cf (Am λY=>A4 [_] [A7 x0 (.n 0),A5 (.n 0) x0] rT Y h0)))
  rw[List.getD_eq_getElem?_getD,List.getElem?_eq_getElem hlt]at hQ;exact Ag (Af.mpr (No (A9 rfl (A9 rfl (zAn.mpr ⟨⟨h0,hk⟩,_,List.getElem?_eq_getElem hlt,A9 rfl hQ⟩)))))
 ·have h:=of_decide_eq_false h;rw[List.getD_eq_getElem?_getD,List.getElem?_eq_none (by exact Gk (Am λZ=>A4 [_,_,_] [A7 x1 x0,A5 x0 x2,A5 x2 x1] rT Z (Int.not_lt.mp h) (H7 _)))]at hQ
  exact A9 rfl (Bv rfl hQ)
theorem zBh{n:Int}{st:St}{Q:D->St->Prop}(hQ:∀m,1<=m->m<=20->Q (.int m) st):W (Dv [.int n]) st Q:=by
 refine Cq rfl (Is (b:=n.fmod 3==1) rfl (λ_=>?_) λ_=>?_)
 ·have:=Ba (a:=n.fdiv 9) (b:=20) (by decide)
  exact Bv rfl (hQ _ (by exact Am λZ=>A4 [_] [A7 (.a (.n 1) x0) (.n 1),A5 (.n 0) x0] rT Z this.1) (by exact Am λZ=>A4 [_] [A7 (.n 20) (.a (.n 1) x0),A7 x0 (.n 20)] rT Z this.2))
 ·have:=Ba (a:=n.fdiv 9) (b:=5) (by decide)
  exact A9 rfl (Bv rfl (hQ _ (by exact Am λZ=>A4 [_] [A7 (.a (.n 1) x0) (.n 1),A5 (.n 0) x0] rT Z this.1) (by exact Am λZ=>A4 [_] [A7 (.n 20) (.a (.n 1) x0),A7 x0 (.n 5)] rT Z this.2)))
noncomputable def J1 (b:Bx):D:=.tup [.int b.t,.int b.l,.int b.h,.int b.w]
noncomputable def Q6 (b:Bx) (n:Int):C3:=upd (upd (upd (Cj Bh [0,1] [J1 b,.int n]) 2 (.int (n.fdiv 4))) 3 (.int (b.h - 1))) 4 (.int (b.w - 1))
theorem Xv{S:St}{i j k:Nat}{m d:Int}(h1:S.loc i=some (.int m)) (h2:S.loc j=some (.int d)) (hd:d≠0):
  bnd (Ac Au (ret1 (.int 1)) (Ac Cm (A6 i) (A6 j))) (Aj k) S=.ok .next ⟨upd S.loc k (.int (1+m.fmod d)),S.sto⟩:=by
 have e1:A6 i S=.ok (.int m) S:=by unfold A6;rw[h1]
 have e2:A6 j S=.ok (.int d) S:=by unfold A6;rw[h2]
 have e3:Cm (.int m) (.int d) S=.ok (.int (m.fmod d)) S:=C6 hd
 simp only[bnd,Ac,e1,e2,e3,ret1];rfl
theorem Tw{S:St}{i:Nat}{xs ys:List D}{σ:Bm}{loc:C3}{ms:Mn D}{Q:Fl->St->Prop}(hS:S=⟨loc,σ++[.list xs]⟩) (hl:loc i=some (.ref σ.length)) (hy:ms S=.ok (.ref (σ++[PO.list xs]).length) ⟨loc,σ++[.list xs]++[.list ys]⟩) (hz:Nat.ble (xs.length+ys.length) sizeLine=true)
  (h:Q (.ret (.ref (σ++[PO.list xs]++[PO.list ys]).length)) ⟨loc,σ++[.list xs]++[.list ys]++[.list (xs++ys)]⟩):W (Bt (Ac Au (A6 i) ms)) S Q:=by
 subst hS;have e1:A6 i ⟨loc,σ++[.list xs]⟩=.ok (.ref σ.length) ⟨loc,σ++[.list xs]⟩:=by unfold A6;dsimp only;rw[hl]
 have e2:(σ++[PO.list xs]++[PO.list ys])[σ.length]? =some (.list xs):=by simp
 have e3:(σ++[PO.list xs]++[PO.list ys])[(σ++[PO.list xs]).length]? =some (.list ys):=by rw[List.getElem?_append_right (Nat.le_refl _),Nat.sub_self];rfl
 exact Af.mpr (Af.mpr ⟨_,_,e1,Af.mpr ⟨_,_,hy,Qy.mpr ⟨xs,ys,e2,e3,Nat.le_of_ble_eq_true hz,Ds.mpr h⟩⟩⟩)
theorem zAa{a b:Int}(h:a≠b):(a==b)=false:=beq_false_of_ne h
theorem zEb{R C:Int}{b:Bx}(g:b.Good R C){n:Int}{st:St}{Q:D->St->Prop}(hQ:∀ps j,Jc R C b ps->1<=ps.length->ps.length<=5->Q (.ref (st.sto++j).length) ⟨st.loc,st.sto++j++[.list (ps.map J1)]⟩):W (E3 [J1 b,.int n]) st Q:=by
 have hg:=g;have q0:∀ps:List Bx,Jc R C b ps->1<=ps.length->ps.length<=5->Q (.ref st.sto.length) ⟨st.loc,st.sto++[.list (ps.map J1)]⟩:=λps h1 h2 h3=>by simpa using hQ ps [] h1 h2 h3
 have q2:∀(ps:List Bx) (x y:PO),Jc R C b ps->1<=ps.length->ps.length<=5->Q (.ref (st.sto++[x]++[y]).length) ⟨st.loc,st.sto++[x]++[y]++[.list (ps.map J1)]⟩:=λps x y h1 h2 h3=>by simpa using hQ ps [x,y] h1 h2 h3
 have last:Q (.ref st.sto.length) ⟨st.loc,st.sto++[.list [J1 b]]⟩:=q0 [b] (Za g) (Nat.le_refl 1) (by simp)
 have hm:=Ba (a:=n) (b:=4) (by decide);refine Cq rfl ?_
 refine Bi (st1:=⟨_,st.sto⟩) rfl (Bi (st1:=⟨_,st.sto⟩) rfl (Bi (st1:=⟨Q6 b n,st.sto⟩) rfl (Ag ?_)))
 have skip:∀{k:Mn Fl}{Q':Fl->St->Prop},W k ⟨Q6 b n,st.sto⟩ Q'->W (ret1 Fl.next) ⟨Q6 b n,st.sto⟩ (zIH k Q'):=λh=>Ds.mpr h
 by_cases m0:n.fmod 4=0
 ·refine Rr (b:=n.fmod 4==0) (st1:=⟨Q6 b n,st.sto⟩) rfl (by rw[m0];rfl) ?_
  by_cases h1:b.h - 1>0
  ·have hk:=Ba (a:=n.fdiv 4) (b:=b.h - 1) h1;refine Gp (b:=decide (b.h - 1>0)) (st1:=⟨Q6 b n,st.sto⟩) rfl (decide_eq_true h1) (Bi (Xv (m:=n.fdiv 4) (d:=b.h - 1) rfl rfl (by exactλZ=>A4 [_] [B9 (.s x0 (.n 1)) (.n 0),A7 (.n 0) (.s x0 (.n 1))] rT Z h1)) ?_)
   exact Bv rfl (q0 _ (Wd g (k:=1+(n.fdiv 4).fmod (b.h - 1)) (by exact Am λZ=>A4 [_] [A7 (.a (.n 1) x0) (.n 1),A5 (.n 0) x0] rT Z hk.1) (by exact C4 λZ=>A4 [_,_] [A5 x0 (.a (.n 1) x1),A7 x1 (.s x0 (.n 1))] rT Z hk.2)) (by simp) (by simp))
  ·refine Ch (b:=decide (b.h - 1>0)) (st1:=⟨Q6 b n,st.sto⟩) rfl (decide_eq_false h1) (skip (Ag ?_))
   refine My (b:=n.fmod 4==1) (st1:=⟨Q6 b n,st.sto⟩) rfl (by rw[m0];rfl) (skip (Ag ?_))
   refine My (b:=decide (n.fmod 4>1)) (st1:=⟨Q6 b n,st.sto⟩) rfl (by rw[m0];rfl) (skip ?_)
   exact Bv rfl last
 refine My (b:=n.fmod 4==0) (st1:=⟨Q6 b n,st.sto⟩) rfl (zAa m0) (skip (Ag ?_))
 by_cases m1:n.fmod 4=1
 ·refine Rr (b:=n.fmod 4==1) (st1:=⟨Q6 b n,st.sto⟩) rfl (by rw[m1];rfl) ?_
  by_cases h1:b.w - 1>0
  ·have hk:=Ba (a:=n.fdiv 4) (b:=b.w - 1) h1;refine Gp (b:=decide (b.w - 1>0)) (st1:=⟨Q6 b n,st.sto⟩) rfl (decide_eq_true h1) (Bi (Xv (m:=n.fdiv 4) (d:=b.w - 1) rfl rfl (by exactλZ=>A4 [_] [B9 (.s x0 (.n 1)) (.n 0),A7 (.n 0) (.s x0 (.n 1))] rT Z h1)) ?_)
   exact Bv rfl (q0 _ (Vx g (k:=1+(n.fdiv 4).fmod (b.w - 1)) (by exact Am λZ=>A4 [_] [A7 (.a (.n 1) x0) (.n 1),A5 (.n 0) x0] rT Z hk.1) (by exact C4 λZ=>A4 [_,_] [A5 x0 (.a (.n 1) x1),A7 x1 (.s x0 (.n 1))] rT Z hk.2)) (by simp) (by simp))
  ·refine Ch (b:=decide (b.w - 1>0)) (st1:=⟨Q6 b n,st.sto⟩) rfl (decide_eq_false h1) (skip (Ag ?_))
   refine My (b:=decide (n.fmod 4>1)) (st1:=⟨Q6 b n,st.sto⟩) rfl (by rw[m1];rfl) (skip ?_)
   exact Bv rfl last
 refine My (b:=n.fmod 4==1) (st1:=⟨Q6 b n,st.sto⟩) rfl (zAa m1) (skip (Ag ?_))
 refine Rr (b:=decide (n.fmod 4>1)) (st1:=⟨Q6 b n,st.sto⟩) rfl (decide_eq_true (by omega)) ?_
 by_cases h1:b.h - 1>1
 ·refine Rr (b:=decide (b.h - 1>1)) (st1:=⟨Q6 b n,st.sto⟩) rfl (decide_eq_true h1) ?_
  by_cases h2:b.w - 1>1
  ·refine Gp (b:=decide (b.w - 1>1)) (st1:=⟨Q6 b n,st.sto⟩) rfl (decide_eq_true h2) (Bi (st1:=⟨upd (Q6 b n) 6 (.tup [.int (b.t+1),.int (b.l+1),.int (b.h - 1 - 1),.int (b.w - 1 - 1)]),st.sto⟩) rfl ?_)
   refine Is (b:=n.fmod 4==2) (st1:=⟨upd (Q6 b n) 6 (.tup [.int (b.t+1),.int (b.l+1),.int (b.h - 1 - 1),.int (b.w - 1 - 1)]),st.sto⟩) rfl (λ_=>?_) λ_=>?_
   ·refine Bi rfl (Ag (Tw rfl rfl rfl rfl ?_))
    exact q2 _ _ _ (T9 g (by exact C4 λZ=>A4 [_] [A5 x0 (.n 2),A7 (.n 1) (.s x0 (.n 1))] rT Z h1) (by exact C4 λZ=>A4 [_] [A5 x0 (.n 2),A7 (.n 1) (.s x0 (.n 1))] rT Z h2)) (by simp) (by simp)
   ·refine A9 rfl (Bi rfl (Ag (Tw rfl rfl rfl rfl ?_)))
    exact q2 _ _ _ (Ri g (by exact C4 λZ=>A4 [_] [A5 x0 (.n 2),A7 (.n 1) (.s x0 (.n 1))] rT Z h1) (by exact C4 λZ=>A4 [_] [A5 x0 (.n 2),A7 (.n 1) (.s x0 (.n 1))] rT Z h2)) (by simp) (by simp)
  ·refine Ch (b:=decide (b.w - 1>1)) (st1:=⟨Q6 b n,st.sto⟩) rfl (decide_eq_false h2) (skip ?_)
   exact Bv rfl last
 ·refine My (b:=decide (b.h - 1>1)) (st1:=⟨Q6 b n,st.sto⟩) rfl (decide_eq_false h1) (skip ?_)
  exact Bv rfl last
structure Ce where
 b:Bx
 x:Str
noncomputable def Av (c:Ce):D:=.tup [.int c.b.t,.int c.b.l,.int c.b.h,.int c.b.w,.str c.x]
noncomputable def Ce.rk (c:Ce):Int:=c.b.t*1048576+c.b.l
structure Bq (R C:Int) (cs:List Ce):Prop where
 til:Le R C (cs.map (·.b))
 cov:Pu R C (cs.map (·.b))
 tx:∀c,c∈cs->(cl c.x).all Kv=true/\c.x.length<=1000
 len:cs.length<=900
 srt:cs.Pairwise (λa b=>a.rk<=b.rk)
theorem N0{c:Ce}{st:St}:Cs [Av c] st=.ok (.tup [.int c.b.t,.int c.b.l]) st:=rfl
theorem Le.perm{R C:Int}{a b:List Bx}(h:Le R C a) (p:b.Perm a):Le R C b:=
 ⟨λx m=>h.1 x (p.mem_iff.mp m),p.pairwise_iff (λ{x y} h=>Bx.Disj.symm h) |>.mpr h.2⟩
theorem Pu.perm{R C:Int}{a b:List Bx}(h:Pu R C a) (p:b.Perm a):Pu R C b:=λr c h1 h2 h3 h4=>by
 obtain⟨x,m,i⟩:=h r c h1 h2 h3 h4;exact⟨x,p.mem_iff.mpr m,i⟩
theorem Qv:∀cs:List Ce,(cs.map Av).zip (cs.map λc=>(c.b.t,c.b.l))=cs.map λc=>(Av c,(c.b.t,c.b.l))
 |[]=>rfl
 |c::cs=>by simp only[List.map_cons,List.zip_cons_cons,Qv cs]
theorem H4{F:List D->Mn D}(hFk:∀(c:Ce) (st:St),F [Av c] st=.ok (.tup [.int c.b.t,.int c.b.l]) st){R C:Int}{cs:List Ce}{k:Nat}{st:St}{Q:D->St->Prop}(hC:C<=1048576) (hk:st.sto[k]? =some (.list (cs.map Av))) (ht:Le R C (cs.map (·.b))) (hv:Pu R C (cs.map (·.b))) (hx:∀c,c∈cs->(cl c.x).all Kv=true/\c.x.length<=1000) (hl:cs.length<=900)
  (hQ:∀cs',cs'.Perm cs->Bq R C cs'->Q (.ref st.sto.length) ⟨st.loc,st.sto++[.list (cs'.map Av)]⟩):W (Bo F [.ref k]) st Q:=by
 have hK:L8 F st (cs.map Av) (cs.map λc=>(c.b.t,c.b.l)):=by
  refine⟨by rw[lq6];exact Aw λZ=>A8 [_] [A7 (.n 100000) x0,A5 x0 (.n 900)] rT Z hl,?_,?_⟩
  ·have:∀l:List Ce,(∀c,c∈l->c.b.Good R C)->C2 (λd (p:Int×Int)=>F [d] st=.ok (.tup [.int p.1,.int p.2]) st/\0<=p.2/\p.2<1048576) (l.map Av) (l.map λc=>(c.b.t,c.b.l)):=by
    intro l
    induction l with
    |nil=>intro _;exact .nil
    |cons c l ih=>
     intro h;have hg:=h c lq1;unfold Bx.Good at hg;exact .cons ⟨hFk _ _,by show 0<=c.b.l;exact Am λZ=>A4 [_] [A7 x0 (.n 0),A5 (.n 0) x0] rT Z hg.2.1,by show c.b.l<1048576;exact C4 λZ=>A4 [_,_,_] [A5 (.n 1048576) x0,A5 x1 (.n 1048576),A5 (.n 1) x2,A5 (.a x0 x2) x1] rT Z hC hg.2.2.2.1 hg.2.2.2.2.2⟩ (ih λc m=>h c (lq4 _ m))
   exact this cs λc m=>ht.1 c.b (List.mem_map.mpr ⟨c,m,rfl⟩)
  ·have:=ht.corners hC
   rw[List.map_map]at this ⊢;exact this
 refine Z0 hk hK ?_
 obtain⟨cs',p',e'⟩:∃cs':List Ce,cs'.Perm cs/\((cs.map Av).zip (cs.map λc=>(c.b.t,c.b.l))).mergeSort (λa b=>decide (Cr a.2<=Cr b.2))=cs'.map λc=>(Av c,(c.b.t,c.b.l)):=by
  rw[Qv];have pm:=List.mergeSort_perm (cs.map λc=>(Av c,(c.b.t,c.b.l))) (λa b=>decide (Cr a.2<=Cr b.2))
  exact zBo pm
 have hsp:Jl (cs.map Av) (cs.map λc=>(c.b.t,c.b.l))=cs'.map Av:=by
  unfold Jl;rw[e',List.map_map];rfl
 rw[hsp];have pb:=p'.map (·.b);refine hQ cs' p' ⟨ht.perm pb,hv.perm pb,λc m=>hx c (p'.mem_iff.mp m),by rw[p'.length_eq];exact hl,?_⟩
 have:=Mc (cs.map Av) (cs.map λc=>(c.b.t,c.b.l))
 rw[e',List.pairwise_map]at this;exact this
theorem Ul{α β:Type}(f:α->β) (lo hi:Option Int) (ps:List α):Dn lo hi (ps.map f)=(Dn lo hi ps).map f:=by
 unfold Dn;rw[lq6,List.map_take,List.map_drop]
theorem zHD{α:Type}(l:List α){i:Int}(h0:0<=i) (h1:i<=l.length):Dn none (some i) l=l.take i.toNat:=by
 unfold Dn By;have:max 0 (min (if i<0 then i+(l.length:Int)else i) (l.length:Int))=i:=by rw[if_neg (Int.not_lt.mpr h0),Int.min_eq_left h1,Int.max_eq_right h0]
 simp only[this,List.drop_zero,Int.toNat_zero,Int.sub_zero]
theorem zBr{α:Type}(l:List α){i:Int}(h0:0<=i) (h1:i<=l.length):Dn (some i) none l=l.drop i.toNat:=by
 unfold Dn By;have:max 0 (min (if i<0 then i+(l.length:Int)else i) (l.length:Int))=i:=by rw[if_neg (Int.not_lt.mpr h0),Int.min_eq_left h1,Int.max_eq_right h0]
 simp only[this];rw[List.take_of_length_le];simp
 omega
theorem Wy{k:Nat}{l h:Option Int}{ds:List D}{S:St}(hk:S.sto[k]? =some (.list ds)) (h2:ds.length<=sizeLine):Gv (.ref k) l h S=.ok (.ref S.sto.length) ⟨S.loc,S.sto++[.list (Dn l h ds)]⟩:=
 Bb (zAE.mpr ⟨ds,hk,h2,rfl,rfl⟩)
theorem J9{k l:Nat}{ds es:List D}{S:St}(hk:S.sto[k]? =some (.list ds)) (hl:S.sto[l]? =some (.list es)) (h2:ds.length+es.length<=sizeLine):Au (.ref k) (.ref l) S=.ok (.ref S.sto.length) ⟨S.loc,S.sto++[.list (ds++es)]⟩:=
 Bb (Qy.mpr ⟨ds,es,hk,hl,h2,rfl,rfl⟩)
theorem O0{σ:Bm}{x y:PO}:(σ++[x]++[y])[σ.length]? =some x:=by rw[lq8,List.getElem?_append_right (Nat.le_refl _),Nat.sub_self];rfl
theorem zBY{σ j:Bm}{x y:PO}:(σ++[x]++j++[y])[σ.length]? =some x:=by rw[lq8,lq8,List.getElem?_append_right (Nat.le_refl _),Nat.sub_self];rfl
theorem Wi{R C:Int}{bs:List Bx}{k:Nat}{n:Int}{loc:C3}{σ:Bm}{i3 i5:Nat}{mk:Mn D}{Q:D->St->Prop}(hk:σ[k]? =some (.list (bs.map J1))) (h3:loc i3=some (.ref k)){a:Int}(h5:loc i5=some (.int a)) (ha:0<=a) (hal:a<bs.length) (hlen:bs.length<=300)
  (ht:Le R C bs) (hv:Pu R C bs) (hmk:∀(σ':Bm) (Q:D->St->Prop),Q (.int n) ⟨loc,σ'⟩->σ'[k]? =some (.list (bs.map J1))->W mk ⟨loc,σ'⟩ Q)
  (hQ:∀bs' j,Le R C bs'->Pu R C bs'->1<=bs'.length->bs'.length<=bs.length+4->Q (.ref (σ++j).length) ⟨loc,σ++j++[.list (bs'.map J1)]⟩):
  W (Ac Au (Ac Au (G5 (A6 i3) none (some (A6 i5))) (bnd (A0 (Ac Co (A6 i3) (A6 i5)) (A0 mk Ah)) E3)) (G5 (A6 i3) (some (Ac Au (A6 i5) (ret1 (.int 1)))) none)) ⟨loc,σ⟩ Q:=by
 have hsl:(1000:Nat)<=sizeLine:=by decide
 have hlt:a.toNat<bs.length:=by exact Iy (C4 λZ=>A4 [_,_,_] [A5 x0 x1,A7 x2 x0,B9 x1 x2] rT Z hal (Cf (Am λY=>A4 [_] [A7 x0 (.n 0),A5 (.n 0) x0] rT Y ha)))
 have hk1:∀j:Bm,(σ++j)[k]? =some (.list (bs.map J1)):=λj=>(Ft.app σ j).get hk
 have hz:(bs.map J1).length<=sizeLine:=by rw[lq6];exact Aw λZ=>A8 [_,_] [A7 x1 x0,A5 x0 (.n 300),A5 (.n 1000) x1] rT Z hlen hsl
 have hsp:bs=bs.take a.toNat++bs[a.toNat]::bs.drop (a.toNat+1):=by rw[List.getElem_cons_drop,List.take_append_drop]
 have ht':=ht;have hv':=hv;rw[hsp]at ht' hv';have lt:=List.length_take_of_le (l:=bs) (i:=a.toNat) (by exact Aw λZ=>A8 [_,_] [A7 x0 x1,A7 x1 x0] rT Z hlt)
 have ld:=List.length_drop (l:=bs) (i:=a.toNat+1);refine No (No (A9 (Aa (Bf h3) (Aa (Aa rfl (Aa (Aa (Bf h5) rfl) rfl)) (Wy hk hz))) (Af.mpr (Af.mpr (A9 (Ab (Bf h3) (Bf h5) (S6 (hk1 _) ha (by rw[lq6];exact hal) (by rw[lq6];exact Aw λZ=>A8 [_] [A7 (.n 4611686018427387904) x0,A5 x0 (.n 300)] rT Z hlen))) (Af.mpr (Af.mpr (hmk _ _ ?_ (hk1 _)))))))))
 rw[List.getElem_map];refine A9 rfl (A9 rfl (zEb (ht.1 _ (List.getElem_mem hlt)) λps j hp h1 h2=>?_))
 rw[Ul,zHD bs ha (by exact Am λZ=>A4 [_,_] [A7 x1 x0,A7 x0 x1] rT Z hal)]
 refine A9 (J9 (ds:=(bs.take a.toNat).map J1) (es:=ps.map J1) zBY lq3 (by rw[lq6,lq6];exact Aw λZ=>A8 [_,_,_,_,_] [A7 x0 (.a x1 x2),A5 x3 (.n 300),A5 (.n 1000) x0,A7 x4 x3,B9 x1 x4,A5 x2 (.n 5)] rT Z hlen hsl hlt lt h2)) ?_
 refine A9 (Aa (Bf h3) (Aa (Aa (Aa (Ab (Bf h5) rfl rfl) rfl) rfl) (Wy (ds:=bs.map J1) (by rw[lq8,lq8,lq8];exact hk1 _) hz))) ?_
 rw[Ul,zBr bs (by exact Am λZ=>A4 [_] [A7 (.a x0 (.n 1)) (.n 0),A5 (.n 0) x0] rT Z ha) (by exact Am λZ=>A4 [_,_] [A7 x1 (.a x0 (.n 1)),A7 x0 x1] rT Z hal),show(a+1).toNat=a.toNat+1 by exact zGe (Ur (λZ=>A4 [(↑a.toNat),(↑(a+1).toNat),(a)] [A7 x1 (.a x0 (.n 1)),A5 (.a x2 (.n 1)) x1,B9 x0 x2] rT Z (H7 _) (Cf (Am λY=>A4 [(a)] [A7 x0 (.n 0),A5 (.n 0) x0] rT Y ha))) (λZ=>A4 [(↑a.toNat),(↑(a+1).toNat),(a)] [A7 (.a x0 (.n 1)) x1,A5 x2 x0,B9 x1 (.a x2 (.n 1))] rT Z (H7 _) (Cf (Am λY=>A4 [(a)] [A7 (.a x0 (.n 1)) (.n 0),A5 (.n 0) x0] rT Y ha))))]
 refine A9 (J9 (ds:=(bs.take a.toNat).map J1++ps.map J1) (es:=(bs.drop (a.toNat+1)).map J1) O0 lq3 (by rw[lq7,lq6,lq6,lq6];exact Aw λZ=>A8 [_,_,_,_,_,_,_] [A7 x0 (.a (.a x1 x3) x2),Yq 2 x4 (.n 300),A5 (.n 1000) x0,A7 x5 x4,B9 x1 x5,B9 x2 x6,A5 x3 (.n 5),A5 x6 x4] rT Z hlen hsl hlt lt ld h2 (F9 _ _))) ?_
 have:=hQ (bs.take a.toNat++ps++bs.drop (a.toNat+1)) ([.list ((bs.take a.toNat).map J1)]++j++[.list (ps.map J1)]++[.list ((bs.take a.toNat).map J1++ps.map J1)]++[.list ((bs.drop (a.toNat+1)).map J1)]) (ht'.swap hp) (hv'.swap hp) (by rw[lq7,lq7];exact Aw λZ=>A8 [_,_,_,_] [A7 (.a (.a x0 x2) x1) (.n 1),Gl x0 x3,A5 (.n 1) x2,A5 (.n 0) x3,A5 (.n 0) x1] rT Z lt h1 (lq5 _) (lq5 _)) (by rw[lq7,lq7];exact Aw λZ=>A8 [_,_,_,_,_,_] [A7 (.a x0 (.n 4)) (.a (.a x1 x3) x2),B9 x1 x4,B9 x2 x5,A5 x3 (.n 5),B9 (.a x5 (.a x4 (.n 1))) x0] rT Z lt ld h2 (Aq (Aw λY=>A8 [_,_] [A7 x0 (.a x1 (.n 1)),A7 x1 x0] rT Y hlt)))
 rw[List.map_append,List.map_append]at this;rw[←lq8,←lq8,←lq8,←lq8]at this;exact this
theorem zCv{R C:Int}(hR:1<=R) (hC:1<=C):Le R C [⟨0,0,R,C⟩]/\Pu R C [⟨0,0,R,C⟩]:=by
 refine⟨⟨λb m=>?_,by simp⟩,λr c h1 h2 h3 h4=>⟨_,List.mem_singleton.mpr rfl,by unfold Bx.In;exact⟨Am λZ=>A4 [_] [A7 x0 (.n 0),A5 (.n 0) x0] rT Z h1,⟨C4 λZ=>A4 [_,_] [A5 (.a (.n 0) x0) x1,A7 x1 x0] rT Z h2,⟨Am λZ=>A4 [_] [A7 x0 (.n 0),A5 (.n 0) x0] rT Z h3,C4 λZ=>A4 [_,_] [A5 (.a (.n 0) x0) x1,A7 x1 x0] rT Z h4⟩⟩⟩⟩⟩
 simp only[lq0 m];unfold Bx.Good;exact⟨Am λZ=>A4 [] [A7 (.n 0) (.n 0)] rT Z,⟨Am λZ=>A4 [] [A7 (.n 0) (.n 0)] rT Z,⟨Am λZ=>A4 [_] [A7 x0 (.n 1),A5 (.n 1) x0] rT Z hR,⟨Am λZ=>A4 [_] [A7 x0 (.n 1),A5 (.n 1) x0] rT Z hC,⟨Am λZ=>A4 [_] [A7 x0 (.a (.n 0) x0)] rT Z,Am λZ=>A4 [_] [A7 x0 (.a (.n 0) x0)] rT Z⟩⟩⟩⟩⟩
theorem Vf{bs:List Bx}{d:D}(h:d∈Fk (bs.map J1)):∃(i:Nat) (b:Bx),i<bs.length/\bs[i]? =some b/\d=.tup [.int i,J1 b]:=by
 apply yo;intro _ k0
 obtain⟨i,hi,e⟩:=List.getElem_of_mem h;obtain⟨a,h1,h2⟩:=P8 (i:=i) (d:=d) (by rw[List.getElem?_eq_getElem hi,e])
 rw[List.getElem?_map]at h1;obtain⟨b,h3,rfl⟩:=Option.map_eq_some_iff.mp h1;apply k0
 exact⟨i,b,(lq2 h3).1,h3,h2⟩
theorem Sk{bs:List Bx}{xs:List D}{P:Str->Prop}(r:C2 (λx d=>∃(i:Int) (b:Bx) (y:Str),d=.tup [.int i,J1 b]/\x=Av ⟨b,y⟩/\P y) xs (Fk (bs.map J1))):∃cs:List Ce,xs=cs.map Av/\cs.map (·.b)=bs/\∀c,c∈cs->P c.x:=by
 have gen:∀(bs:List Bx) (xs:List D) (n:Nat),C2 (λx d=>∃(i:Int) (b:Bx) (y:Str),d=.tup [.int i,J1 b]/\x=Av ⟨b,y⟩/\P y) xs (((bs.map J1).zipIdx n).map λp=>D.tup [.int p.2,p.1])->∃cs:List Ce,xs=cs.map Av/\cs.map (·.b)=bs/\∀c,c∈cs->P c.x:=by
  intro bs
  induction bs with
  |nil=>
   intro xs n r
   cases r;exact⟨[],rfl,rfl,λc m=>nomatch m⟩
  |cons b bs ih=>
   intro xs n r
   cases r with
   |cons r1 r2=>
    obtain⟨i,b',y,e1,rfl,hp⟩:=r1;obtain⟨cs,rfl,h2,h3⟩:=ih _ _ r2;have eb:b=b':=by
     injection e1 with e1
     injection e1 with _ e1
     injection e1 with e1 _
     unfold J1 at e1;injection e1 with e1
     injection e1 with q1 e1
     injection e1 with q2 e1
     injection e1 with q3 e1
     injection e1 with q4 _
     injection q1 with q1
     injection q2 with q2
     injection q3 with q3
     injection q4 with q4
     obtain⟨a1,a2,a3,a4⟩:=b;obtain⟨b1,b2,b3,b4⟩:=b';simp only at q1 q2 q3 q4
     simp only[q1,q2,q3,q4]
    subst eb;refine⟨⟨b,y⟩::cs,rfl,by rw[List.map_cons,h2],λc m=>?_⟩
    rcases List.mem_cons.mp m with rfl|m
    ·exact hp
    ·exact h3 c m
 exact gen bs xs 0 r
noncomputable def zE8:Mn Fl:=(Ad (bnd (Ac Cm (Ac Co (A6 0) (A6 4)) (bnd (A0 (A6 3) Ah) Ea)) (Aj 5))
 (Ad (bnd (Ac Au (Ac Au (G5 (A6 3) none (some (A6 5))) (bnd (A0 (Ac Co (A6 3) (A6 5)) (A0 (Ac Ec (Ac Co (A6 0) (A6 4)) (bnd (A0 (A6 3) Ah) Ea)) Ah)) E3)) (G5 (A6 3) (some (Ac Au (A6 5) (ret1 (.int 1)))) none)) (Aj 3))
 (ret1 .next)))
noncomputable def cL (ns:List Int) (R C:Int) (k:Nat) (x y z:Option D):C3:=Gq [some (.scr ns),some (.int R),some (.int C),some (.ref k),x,y,z]
theorem zJq{ns:List Int}{R C:Int}{k:Nat}{x y z:Option D}{d:D}:upd (cL ns R C k x y z) 4 d=cL ns R C k (some d) y z:=An rfl
theorem zKQ{ns:List Int}{R C:Int}{k:Nat}{x y z:Option D}{d:D}:upd (cL ns R C k x y z) 5 d=cL ns R C k x (some d) z:=An rfl
theorem zK1{ns:List Int}{R C:Int}{k l:Nat}{x y z:Option D}:upd (cL ns R C k x y z) 3 (.ref l)=cL ns R C l x y z:=An rfl
theorem Zp{ns:List Int}{R C i:Int}{bs:List Bx}{k:Nat}{x z:Option D}{σ:Bm}(hn:ns.length<=63) (h0:0<=i) (h1:i<ns.length) (hk:σ[k]? =some (.list (bs.map J1))) (ht:Le R C bs) (hv:Pu R C bs) (hb1:1<=bs.length) (hb2:bs.length<=300):
  W zE8 ⟨cL ns R C k (some (.int i)) x z,σ⟩ λfl st'=>fl=.next/\∃bs' j l y,st'=⟨cL ns R C l (some (.int i)) y z,σ++j⟩/\(σ++j)[l]? =some (.list (bs'.map J1))/\Le R C bs'/\Pu R C bs'/\1<=bs'.length/\bs'.length<=bs.length+4:=by
 have hix:i.toNat<ns.length:=by exact Iy (C4 λZ=>A4 [_,_,_] [A5 x0 x1,A7 x2 x0,B9 x1 x2] rT Z h1 (Cf (Am λY=>A4 [_] [A7 x0 (.n 0),A5 (.n 0) x0] rT Y h0)))
 have hi63:i<2 ^ 63:=by exact C4 λZ=>A4 [_,_] [A5 (.n 9223372036854775808) x0,A7 x0 x1,A5 x1 (.n 63)] rT Z h1 (Nw hn)
 have hl62:bs.length<2 ^ 62:=by exact Cz λZ=>A8 [_] [A5 (.n 4611686018427387904) x0,A5 x0 (.n 300)] rT Z hb2
 obtain⟨v,hget⟩:∃v,ns[i.toNat]? =some v:=⟨_,List.getElem?_eq_getElem hix⟩
 have e0:∀S:St,Co (.scr ns) (.int i) S=.ok (.int v) S:=λS=>Bb (zAn.mpr ⟨⟨h0,hi63⟩,v,hget,rfl,rfl⟩)
 have el:∀S:St,S.sto[k]? =some (.list (bs.map J1))->Ea [.ref k] S=.ok (.int bs.length) S:=λS h=>Bb (W1.mpr ⟨_,h,by rw[lq6];exact hl62,by rw[lq6],rfl⟩)
 have ha:=Ba (a:=v) (b:=(bs.length:Int)) (by exact C4 λZ=>A4 [_] [A5 x0 (.n 0),A5 (.n 1) x0] rT Z (Nw hb1))
 have hne:(bs.length:Int)≠0:=by exactλZ=>A4 [_,_] [B9 x0 (.n 0),A5 (.n 0) x1,A7 x1 x0] rT Z ha.1 ha.2
 have hna:(bs.length:Int).natAbs<1073741824:=by exact Cz λZ=>A8 [_] [A5 (.n 1073741824) x0,A5 x0 (.n 300)] rT Z hb2
 refine Bi (run_set (Ab (Ab rfl rfl (e0 _)) (Aa rfl (el _ hk)) (C6 hne))) (Ag (Af.mpr ?_))
 show W _ ⟨upd (cL ns R C k (some (.int i)) x z) 5 _,σ⟩ _
 simp only[zKQ];refine Wi (R:=R) (C:=C) (n:=v.fdiv bs.length) (i3:=3) (i5:=5) hk rfl rfl ha.1 ha.2 hb2 ht hv (λσ' Q' hq hk'=>?_) λbs' j' ht' hv' h1' h2'=>A9 rfl (A9 rfl ⟨rfl,bs',j'++[.list (bs'.map J1)],(σ++j').length,some (.int (v.fmod bs.length)),?_,?_,ht',hv',h1',h2'⟩)
 ·exact A9 (Ab (Ab rfl rfl (e0 _)) (Aa rfl (el _ hk')) (C6 ⟨hne,hna⟩)) hq
 ·show St.mk (upd (cL ns R C k (some (.int i)) (some (.int (v.fmod bs.length))) z) 3 _) _=_
  simp only[zK1,lq8]
 ·rw[←lq8];exact lq3
theorem N9{α:Type}{f g:α->D}:∀{l:List α}{xs:List D},C2 (λx d=>∀a,d=f a->x=g a) xs (l.map f)->xs=l.map g:=by
 intro l
 induction l with
 |nil=>intro xs h;cases h;rfl
 |cons a l ih=>
  intro xs h;rw[List.map_cons]at h
  cases h with
  |cons r rs=>rw[List.map_cons,r a rfl,ih rs]
theorem zDd{a b:Ce}(h:Av a=Av b):a=b:=by
 unfold Av at h;injection h with e1
 injection e1 with q1 e1
 injection e1 with q2 e1
 injection e1 with q3 e1
 injection e1 with q4 e1
 injection e1 with q5 _
 injection q1 with q1
 injection q2 with q2
 injection q3 with q3
 injection q4 with q4
 injection q5 with q5
 obtain⟨⟨a1,a2,a3,a4⟩,a5⟩:=a;obtain⟨⟨b1,b2,b3,b4⟩,b5⟩:=b;simp only at q1 q2 q3 q4 q5
 simp only[q1,q2,q3,q4,q5]
theorem zDJ{i:Int}{st:St}{Q:D->St->Prop}(h:Q (.bool true) st):W (Cg [.int i]) st Q:=Cq rfl (Bv rfl h)
theorem zGp{x:Str}(h:(cl x).all Kv=true):PyData.strOk x=true:=by
 unfold PyData.strOk;rw[←Array.all_toList];rw[List.all_eq_true]at h ⊢;intro c m;have:=h c m
 unfold Kv plain at this;simp at this ⊢
 exact Or.elim this (λhd3=>Cz λZ=>A8 [_] [A5 (.n 1114112) x0,B9 x0 (.n 10)] rT Z hd3) (λhd3=>Cz λZ=>A8 [_] [A5 (.n 1114112) x0,A5 x0 (.n 126)] rT Z hd3.2)
theorem P0:∀{cs:List Ce},(∀c,c∈cs->(cl c.x).all Kv=true)->∃ps,G4 (cs.map Av)=some ps/\PyData.canLayAll0 ps=true/\PyData.depthAll ps<=49
 |[],_=>⟨[],rfl,rfl,by simp[PyData.depthAll]⟩
 |c::cs,h=>by
  obtain⟨ps,e1,e2,e3⟩:=P0 (cs:=cs) λc m=>h c (lq4 _ m)
  have hx:=zGp (h c lq1);refine⟨.tuple [.int c.b.t,.int c.b.l,.int c.b.h,.int c.b.w,.str c.x]::ps,?_,?_,?_⟩
  ·rw[List.map_cons];show(T8 (Av c)).bind (λx=>(G4 (cs.map Av)).map (x:: ·))=_
   rw[e1];rfl
  ·simp[PyData.canLayAll0,PyData.canLay0,hx,e2]
  ·have:PyData.depth (.tuple [.int c.b.t,.int c.b.l,.int c.b.h,.int c.b.w,.str c.x])<=49:=by simp[PyData.depth,PyData.depthAll]
   simp only[PyData.depthAll];omega
theorem zIg{σ j l:Bm}{k:Nat}{o:PO}(h:σ[k]? =some o):(σ++j++l)[k]? =some o:=(Ft.app _ _).get ((Ft.app _ _).get h)
end
section
open Builtin.Str
noncomputable abbrev qL:Str:=sO "in_order.<locals>.<lambda>"
noncomputable def C8 (σ:Bm):Prop:=∃k,σ[0]? =some (.ctab Hm 25 29 qL k)/\∀m,k=some m->σ[m]? =some (.code qL)
theorem C8.ext{σ σ':Bm}(h:C8 σ) (x:Ft σ σ'):C8 σ':=let⟨k,e,hk⟩:=h;⟨k,x.get e,λm q=>x.get (hk m q)⟩
theorem zJK{st:St}{Q:Unit->St->Prop}(h:C8 st.sto) (hQ:∀σ',C8 σ'->Kp st.sto σ'->Q () ⟨st.loc,σ'⟩):W (Ic 0 Hm 25 29 qL) st Q:=by
 obtain⟨k,e,hk⟩:=h;have hlt:0<st.sto.length:=(lq2 e).1
 cases k with
 |none=>
  refine⟨(),⟨st.loc,st.sto.set 0 (.ctab Hm 25 29 qL (some st.sto.length))++[.code qL]⟩,by unfold Ic;rw[e];rfl,hQ _ ⟨some st.sto.length,?_,λm q=>?_⟩ ⟨by simp,λi ds q=>?_⟩⟩
  ·rw[List.getElem?_append_left (by simpa using hlt),List.getElem?_set_self hlt]
  ·cases q;rw[List.getElem?_append_right (by simp)];simp
  ·have hi:=(lq2 q).1;have h0:i≠0:=λz=>by rw[z,e]at q;cases q
   rw[List.getElem?_append_left (by simpa using hi),List.getElem?_set_ne (Ne.symm h0)];exact q
 |some m=>
  have hm:=hk m rfl;exact⟨(),st,by unfold Ic;rw[e];simp only[hm];rfl,hQ st.sto ⟨some m,e,hk⟩ ⟨Nat.le_refl _,λ_ _ e=>e⟩⟩
theorem Pd{R C:Int}{cs:List Ce}{k:Nat}{st:St}{Q:D->St->Prop}(h0:C8 st.sto) (hC:C<=1048576) (hk:st.sto[k]? =some (.list (cs.map Av))) (ht:Le R C (cs.map (·.b))) (hv:Pu R C (cs.map (·.b))) (hx:∀c,c∈cs->(cl c.x).all Kv=true/\c.x.length<=1000) (hl:cs.length<=900)
  (hQ:∀cs' r σ',cs'.Perm cs->Bq R C cs'->C8 σ'->Kp st.sto σ'->st.sto.length<=r->σ'[r]? =some (.list (cs'.map Av))->Q (.ref r) ⟨st.loc,σ'⟩):W (Fo [.ref k]) st Q:=by
 refine Cq rfl ?_
 unfold La;refine Ag (Af.mpr (Af.mpr (A9 rfl (Af.mpr (zJK h0 λσ' t' k'=>H4 (λ_ _=>rfl) hC (k'.2 _ _ hk) ht hv hx hl λcs' p ok=>A9 rfl ?_)))))
 exact hQ cs' σ'.length _ p ok (t'.ext (.app _ _)) (k'.trans (Ft.app _ _).kp) k'.1 lq3
theorem zKD{n:Nat}{j:Nat}(h:j<(Builtin.Range.rangeSize 5 n 2).toNat):5+(j:Int)*2<n:=by
 unfold Builtin.Range.rangeSize at h;rw[if_pos (by decide)]at h;split at h<;>omega
theorem zAd(n:Nat) (h:n<=63):(Builtin.Range.rangeSize 5 n 2).toNat<=31:=by
 unfold Builtin.Range.rangeSize;rw[if_pos (by decide)];split<;>omega
theorem zBu{x:Str}(h:M2 (cl x)=true):x.length<=200:=by
 unfold M2 at h;split at h
 ·cases h
 ·rename_i hn;simp only[Bool.or_eq_true,decide_eq_true_eq,not_or]at hn;rw[Ck]at hn;exact Gk (Am λZ=>A4 [_] [A7 (.n 200) x0,A5 x0 (.n 200)] rT Z (Int.not_lt.mp hn.1))
inductive zKf (ns:List Int) (R C:Int) (st:St) (rem:List D) (st':St):Prop
 |mk (bs:List Bx) (j:Bm) (k:Nat) (x y z:Option D) (a0:st'=⟨cL ns R C k x y z,st.sto++j⟩) (a1:(st.sto++j)[k]? =some (.list (bs.map J1))) (a2:Le R C bs) (a3:Pu R C bs) (a4:1<=bs.length) (a5:bs.length+4*rem.length<=125) (a6:∀d,d∈rem->d∈G6 5 2 (Builtin.Range.rangeSize 5 ns.length 2).toNat):zKf ns R C st rem st'
theorem zEF{ns:List Int}(hn:ns.length<=63){R C:Int}(hR:1<=R) (hR2:R<=20) (hC:1<=C) (hC2:C<=20){st:St}{Q:D->St->Prop}(hQ:∀cs j,Bq R C cs->(∀c,c∈cs->c.x.length<=200)->1<=cs.length->Q (.ref (st.sto++j).length) ⟨st.loc,st.sto++j++[.list (cs.map Av)]⟩):W (Ey [.scr ns,.int R,.int C]) st Q:=by
 have hsl:(1000:Nat)<=sizeLine:=by decide
 have hl62:ns.length<2 ^ 62:=by exact Cz λZ=>A8 [_] [A5 (.n 4611686018427387904) x0,A5 x0 (.n 63)] rT Z hn
 have hloc:upd (Cj Bh [0,1,2] [.scr ns,.int R,.int C]) 3 (.ref st.sto.length)=cL ns R C st.sto.length none none none:=by
  funext i;rcases i with _|_|_|_|_|_|_|i<;>rfl
 obtain⟨w1,w2⟩:=zCv (R:=R) (C:=C) hR hC
 have hr0:=zAd ns.length hn;refine Cq rfl ?_
 unfold Io;refine Bi (st1:=⟨cL ns R C st.sto.length none none none,st.sto++[.list [.tup [.int 0,.int 0,.int R,.int C]]]⟩) (by rw[←hloc];rfl) (Ag (Af.mpr (A9 (Aa (Aa rfl (Aa (Aa (Aa rfl (C6 hl62)) rfl) rfl)) (Bb (zAy.mpr ⟨?_,rfl,rfl⟩))) ?_)))
 ·simp only[Bool.and_eq_true,E1,decide_eq_true_eq];exact⟨⟨⟨Am λZ=>A4 [] [A7 (.n 5) (.s (.n 0) (.n 1099511627776))] rT Z,C4 λZ=>A4 [] [A5 (.n 1099511627776) (.n 5)] rT Z⟩,⟨Am λZ=>A4 [_] [A7 x0 (.s (.n 0) (.n 1099511627776)),A5 (.n 0) x0] rT Z (Hd _),C4 λZ=>A4 [_] [A5 (.n 1099511627776) x0,A5 x0 (.n 63)] rT Z (Nw hn)⟩⟩,⟨Am λZ=>A4 [] [A7 (.n 2) (.n 1)] rT Z,C4 λZ=>A4 [] [A5 (.n 1000) (.n 2)] rT Z⟩⟩
 refine E6 (zKf ns R C st) ?_ ?_ _ _ ⟨[⟨0,0,R,C⟩],[.list [.tup [.int 0,.int 0,.int R,.int C]]],st.sto.length,none,none,none,rfl,lq3,w1,w2,Nat.le_refl 1,by show 1+4*(G6 _ _ _).length<=125;rw[Ja];exact Aw λZ=>A8 [_] [A7 (.n 125) (.a (.n 1) (.m 4 x0)),Yq 4 x0 (.n 31)] rT Z hr0,λd m=>m⟩
 ·rintro d rest _ ⟨bs,j,k,x,y,z,rfl,hk,ht,hv,hb1,hb2,hm⟩
  obtain⟨i,hi,rfl⟩:=Lx (hm d lq1);have hlt:=zKD hi;rw[List.length_cons]at hb2;refine⟨trivial,_,rfl,?_⟩
  show W _ ⟨upd (cL ns R C k x y z) 4 _,st.sto++j⟩ _
  rw[zJq];refine(Zp hn (by omega) hlt hk ht hv hb1 (by exact Aw λZ=>A8 [_,_] [A7 (.n 300) x0,A5 (.a x0 (.m 4 (.a x1 (.n 1)))) (.n 125),Yq 4 (.n 0) x1] rT Z hb2 (lq5 _))).mono ?_
  rintro fl _ ⟨rfl,bs',j',l,y,rfl,hk',ht',hv',h1',h2'⟩
  rw[lq8]at hk' ⊢;exact⟨bs',j++j',l,_,y,z,rfl,hk',ht',hv',h1',by exact Aw λZ=>A8 [_,_,_] [A7 (.n 125) (.a x1 (.m 4 x0)),A5 (.a x2 (.m 4 (.a x0 (.n 1)))) (.n 125),A5 x1 (.a x2 (.n 4))] rT Z hb2 h2',λd m=>hm d (lq4 _ m)⟩
 ·rintro _ ⟨bs,j,k,x,y,z,rfl,hk,ht,hv,hb1,hb2,hm⟩
  have hb3:bs.length<=125:=by exact Aw λZ=>A8 [_,_] [A7 (.n 125) x0,A5 (.a x0 (.m 4 x1)) (.n 125),Yq 4 (.n 0) x1] rT Z hb2 (lq5 _)
  refine⟨trivial,Ag (Af.mpr (Af.mpr (Af.mpr (Af.mpr (A9 (Aa rfl (Bb (zHm.mpr ⟨_,hk,rfl,rfl⟩))) ?_)))))⟩
  refine Lj (λ_=>true) (λd x _=>∃(i:Int) (b:Bx) (y:Str),d=.tup [.int i,J1 b]/\x=Av ⟨b,y⟩/\((cl y).all Kv=true/\y.length<=1000/\y.length<=200)) (λl=>l 0=some (.scr ns)) (by show(Fk _).length<=_;rw[Pj,lq6];exact Aw λZ=>A8 [_,_] [A7 x0 x1,A5 (.n 1000) x0,A5 x1 (.n 125)] rT Z hsl hb3) (λ_ _ _ _ _ h=>h) (λσ' hx=>hx.get hk) rfl (λd hd l' σ' hA hx=>?_) λxs σ' hx r=>?_
  ·obtain⟨i,b,hi,hb,rfl⟩:=Vf hd;refine⟨upd (upd l' 4 (.int i)) 6 (J1 b),rfl,hA,A9 rfl ⟨rfl,rfl,.refl _,λ_=>No (A9 rfl (Af.mpr (Af.mpr (Af.mpr (Af.mpr (Af.mpr ?_))))))⟩⟩
   refine A9 (Aa (Bf (i:=0) hA) (Aa (Aa (Ab rfl (Ab rfl rfl (Gc (by rw[Dx (by decide) (by decide)];rfl))) rfl) rfl) rfl)) (zDZ (by exact Am λZ=>A4 [_] [A7 (.a (.n 6) (.m 2 x0)) (.n 0),Yq 2 (.n 0) x0] rT Z (Hd _)) (by exact C4 λZ=>A4 [_,_] [A5 (.n 9223372036854775808) (.a (.n 6) (.m 2 x0)),Yq 2 x1 (.n 125),zCz 2 x0 x1] rT Z (Nw hb3) (Yo hi)) hl62 (A9 rfl (zHG λy jj h1 h2 h3=>A9 rfl (A9 rfl ?_))))
   exact A9 rfl ⟨rfl,.app _ _,i,b,y,rfl,rfl,h1,h2,zBu h3⟩
  ·rw[Lb]at r;obtain⟨cs,rfl,hbs,hct⟩:=Sk r;have hcl:cs.length=bs.length:=by rw[←hbs,lq6]
   refine A9 rfl ((H4 (λ_ _=>N0) (R:=R) (C:=C) (by exact Am λZ=>A4 [_] [A7 (.n 1048576) x0,A5 x0 (.n 20)] rT Z hC2) lq3 (by rw[hbs];exact ht) (by rw[hbs];exact hv) (λc m=>⟨(hct c m).1,(hct c m).2.1⟩) (by exact Aw λZ=>A8 [_,_] [A7 (.n 900) x0,A5 x1 (.n 125),B9 x0 x1] rT Z hb3 hcl) λcs' p ok=>A9 rfl ?_))
   obtain⟨j',hj⟩:=((Ft.app st.sto j).trans hx).trans (Ft.app σ' [PO.list (cs.map Av)])
   have:=hQ cs' j' ok (λc m=>(hct c (p.mem_iff.mp m)).2.2) (by rw[p.length_eq];exact Aw λZ=>A8 [_,_] [A7 x0 (.n 1),A5 (.n 1) x1,Gl x0 x1] rT Z hb1 hcl)
   rw[←hj]at this;exact this
end
section
open Builtin.Str
noncomputable def iL (R C:Int) (k k':Nat) (a b c:Option D):C3:=Gq [some (D0 R C k),some (.int R),some (.int C),some (.ref k'),a,b,c]
theorem zKY{R C:Int}{k k':Nat}{a b c:Option D}{d e:D}:upd (upd (iL R C k k' a b c) 4 d) 5 e=iL R C k k' (some d) (some e) c:=by
 unfold iL;rw[An rfl,An rfl];rfl
theorem zKV{R C:Int}{k k':Nat}{a b c:Option D}{d:D}:upd (iL R C k k' a b c) 6 d=iL R C k k' a b (some d):=An rfl
theorem Tj:∀cs:List Ce,Gy (cs.map Av) (cs.map Av)=cs.map λc=>D.tup [Av c,Av c]
 |[]=>rfl
 |c::cs=>congrArg (D.tup [Av c,Av c]:: ·) (Tj cs)
theorem zIb(c:Ce){i:Nat}(h:i<4):∃v,∀S:St,Co (Av c) (.int (i:Int)) S=.ok (.int v) S:=by
 rcases i with _|_|_|_|i
 ·exact⟨_,λS=>rfl⟩
 ·exact⟨_,λS=>rfl⟩
 ·exact⟨_,λS=>rfl⟩
 ·exact⟨_,λS=>rfl⟩
 ·exact False.elim (A8 [_] [A7 (.a (.a (.a (.a x0 (.n 1)) (.n 1)) (.n 1)) (.n 1)) (.n 4),A5 (.n 0) x0] rT h (lq5 _))
inductive zLG (R C:Int) (k k':Nat) (st:St) (e:Ce) (rem:List D) (st':St):Prop
 |mk (c:Option D) (a0:st'=⟨iL R C k k' (some (Av e)) (some (Av e)) c,st.sto++[.priv]⟩) (a1:∀d,d∈rem->∃i:Nat,i<4/\d=.int (i:Int)):zLG R C k k' st e rem st'
inductive zKd (R C:Int) (k k':Nat) (st:St) (rem:List D) (st':St):Prop
 |mk (cr:List Ce) (a b c:Option D) (a0:st'=⟨iL R C k k' a b c,st.sto++[.priv]⟩) (a1:rem=cr.map λc=>D.tup [Av c,Av c]):zKd R C k k' st rem st'
theorem zHO{R C:Int}{cs:List Ce}{k k':Nat}{st:St}{Q:D->St->Prop}(hcl:cs.length<=900) (hk:st.sto[k]? =some (.list (cs.map Av))) (hk':st.sto[k']? =some (.list (cs.map Av))) (hQ:∀j,Q (.bool true) ⟨st.loc,st.sto++j⟩):
  W (E2 [D0 R C k,.int R,.int C,.ref k']) st Q:=by
 have hloc:Cj Bh [0,1,2,3] [D0 R C k,.int R,.int C,.ref k']=iL R C k k' none none none:=by
  funext i;rcases i with _|_|_|_|_|_|_|i<;>rfl
 have e1:∀l:C3,Gb "list" (.ref k) ⟨l,st.sto⟩=.ok (.bool true) ⟨l,st.sto⟩:=λl=>by
  exact Bb (zJ0.mpr ⟨"list",Xi hk,rfl,rfl⟩)
 have el:∀(l:C3) (q:Nat),st.sto[q]? =some (.list (cs.map Av))->Ea [.ref q] ⟨l,st.sto⟩=.ok (.int cs.length) ⟨l,st.sto⟩:=λl q h=>Bb (W1.mpr ⟨_,h,by rw[lq6];exact Cz λZ=>A8 [_] [A5 (.n 4611686018427387904) x0,A5 x0 (.n 900)] rT Z hcl,by rw[lq6],rfl⟩)
 refine Cq rfl ?_
 rw[hloc];unfold Mr;refine Bi (st1:=⟨iL R C k k' none none none,st.sto⟩) rfl (Ag (Fc.mpr (Ot.mpr (A9 (Bd (t:=R !=R) (Ab rfl rfl rfl) rfl rfl rfl) ?_))))
 rw[if_neg (by simp)];refine Ot.mpr (A9 (Bd (t:=C !=C) (Ab rfl rfl rfl) rfl rfl rfl) ?_)
 rw[if_neg (by simp)];refine Ot.mpr (A9 (Aa (Aa (Aa (Ab rfl rfl rfl) (e1 _)) rfl) rfl) (A9 (Bd (t:=(cs.length:Int) !=(cs.length:Int)) (Aa (Aa (Ab rfl rfl rfl) rfl) (el _ _ hk)) (Aa rfl (el _ _ hk')) rfl rfl) ?_))
 rw[if_neg (by simp)];refine A9 rfl (Ag (Af.mpr (Af.mpr (A9 rfl (zIW.mpr ⟨_,_,hk,hk',?_⟩)))))
 show W (D9 _ _ _ (Gy (cs.map Av) (cs.map Av))) _ _
 rw[Tj];have gz:Yw k k' st.sto.length (cs.map Av) (cs.map Av) (st.sto++[.priv]):=⟨(Ft.app _ _).get hk,(Ft.app _ _).get hk',lq3⟩
 refine E6 (zKd R C k k' st) ?_ ?_ _ _ ⟨cs,none,none,none,rfl,rfl⟩
 ·rintro d rest _ ⟨cr,a,b,c,rfl,hrem⟩
  cases cr with
  |nil=>cases hrem
  |cons e cr=>
   cases hrem;refine⟨gz,_,rfl,?_⟩
   show W _ ⟨upd (upd (iL R C k k' a b c) 4 (Av e)) 5 (Av e),st.sto++[.priv]⟩ _
   rw[zKY];refine Ag (Fc.mpr (Ot.mpr (A9 rfl (Ot.mpr (A9 rfl (Ot.mpr (A9 rfl (A9 (Bd (t:=e.x.cps.toList !=e.x.cps.toList) (Ab rfl rfl rfl) (Ab rfl rfl rfl) rfl rfl) ?_))))))))
   rw[if_neg (by simp)];refine A9 rfl (Ag (Af.mpr (A9 (a:=⟨G6 0 1 4,λ_=>True⟩) (st1:=⟨iL R C k k' (some (Av e)) (some (Av e)) c,st.sto++[.priv]⟩) (Aa rfl (Bb (Jk.mpr ⟨E1.mpr ⟨by decide,by decide⟩,rfl,rfl⟩))) ?_)))
   refine E6 (zLG R C k k' st e) ?_ ?_ _ _ ⟨c,rfl,λd m=>by obtain⟨j,hj,rfl⟩:=Lx m;exact⟨j,hj,by rw[Int.zero_add,Int.mul_one]⟩⟩
   ·rintro d rest _ ⟨c,rfl,hm⟩
    obtain⟨i,hi,rfl⟩:=hm d lq1;obtain⟨v,hv⟩:=zIb e hi;refine⟨trivial,iL R C k k' (some (Av e)) (some (Av e)) (some (.int (i:Int))),congrArg some zKV,?_⟩
    refine Ag (Fc.mpr (Ot.mpr (A9 (Aa (Aa (Aa (Aa (Ab rfl rfl (hv _)) rfl) (Bb (zDJ ⟨rfl,rfl⟩))) rfl) rfl) (A9 (Bd (t:=v !=v) (Ab rfl rfl (hv _)) (Ab rfl rfl (hv _)) rfl rfl) ?_))))
    rw[if_neg (by simp)];exact A9 rfl (A9 rfl ⟨_,rfl,λd m=>hm d (lq4 _ m)⟩)
   ·rintro _ ⟨c,rfl,_⟩
    exact⟨trivial,A9 rfl ⟨cr,_,_,_,rfl,rfl⟩⟩
 ·rintro _ ⟨cr,a,b,c,rfl,_⟩
  exact⟨gz,Bv rfl (hQ _)⟩
end
section
open Builtin.Str
theorem H2{m n:Mn Bool}{a b:Bool}{S:St}(e1:m S=.ok a S) (e2:n S=.ok b S):Fa m n S=.ok (a&&b) S:=Aa e1 (by cases a<;>first|exact e2|rfl)
theorem Ef{m n:Mn Bool}{a b:Bool}{S:St}(e1:m S=.ok a S) (e2:n S=.ok b S):Hp m n S=.ok (a||b) S:=Aa e1 (by cases a<;>first|exact e2|rfl)
theorem zAf{m n:Mn D}{a b:Bool}{S:St}(e1:m S=.ok (.bool a) S) (e2:n S=.ok (.bool b) S):Q2 m n S=.ok (.bool (a&&b)) S:=by
 refine Bb (zB3.mpr (A9 e1 (A9 (a:=a) rfl ?_)))
 cases a with
 |true=>exact A9 e2 ⟨rfl,rfl⟩
 |false=>exact⟨rfl,rfl⟩
noncomputable def wh:D->Bool
 |.int _=>true
 |_=>false
noncomputable def Bg:D->Bool
 |.ref _=>false
 |.exc _=>false
 |_=>true
theorem Wc{d:D}(h:Bg d=true){S:St}:Dg [d] S=.ok (.bool (wh d)) S:=by
 cases d<;>first|exact Bb (Cq rfl (Bv rfl ⟨rfl,rfl⟩))|cases h
noncomputable def Iu (R C:Int):D->D->D->D->Bool
 |.int t,.int l,.int h,.int w=>!(decide (t<0)||(decide (l<0)||(decide (h<1)||decide (w<1))))&&(decide (t+h<=R)&&decide (l+w<=C))
 |_,_,_,_=>false
theorem Wn{R C:Int}{a b c e:D}(h:[a,b,c,e].all wh=false):Iu R C a b c e=false:=by
 cases a<;>first|rfl|skip
 cases b<;>first|rfl|skip
 cases c<;>first|rfl|skip
 cases e<;>first|rfl|cases h
theorem G1{d:D}(h:wh d=true):∃i,d=.int i:=by
 cases d<;>first|exact⟨_,rfl⟩|cases h
theorem Qx{R C:Int}{b:Bx}(g:b.Good R C):Iu R C (.int b.t) (.int b.l) (.int b.h) (.int b.w)=true:=by
 unfold Bx.Good at g;unfold Iu;simp only[Bool.and_eq_true,Bool.not_eq_true',Bool.or_eq_false_iff,decide_eq_false_iff_not,decide_eq_true_eq];exact⟨⟨λZ=>A4 [_] [A7 x0 (.n 0),A5 (.n 0) x0] rT Z g.1,⟨λZ=>A4 [_] [A7 x0 (.n 0),A5 (.n 0) x0] rT Z g.2.1,⟨λZ=>A4 [_] [A7 x0 (.n 1),A5 (.n 1) x0] rT Z g.2.2.1,λZ=>A4 [_] [A7 x0 (.n 1),A5 (.n 1) x0] rT Z g.2.2.2.1⟩⟩⟩,⟨Am λZ=>A4 [_,_,_] [A7 x2 (.a x0 x1),A5 (.a x0 x1) x2] rT Z g.2.2.2.2.1,Am λZ=>A4 [_,_,_] [A7 x2 (.a x0 x1),A5 (.a x0 x1) x2] rT Z g.2.2.2.2.2⟩⟩
noncomputable def lJ (R C:Int) (a b c e:D) (x:Option D):C3:=Gq [some (.int R),some (.int C),some a,some b,some c,some e,x]
theorem zJi{R C:Int}{a b c e:D}{x:Option D}{d:D}:upd (lJ R C a b c e x) 6 d=lJ R C a b c e (some d):=An rfl
inductive zKr (R C:Int) (a b c e:D) (st:St) (rem:List D) (st':St):Prop
 |mk (x:Option D) (a0:st'=⟨lJ R C a b c e x,st.sto⟩) (a1:(∀d,d∈rem->Bg d=true)) (a2:[a,b,c,e].all wh=rem.all wh):zKr R C a b c e st rem st'
theorem zB8{R C:Int}{a b c e:D}(ha:Bg a=true) (hb:Bg b=true) (hc:Bg c=true) (he:Bg e=true){st:St}:Hn [.int R,.int C,a,b,c,e] st=.ok (.bool (Iu R C a b c e)) st:=by
 have hloc:Cj Bh [0,1,2,3,4,5] [.int R,.int C,a,b,c,e]=lJ R C a b c e none:=by
  funext i;rcases i with _|_|_|_|_|_|_|i<;>rfl
 refine Bb (Cq rfl ?_)
 rw[hloc];unfold N6;refine Ag (Af.mpr (A9 (a:=⟨[a,b,c,e],λ_=>True⟩) (st1:=⟨lJ R C a b c e none,st.sto⟩) rfl ?_))
 refine E6 (zKr R C a b c e st) ?_ ?_ _ _ ⟨none,rfl,λd m=>?_,rfl⟩
 ·rintro d rest _ ⟨x,rfl,hm,hw⟩
  refine⟨trivial,lJ R C a b c e (some d),congrArg some zJi,?_⟩
  have t:(E8 (bnd (bnd (A0 (A6 6) Ah) Dg) As)) ⟨lJ R C a b c e (some d),st.sto⟩=.ok (!wh d) ⟨lJ R C a b c e (some d),st.sto⟩:=Aa (Aa (Aa rfl (Wc (hm d lq1))) rfl) rfl
  rw[show(d::rest).all wh=(wh d&&rest.all wh)from rfl]at hw
  cases h:wh d with
  |true=>
   rw[h]at t hw;exact Ag (Ch t rfl (A9 rfl (A9 rfl ⟨_,rfl,λd m=>hm d (lq4 _ m),by rw[hw];rfl⟩)))
  |false=>
   rw[h]at t hw;refine Ag (Gp t rfl (Bv rfl ?_))
   rw[Wn hw];exact⟨rfl,rfl⟩
 ·rintro _ ⟨x,rfl,_,hw⟩
  refine⟨trivial,?_⟩
  simp only[List.all_cons,List.all_nil,Bool.and_true,Bool.and_eq_true]at hw;obtain⟨t,rfl⟩:=G1 hw.1;obtain⟨l,rfl⟩:=G1 hw.2.1;obtain⟨h,rfl⟩:=G1 hw.2.2.1;obtain⟨w,rfl⟩:=G1 hw.2.2.2;have t1:(Hp (Bc It (A6 2) (ret1 (.int 0))) (Hp (Bc It (A6 3) (ret1 (.int 0))) (Hp (Bc It (A6 4) (ret1 (.int 1))) (Bc It (A6 5) (ret1 (.int 1)))))) ⟨lJ R C (.int t) (.int l) (.int h) (.int w) x,st.sto⟩=.ok (decide (t<0)||(decide (l<0)||(decide (h<1)||decide (w<1)))) ⟨lJ R C (.int t) (.int l) (.int h) (.int w) x,st.sto⟩:=
   Ef (Bd rfl rfl rfl rfl) (Ef (Bd rfl rfl rfl rfl) (Ef (Bd rfl rfl rfl rfl) (Bd rfl rfl rfl rfl)))
  have eL:Iu R C (.int t) (.int l) (.int h) (.int w)=(!(decide (t<0)||(decide (l<0)||(decide (h<1)||decide (w<1))))&&(decide (t+h<=R)&&decide (l+w<=C))):=rfl
  rw[eL]
  cases q:(decide (t<0)||(decide (l<0)||(decide (h<1)||decide (w<1))))with
  |true=>
   rw[q]at t1;exact Ag (Gp t1 rfl (Bv rfl ⟨rfl,rfl⟩))
  |false=>
   rw[q]at t1;refine Ag (Ch t1 rfl (A9 rfl (Ag (Af.mpr (A9 (zAf (Ab (Ab rfl rfl rfl) rfl rfl) (Ab (Ab rfl rfl rfl) rfl rfl)) (A9 rfl ⟨?_,rfl⟩))))))
   rw[Bool.not_false,Bool.true_and]
 ·simp only[List.mem_cons,List.not_mem_nil,or_false]at m;rcases m with rfl|rfl|rfl|rfl<;>assumption
theorem Az{m:Mn D}{ms:Mn (List D)}{d:D}{ds:List D}{S S1 S2:St}(e1:m S=.ok d S1) (e2:ms S1=.ok ds S2):A0 m ms S=.ok (d::ds) S2:=Aa e1 (Aa e2 rfl)
noncomputable def N7 (r q:Int) (c:Ce):Bool:=decide (c.b.t<=r)&&(decide (r<c.b.t+c.b.h)&&(decide (c.b.l<=q)&&decide (q<c.b.l+c.b.w)))
noncomputable def oL (a b c:D) (x:Option D):C3:=Gq [some a,some b,some c,x]
theorem zKB{a b c d:D}{x:Option D}:upd (oL a b c x) 3 d=oL a b c (some d):=An rfl
inductive zKa (a b c:D) (σ:Bm) (cs:List Ce) (r q:Int) (rem:List D) (st':St):Prop
 |mk (cr:List Ce) (x:Option D) (a0:rem=cr.map Av) (a1:st'=⟨oL a b c x,σ⟩) (a2:cs.find? (N7 r q)=cr.find? (N7 r q)):zKa a b c σ cs r q rem st'
theorem zCZ{k:Nat}{body:Mn Fl}{σ:Bm}{cs:List Ce}{a b c:D}{r q:Int}{Q:Fl->St->Prop}(hg:σ[k]? =some (.list (cs.map Av)))
  (hb:∀e,body ⟨oL a b c (some (Av e)),σ⟩=.ok (bif N7 r q e then .ret (Av e)else .next) ⟨oL a b c (some (Av e)),σ⟩)
  (hQ:∀x,match cs.find? (N7 r q)with
   |some e=>Q (.ret (Av e)) ⟨oL a b c (some (Av e)),σ⟩
   |none=>Q .next ⟨oL a b c x,σ⟩) (x:Option D):W (D9 (Ca 3) (λσ=>σ[k]? =some (.list (cs.map Av))) body (cs.map Av)) ⟨oL a b c x,σ⟩ Q:=by
 refine E6 (zKa a b c σ cs r q) ?_ ?_ _ _ ⟨cs,x,rfl,rfl,rfl⟩
 ·rintro d rest _ ⟨cr,x,hrem,rfl,he⟩
  cases cr with
  |nil=>cases hrem
  |cons e cr=>
   cases hrem;refine⟨hg,oL a b c (some (Av e)),congrArg some zKB,A9 (hb e) ?_⟩
   cases h:N7 r q e with
   |true=>
    have:=hQ x
    rw[he,List.find?_cons,h]at this;exact this
   |false=>exact⟨cr,_,rfl,rfl,by rw[he,List.find?_cons,h]⟩
 ·rintro _ ⟨cr,x,hrem,rfl,he⟩
  cases cr with
  |cons e cr=>cases hrem
  |nil=>
   have:=hQ x
   rw[he]at this;exact⟨hg,this⟩
theorem zAo{b:Bool}{m1:Mn Bool}{S:St}{d:D}(e:m1 S=.ok b S) (h3:S.loc 3=some d):Ad (Di m1 (Ad (Bt (A6 3)) (ret1 .next)) (ret1 .next)) (ret1 .next) S=.ok (bif b then .ret d else .next) S:=by
 refine Bb (Ag ?_)
 cases b with
 |true=>exact Gp e rfl (Bv (Aa (Bf h3) rfl) ⟨rfl,rfl⟩)
 |false=>exact Ch e rfl (A9 rfl (A9 rfl ⟨rfl,rfl⟩))
theorem Tq{ma mb mc:Mn D}{a b c:Int}{S:St}(e1:ma S=.ok (.int a) S) (e2:mb S=.ok (.int b) S) (e3:mc S=.ok (.int c) S):Nd Mp It ma mb mc S=.ok (decide (a<=b)&&decide (b<c)) S:=by
 refine Aa e1 (Aa e2 (Aa (b:=.bool (decide (a<=b))) rfl (Aa (b:=decide (a<=b)) rfl ?_)))
 cases decide (a<=b)with
 |true=>exact Aa e3 (Aa rfl rfl)
 |false=>rfl
theorem Tk{T d1 d2:D}{x:Option D}{σ:Bm}(h1:Bg d1=true) (h2:Bg d2=true):
  Hp (E8 (bnd (bnd (A0 (A6 1) Ah) Dg) As)) (E8 (bnd (bnd (A0 (A6 2) Ah) Dg) As)) ⟨oL T d1 d2 x,σ⟩=.ok (!wh d1||!wh d2) ⟨oL T d1 d2 x,σ⟩:=
 Ef (Aa (Aa (Aa rfl (Wc h1)) rfl) rfl) (Aa (Aa (Aa rfl (Wc h2)) rfl) rfl)
theorem Uc{T:D}{r q:Int}{σ:Bm}(c:Ce):(Ad (Di (Fa (Bc Mp (ix 3 0) (A6 1)) (Fa (Bc It (A6 1) (Ac Au (ix 3 0) (ix 3 2))) (Fa (Bc Mp (ix 3 1) (A6 2)) (Bc It (A6 2) (Ac Au (ix 3 1) (ix 3 3)))))) (Ad (Bt (A6 3))
 (ret1 .next)) (ret1 .next))
 (ret1 .next)) ⟨oL T (.int r) (.int q) (some (Av c)),σ⟩=.ok (bif N7 r q c then .ret (Av c)else .next) ⟨oL T (.int r) (.int q) (some (Av c)),σ⟩:=
 zAo (H2 (Bd (Ab rfl rfl rfl) rfl rfl rfl) (H2 (Bd rfl (Ab (Ab rfl rfl rfl) (Ab rfl rfl rfl) rfl) rfl rfl) (H2 (Bd (Ab rfl rfl rfl) rfl rfl rfl) (Bd rfl (Ab (Ab rfl rfl rfl) (Ab rfl rfl rfl) rfl) rfl rfl)))) rfl
theorem zFJ{cs:List Ce}{R C:Int}{k:Nat}{r q:Int}{e:Ce}{st:St}{Q:D->St->Prop}(hk:st.sto[k]? =some (.list (cs.map Av))) (he:cs.find? (N7 r q)=some e) (hQ:Q (Av e) st):W (Mh [D0 R C k,.int r,.int q]) st Q:=by
 have hloc:Cj Bh [0,1,2] [D0 R C k,.int r,.int q]=oL (D0 R C k) (.int r) (.int q) none:=by
  funext i;rcases i with _|_|_|_|i<;>rfl
 refine Cq rfl ?_
 rw[hloc];unfold Ke;refine Ag (Ch (Tk rfl rfl) rfl (A9 rfl (Ag (Af.mpr (A9 (Aa (Ab rfl rfl rfl) (Bb (Hj.mpr ⟨_,hk,rfl,rfl⟩))) ?_)))))
 refine zCZ (r:=r) (q:=q) hk Uc (λx=>?_) none
 rw[he];exact hQ
theorem Xl{m n:Mn Fl}{c:Addr}{S S' S'':St}(e1:m S=.ok .next S') (e2:n S'=.exc c S''):Ad m n S=.exc c S'':=by unfold Ad bnd;rw[e1];exact e2
theorem Tm{m n:Mn Fl}{c:Addr}{S S'':St}(e1:m S=.exc c S''):Ad m n S=.exc c S'':=by unfold Ad bnd;rw[e1]
theorem zGO{m:Mn Bool}{a b:Mn Fl}{c:Addr}{S S' S'':St}(e1:m S=.ok true S') (e2:a S'=.exc c S''):Di m a b S=.exc c S'':=by unfold Di bnd;rw[e1];exact e2
theorem zGZ{ps:List Nat}{body:Mn Fl}{ds:List D}{c:Addr}{st S:St}(hl:ds.length=ps.length) (e:body ⟨Cj Bh ps ds,st.sto⟩=.exc c S):Dp ps body ds st=.exc c ⟨st.loc,S.sto⟩:=by
 unfold Dp;rw[if_pos hl,e]
theorem Zr{cs:List Ce}{R C:Int}{k:Nat}{d1 d2:D}{st:St}(hk:st.sto[k]? =some (.list (cs.map Av))) (h1:Bg d1=true) (h2:Bg d2=true)
  (hn:wh d1=false∨wh d2=false∨∃r q,d1=.int r/\d2=.int q/\cs.find? (N7 r q)=none):Mh [D0 R C k,d1,d2] st=.exc 97 st:=by
 have hloc:Cj Bh [0,1,2] [D0 R C k,d1,d2]=oL (D0 R C k) d1 d2 none:=by
  funext i;rcases i with _|_|_|_|i<;>rfl
 have key:∃l,Ke ⟨oL (D0 R C k) d1 d2 none,st.sto⟩=.exc 97 ⟨l,st.sto⟩:=by
  have tt:=Tk (T:=D0 R C k) (x:=none) (σ:=st.sto) h1 h2;by_cases hw:(!wh d1||!wh d2)=true
  ·rw[hw]at tt;refine⟨oL (D0 R C k) d1 d2 none,?_⟩
   unfold Ke;exact Tm (zGO tt (Tm rfl))
  ·rw[Bool.eq_false_iff.mpr hw]at tt;rcases hn with h|h|⟨r,q,rfl,rfl,hf⟩
   ·rw[h]at hw;exact absurd rfl hw
   ·rw[h,Bool.not_false,Bool.or_true]at hw;exact absurd rfl hw
   ·obtain⟨fl,S',e,hfl⟩:=zCZ (r:=r) (q:=q) (a:=D0 R C k) (b:=.int r) (c:=.int q) (k:=k) (σ:=st.sto) (cs:=cs) (Q:=λfl S=>fl=.next/\∃x,S=⟨oL (D0 R C k) (.int r) (.int q) x,st.sto⟩) hk Uc (λx=>by rw[hf];exact⟨rfl,x,rfl⟩) none
    obtain⟨rfl,x,rfl⟩:=hfl;refine⟨oL (D0 R C k) (.int r) (.int q) x,?_⟩
    unfold Ke;refine Xl (S':=⟨oL (D0 R C k) (.int r) (.int q) none,st.sto⟩) (Bb (Ch tt rfl (A9 rfl ⟨rfl,rfl⟩))) (Xl (Aa (Aa (Ab rfl rfl rfl) (Bb (Hj.mpr ⟨_,hk,rfl,rfl⟩))) e) rfl)
 obtain⟨l,e⟩:=key;exact zGZ (S:=⟨l,st.sto⟩) rfl (by rw[hloc];exact e)
theorem zDR{R C r q:Int}{cs:List Ce}(ok:Bq R C cs) (h1:0<=r) (h2:r<R) (h3:0<=q) (h4:q<C):∃e,e∈cs/\cs.find? (N7 r q)=some e:=by
 obtain⟨b,mb,hb⟩:=ok.cov r q h1 h2 h3 h4;obtain⟨c,mc,rfl⟩:=List.mem_map.mp mb;have hs:(cs.find? (N7 r q)).isSome=true:=by
  rw[List.find?_isSome];refine⟨c,mc,?_⟩
  unfold Bx.In at hb;unfold N7;rw[decide_eq_true hb.1,decide_eq_true hb.2.1,decide_eq_true hb.2.2.1,decide_eq_true hb.2.2.2];rfl
 obtain⟨e,he⟩:=Option.isSome_iff_exists.mp hs;exact⟨e,List.mem_of_find?_eq_some he,he⟩
theorem Ly{R C r q:Int}{cs:List Ce}(ok:Bq R C cs) (h:r<0∨R<=r∨q<0∨C<=q):cs.find? (N7 r q)=none:=by
 rw[List.find?_eq_none];intro c mc hc;have hg:=ok.til.1 c.b (List.mem_map.mpr ⟨c,mc,rfl⟩);unfold Bx.Good at hg;unfold N7 at hc;simp only[Bool.and_eq_true,decide_eq_true_eq]at hc;exact Or.elim h (λhd4=>A4 [_,_] [A5 (.n 0) x0,A5 x0 x1,A7 x1 (.n 0)] rT hg.1 hc.1 hd4) (λhd4=>Or.elim hd4 (λhd5=>A4 [_,_,_,_] [A5 (.a x1 x2) x0,A7 x3 (.a x1 x2),A5 x0 x3] rT hg.2.2.2.2.1 hc.2.1 hd5) (λhd5=>Or.elim hd5 (λhd6=>A4 [_,_] [A5 (.n 0) x0,A5 x0 x1,A7 x1 (.n 0)] rT hg.2.1 hc.2.2.1 hd6) (λhd6=>A4 [_,_,_,_] [A5 (.a x1 x2) x0,A7 x3 (.a x1 x2),A5 x0 x3] rT hg.2.2.2.2.2 hc.2.2.2 hd6)))
end
section
open Builtin.Str
noncomputable def Vy (x:List Int):D:=.tup (x.map D.int)
theorem zB9{α:Type}(σ:List α) (x y:α):(σ++[x]).set σ.length y=σ++[y]:=by
 rw[List.set_append_right _ _ (Nat.le_refl _),Nat.sub_self];rfl
noncomputable def qS (d:D) (k:Nat) (a b:Option D):C3:=Gq [some d,some (.ref k),a,b]
theorem zKC{d:D}{k:Nat}{a b:Option D}{x:D}:upd (qS d k a b) 2 x=qS d k (some x) b:=An rfl
theorem zK2{d:D}{k:Nat}{a b:Option D}{x:D}:upd (qS d k a b) 3 x=qS d k a (some x):=An rfl
inductive zK6 (d:D) (st:St) (b:Bx) (i:Nat) (dl:List (List Int)) (rem:List D) (st':St):Prop
 |mk (js:List Nat) (dl2:List (List Int)) (c:Option D) (a0:st'=⟨qS d st.sto.length (some (.int (b.t+(i:Int)))) c,st.sto++[.list (dl2.map Vy)]⟩) (a1:rem=js.map (λ(j:Nat)=>D.int (b.l+(j:Int)*1))) (a2:dl2++js.map (λ(j:Nat)=>[b.t+(i:Int),b.l+(j:Int)])=dl++Lm b.l b.w.toNat (b.t+(i:Int))):zK6 d st b i dl rem st'
inductive zKe (d:D) (st:St) (b:Bx) (rem:List D) (st':St):Prop
 |mk (is:List Nat) (dl:List (List Int)) (a c:Option D) (a0:st'=⟨qS d st.sto.length a c,st.sto++[.list (dl.map Vy)]⟩) (a1:rem=is.map (λ(i:Nat)=>D.int (b.t+(i:Int)*1))) (a2:dl++is.flatMap (λ(i:Nat)=>Lm b.l b.w.toNat (b.t+(i:Int)))=sq b):zKe d st b rem st'
theorem Qb{b:Bx}{x:Str}{R C:Int}(g:b.Good R C) (hR:R<=20) (hC:C<=20){st:St}{Q:D->St->Prop}(hQ:Q (.ref st.sto.length) ⟨st.loc,st.sto++[.list ((sq b).map Vy)]⟩):W (E4 [.tup [.int b.t,.int b.l,.int b.h,.int b.w,.str x]]) st Q:=by
 have hsl:(1000:Nat)<=sizeLine:=by decide
 unfold Bx.Good at g;have hln:(sq b).length<=400:=by
  rw[Rs];have h1:b.h.toNat<=20:=by exact Gk (Am λZ=>A4 [_,_,_,_] [A7 (.n 20) x0,A5 (.n 0) x1,A5 (.a x1 x2) x3,A5 x3 (.n 20),B9 x0 x2] rT Z g.1 g.2.2.2.2.1 hR (Cf (Am λY=>A4 [_] [A7 x0 (.n 0),A5 (.n 1) x0] rT Y g.2.2.1)))
  have h2:b.w.toNat<=20:=by exact Gk (Am λZ=>A4 [_,_,_,_] [A7 (.n 20) x0,A5 (.n 0) x1,A5 (.a x1 x2) x3,A5 x3 (.n 20),B9 x0 x2] rT Z g.2.1 g.2.2.2.2.2 hC (Cf (Am λY=>A4 [_] [A7 x0 (.n 0),A5 (.n 1) x0] rT Y g.2.2.2.1)))
  exact Nat.mul_le_mul h1 h2
 generalize hd:D.tup [.int b.t,.int b.l,.int b.h,.int b.w,.str x]=d
 have hloc:upd (Cj Bh [0] [d]) 1 (.ref st.sto.length)=qS d st.sto.length none none:=by
  funext i;rcases i with _|_|_|_|i<;>rfl
 have e0:∀S:St,Co d (.int 0) S=.ok (.int b.t) S:=λS=>by rw[←hd];rfl
 have e1:∀S:St,Co d (.int 1) S=.ok (.int b.l) S:=λS=>by rw[←hd];rfl
 have e2:∀S:St,Co d (.int 2) S=.ok (.int b.h) S:=λS=>by rw[←hd];rfl
 have e3:∀S:St,Co d (.int 3) S=.ok (.int b.w) S:=λS=>by rw[←hd];rfl
 refine Cq rfl ?_
 unfold Iq;refine Bi (st1:=⟨qS d st.sto.length none none,st.sto++[.list []]⟩) (by rw[←hloc];rfl) ?_
 refine Ag (Af.mpr (A9 (a:=⟨G6 b.t 1 b.h.toNat,λ_=>True⟩) (st1:=⟨qS d st.sto.length none none,st.sto++[.list []]⟩) (Aa (b:=[.int b.t,.int (b.t+b.h)]) (Aa (Ab rfl rfl (e0 _)) (Aa (Aa (Ab (Ab rfl rfl (e0 _)) (Ab rfl rfl (e2 _)) rfl) (Aa rfl rfl)) rfl)) (Bb (U6.mpr ⟨by simp only[Bool.and_eq_true,E1];exact⟨⟨Am λZ=>A4 [_] [A7 x0 (.s (.n 0) (.n 1099511627776)),A5 (.n 0) x0] rT Z g.1,C4 λZ=>A4 [_,_,_] [A5 (.n 1099511627776) x0,A5 (.n 1) x1,A5 (.a x0 x1) x2,A5 x2 (.n 20)] rT Z g.2.2.1 g.2.2.2.2.1 hR⟩,⟨Am λZ=>A4 [_,_] [A7 (.a x0 x1) (.s (.n 0) (.n 1099511627776)),A5 (.n 0) x0,A5 (.n 1) x1] rT Z g.1 g.2.2.1,C4 λZ=>A4 [_,_,_] [A5 (.n 1099511627776) (.a x0 x1),A5 (.a x0 x1) x2,A5 x2 (.n 20)] rT Z g.2.2.2.2.1 hR⟩⟩,by rw[show b.t+b.h - b.t=b.h by exact Ur (λZ=>A4 [_,_] [A7 (.s (.a x0 x1) x0) x1] rT Z) (λZ=>A4 [_,_] [A7 x1 (.s (.a x0 x1) x0)] rT Z)],rfl⟩))) ?_))
 refine E6 (zKe d st b) ?_ ?_ _ _ ⟨List.range b.h.toNat,[],none,none,rfl,rfl,rfl⟩
 ·rintro d' rest _ ⟨is,dl,a,c,rfl,hrem,he⟩
  cases is with
  |nil=>cases hrem
  |cons i is=>
   cases hrem;rw[List.flatMap_cons,←lq8]at he;refine⟨trivial,qS d st.sto.length (some (.int (b.t+(i:Int)))) c,by show some (upd _ 2 (D.int (b.t+(i:Int)*1)))=_;rw[Int.mul_one];exact congrArg some zKC,?_⟩
   refine Ag (Af.mpr (A9 (a:=⟨G6 b.l 1 b.w.toNat,λ_=>True⟩) (st1:=⟨qS d st.sto.length (some (.int (b.t+(i:Int)))) c,st.sto++[.list (dl.map Vy)]⟩) (Aa (b:=[.int b.l,.int (b.l+b.w)]) (Aa (Ab rfl rfl (e1 _)) (Aa (Aa (Ab (Ab rfl rfl (e1 _)) (Ab rfl rfl (e3 _)) rfl) (Aa rfl rfl)) rfl)) (Bb (U6.mpr ⟨by simp only[Bool.and_eq_true,E1];exact⟨⟨Am λZ=>A4 [_] [A7 x0 (.s (.n 0) (.n 1099511627776)),A5 (.n 0) x0] rT Z g.2.1,C4 λZ=>A4 [_,_,_] [A5 (.n 1099511627776) x0,A5 (.n 1) x1,A5 (.a x0 x1) x2,A5 x2 (.n 20)] rT Z g.2.2.2.1 g.2.2.2.2.2 hC⟩,⟨Am λZ=>A4 [_,_] [A7 (.a x0 x1) (.s (.n 0) (.n 1099511627776)),A5 (.n 0) x0,A5 (.n 1) x1] rT Z g.2.1 g.2.2.2.1,C4 λZ=>A4 [_,_,_] [A5 (.n 1099511627776) (.a x0 x1),A5 (.a x0 x1) x2,A5 x2 (.n 20)] rT Z g.2.2.2.2.2 hC⟩⟩,by rw[show b.l+b.w - b.l=b.w by exact Ur (λZ=>A4 [_,_] [A7 (.s (.a x0 x1) x0) x1] rT Z) (λZ=>A4 [_,_] [A7 x1 (.s (.a x0 x1) x0)] rT Z)],rfl⟩))) ?_))
   refine E6 (zK6 d st b i dl) ?_ ?_ _ _ ⟨List.range b.w.toNat,dl,c,rfl,rfl,rfl⟩
   ·rintro d' rest' _ ⟨js,dl2,c,rfl,hrem,he2⟩
    cases js with
    |nil=>cases hrem
    |cons j js=>
     cases hrem;have hl2:dl2.length<=400:=by
      have h1:=congrArg List.length he2;have h2:=congrArg List.length he;simp only[lq7,lq6,List.length_cons]at h1 h2;exact Aw λZ=>A8 [_,_,_,_,_,_] [A7 (.n 400) x0,A5 x1 (.n 400),B9 (.a x0 (.a x2 (.n 1))) (.a x3 x4),B9 (.a (.a x3 x4) x5) x1,A5 (.n 0) x2,A5 (.n 0) x5] rT Z hln h1 h2 (lq5 _) (lq5 _)
     refine⟨trivial,qS d st.sto.length (some (.int (b.t+(i:Int)))) (some (.int (b.l+(j:Int)))),by show some (upd _ 3 (D.int (b.l+(j:Int)*1)))=_;rw[Int.mul_one];exact congrArg some zK2,?_⟩
     refine Ag (Af.mpr (Af.mpr (A9 rfl (Tu.mpr ⟨⟨_,lq3⟩,Af.mpr (A9 (a:=Vy [b.t+(i:Int),b.l+(j:Int)]) rfl (Ju.mpr ⟨_,lq3,by rw[lq6];exact Aw λZ=>A8 [_,_] [A7 x0 x1,A5 (.n 1000) x0,A5 x1 (.n 400)] rT Z hsl hl2,A9 rfl (A9 rfl ?_)⟩))⟩))))
     exact⟨js,dl2++[[b.t+(i:Int),b.l+(j:Int)]],_,by rw[List.map_append,zB9];rfl,rfl,by rw[←he2,lq8];rfl⟩
   ·rintro _ ⟨js,dl2,c,rfl,hrem,he2⟩
    cases js with
    |cons j js=>cases hrem
    |nil=>
     rw[List.map_nil,List.append_nil]at he2;exact⟨trivial,A9 rfl ⟨is,dl2,_,c,rfl,rfl,by rw[he2];exact he⟩⟩
 ·rintro _ ⟨is,dl,a,c,rfl,hrem,he⟩
  cases is with
  |cons i is=>cases hrem
  |nil=>
   rw[List.flatMap_nil,List.append_nil]at he;subst he;exact⟨trivial,Bv rfl hQ⟩
end
section
open Builtin.Str
theorem C8.set{σ:Bm}{k:Nat}{ds es:List D}(h:C8 σ) (hk:σ[k]? =some (.list ds)):C8 (σ.set k (.list es)):=by
 obtain⟨m,e,hm⟩:=h;refine⟨m,?_,λi q=>?_⟩
 ·rw[List.getElem?_set_ne (λz=>by rw[z,e]at hk;cases hk)];exact e
 ·rw[List.getElem?_set_ne (λz=>by rw[z,hm i q]at hk;cases hk)];exact hm i q
noncomputable def Fw (T:D) (p:Bx) (i o ce m r q t:Option D):C3:=Gq [some T,some (.int p.t),some (.int p.l),some (.int p.h),some (.int p.w),i,o,ce,m,r,q,t]
section
variable {T:D}{p:Bx}{i o ce m r q t:Option D}{x y:D}
theorem zJ9:upd (Fw T p i o ce m r q t) 5 x=Fw T p (some x) o ce m r q t:=An rfl
theorem zJa:upd (Fw T p i o ce m r q t) 6 x=Fw T p i (some x) ce m r q t:=An rfl
theorem zF2:upd (Fw T p i o ce m r q t) 7 x=Fw T p i o (some x) m r q t:=An rfl
theorem zF3:upd (Fw T p i o ce m r q t) 8 x=Fw T p i o ce (some x) r q t:=An rfl
theorem zJO:upd (upd (Fw T p i o ce m r q t) 9 x) 10 y=Fw T p i o ce m (some x) (some y) t:=by
 rw[show upd (Fw T p i o ce m r q t) 9 x=Fw T p i o ce m (some x) q t from An rfl]
 exact An rfl
theorem zHr:upd (Fw T p i o ce m r q t) 11 x=Fw T p i o ce m r q (some x):=An rfl
end
noncomputable def zF6:Mn Fl:=(Ad (Di (Fa (Bc Mp (A6 1) (A6 9)) (Fa (Bc It (A6 9) (Ac Au (A6 1) (A6 3))) (Fa (Bc Mp (A6 2) (A6 10)) (Bc It (A6 10) (Ac Au (A6 2) (A6 4)))))) (Ad (bnd (Ac Au (A6 8) (ret1 (.int 1))) (Aj 8))
 (ret1 .next)) (ret1 .next))
 (ret1 .next))
noncomputable def Vt:Mn Fl:=(bnd (bnd (bnd (A0 (A6 7) Ah) E4) Dy) λsrc=>D9 (Sf 2 (Iv (Ca 9) (Iv (Ca 10) Op))) src.g zF6 src.ds)
section
variable {T:D}{p:Bx}{i o t r q:Option D}{σ:Bm}{R C:Int}
inductive zKm (T:D) (p:Bx) (i o:Option D) (c:Ce) (t:Option D) (σ:Bm) (rem:List D) (s:St):Prop
 |mk (xs:List (List Int)) (n:Nat) (r' q':Option D) (a0:s=⟨Fw T p i o (some (Av c)) (some (.int (n:Nat))) r' q' t,σ++[.list ((sq c.b).map Vy)]⟩) (a1:rem=xs.map Vy) (a2:n+xs.countP (Vs p)=(sq c.b).countP (Vs p)) (a3:∀x,x∈xs->x∈sq c.b):zKm T p i o c t σ rem s
theorem zA8{c:Ce}(g:c.b.Good R C) (hR:R<=20) (hC:C<=20):
  W Vt ⟨Fw T p i o (some (Av c)) (some (.int 0)) r q t,σ⟩ λfl s=>fl=.next/\∃r' q',s=⟨Fw T p i o (some (Av c)) (some (.int ((sq c.b).countP (Vs p):Nat))) r' q' t,σ++[.list ((sq c.b).map Vy)]⟩:=by
 unfold Vt;refine Af.mpr (Af.mpr (Af.mpr (A9 rfl (Qb g hR hC (Hj.mpr ⟨_,lq3,?_⟩)))))
 refine E6 (zKm T p i o c t σ) ?_ ?_ _ _ ⟨sq c.b,0,r,q,rfl,rfl,Nat.zero_add _,λ_ m=>m⟩
 ·rintro d rest _ ⟨xs,n,r',q',rfl,hrem,he,hm⟩
  cases xs with
  |nil=>cases hrem
  |cons x xs=>
   cases hrem;obtain⟨a,b,rfl,_⟩:=Gz (hm x lq1);refine⟨lq3,_,rfl,?_⟩
   show W _ ⟨upd (upd (Fw T p i o (some (Av c)) (some (.int (n:Nat))) r' q' t) 9 (.int a)) 10 (.int b),_⟩ _
   rw[zJO];have tt:(Fa (Bc Mp (A6 1) (A6 9)) (Fa (Bc It (A6 9) (Ac Au (A6 1) (A6 3))) (Fa (Bc Mp (A6 2) (A6 10)) (Bc It (A6 10) (Ac Au (A6 2) (A6 4)))))) ⟨Fw T p i o (some (Av c)) (some (.int (n:Nat))) (some (.int a)) (some (.int b)) t,σ++[.list ((sq c.b).map Vy)]⟩=.ok (Vs p [a,b]) ⟨Fw T p i o (some (Av c)) (some (.int (n:Nat))) (some (.int a)) (some (.int b)) t,σ++[.list ((sq c.b).map Vy)]⟩:=
    H2 (Bd rfl rfl rfl rfl) (H2 (Bd rfl (Ab rfl rfl rfl) rfl rfl) (H2 (Bd rfl rfl rfl rfl) (Bd rfl (Ab rfl rfl rfl) rfl rfl)))
   rw[List.countP_cons]at he;unfold zF6
   cases h:Vs p [a,b]with
   |true=>
    rw[h]at tt he;refine Ag (Gp tt rfl (Bi (st1:=⟨Fw T p i o (some (Av c)) (some (.int ((n+1:Nat):Int))) (some (.int a)) (some (.int b)) t,σ++[.list ((sq c.b).map Vy)]⟩) (by rw[←zF3 (m:=some (.int (n:Nat))) (x:=.int ((n+1:Nat):Int))];rfl) (A9 rfl (A9 rfl ⟨xs,n+1,_,_,rfl,rfl,?_,λx mx=>hm x (lq4 _ mx)⟩))))
    rw[if_pos rfl]at he;exact Ha (λZ=>A8 [_,_,_] [A7 (.a (.a x0 (.n 1)) x1) x2,Gl (.a x0 (.a x1 (.n 1))) x2] rT Z he) (λZ=>A8 [_,_,_] [A7 x2 (.a (.a x0 (.n 1)) x1),B9 (.a x0 (.a x1 (.n 1))) x2] rT Z he)
   |false=>
    rw[h]at tt he;refine Ag (Ch tt rfl (A9 rfl (A9 rfl ⟨xs,n,_,_,rfl,rfl,?_,λx mx=>hm x (lq4 _ mx)⟩)))
    rw[if_neg (by simp)]at he;exact Ha (λZ=>A8 [_,_,_] [A7 (.a x0 x1) x2,Gl (.a x0 (.a x1 (.n 0))) x2] rT Z he) (λZ=>A8 [_,_,_] [A7 x2 (.a x0 x1),B9 (.a x0 (.a x1 (.n 0))) x2] rT Z he)
 ·rintro _ ⟨xs,n,r',q',rfl,hrem,he,_⟩
  cases xs with
  |cons x xs=>cases hrem
  |nil=>
   rw[List.countP_nil,Nat.add_zero]at he;subst he;exact⟨lq3,rfl,r',q',rfl⟩
end
end
section
open Builtin.Str
theorem Kp.setNew{σ0 σ:Bm}{k:Nat}{o:PO}(h:Kp σ0 σ) (hk:σ0.length<=k):Kp σ0 (σ.set k o):=
 ⟨by rw[List.length_set];exact h.1,λi ds e=>by
  have hi:=(lq2 e).1;rw[List.getElem?_set_ne (by exactλZ=>A8 [_,_,_] [B9 x0 x1,A5 x2 x0,A7 x1 x2] rT Z hk hi)]
  exact h.2 i ds e⟩
structure JI (σ0:Bm) (k5 k6:Nat) (σ:Bm) (inn out:List Ce):Prop where
 kp:Kp σ0 σ
 tab:C8 σ
 g5:σ[k5]? =some (.list (inn.map Av))
 g6:σ[k6]? =some (.list (out.map Av))
 n5:σ0.length<=k5
 n6:σ0.length<=k6
 ne:k5≠k6
theorem JI.ext{σ0 σ:Bm}{k5 k6:Nat}{inn out:List Ce}(h:JI σ0 k5 k6 σ inn out) (j:Bm):JI σ0 k5 k6 (σ++j) inn out:=
 ⟨h.kp.trans (.app _ _),h.tab.ext (.app _ _),(Ft.app _ _).get h.g5,(Ft.app _ _).get h.g6,h.n5,h.n6,h.ne⟩
theorem JI.inn{σ0 σ:Bm}{k5 k6:Nat}{inn out:List Ce}(h:JI σ0 k5 k6 σ inn out) (c:Ce):JI σ0 k5 k6 (σ.set k5 (.list (inn.map Av++[Av c]))) (inn++[c]) out:=
 ⟨h.kp.setNew h.n5,h.tab.set h.g5,by rw[List.map_append];exact List.getElem?_set_self (lq2 h.g5).1,by rw[List.getElem?_set_ne h.ne];exact h.g6,h.n5,h.n6,h.ne⟩
theorem JI.out{σ0 σ:Bm}{k5 k6:Nat}{inn out:List Ce}(h:JI σ0 k5 k6 σ inn out) (c:Ce):JI σ0 k5 k6 (σ.set k6 (.list (out.map Av++[Av c]))) inn (out++[c]):=
 ⟨h.kp.setNew h.n6,h.tab.set h.g6,by rw[List.getElem?_set_ne (Ne.symm h.ne)];exact h.g5,by rw[List.map_append];exact List.getElem?_set_self (lq2 h.g6).1,h.n5,h.n6,h.ne⟩
noncomputable def Vc:Mn Fl:=(Ad (bnd (ret1 (.int 0)) (Aj 8))
 (Ad Vt
 (Ad (Di (Bc Ex (A6 8) (ret1 (.int 0))) (Ad (bnd (bnd (A6 6) (De λk=>bnd (A6 7) (Br k))) Dr)
 (ret1 .next)) (Ad (Di (Bc Ex (A6 8) (Ac Ep (ix 7 2) (ix 7 3))) (Ad (bnd (bnd (A6 5) (De λk=>bnd (A6 7) (Br k))) Dr)
 (ret1 .next)) (Ad (H0 109)
 (ret1 .next)))
 (ret1 .next)))
 (ret1 .next))))
section
variable {T:D}{p:Bx}{R C:Int}{σ0 σ:Bm}{k5 k6:Nat}{inn out:List Ce}{m r q:Option D}
theorem Tl{c:Ce}(g:c.b.Good R C) (hR:R<=20) (hC:C<=20) (h:JI σ0 k5 k6 σ inn out){P:Mn Fl->St->Prop}
  (hW:∀(a b:Mn Fl) (s s':St),a s=.ok .next s'->P b s'->P (Ad a b) s)
  (hQ:∀(r' q':Option D) (σ':Bm),JI σ0 k5 k6 σ' inn out->P (Ad (Di (Bc Ex (A6 8) (ret1 (.int 0))) (Ad (bnd (bnd (A6 6) (De λk=>bnd (A6 7) (Br k))) Dr)
 (ret1 .next)) (Ad (Di (Bc Ex (A6 8) (Ac Ep (ix 7 2) (ix 7 3))) (Ad (bnd (bnd (A6 5) (De λk=>bnd (A6 7) (Br k))) Dr)
 (ret1 .next)) (Ad (H0 109)
 (ret1 .next)))
 (ret1 .next)))
 (ret1 .next)) ⟨Fw T p (some (.ref k5)) (some (.ref k6)) (some (Av c)) (some (.int ((sq c.b).countP (Vs p):Nat))) r' q' none,σ'⟩):
  P Vc ⟨Fw T p (some (.ref k5)) (some (.ref k6)) (some (Av c)) m r q none,σ⟩:=by
 unfold Vc;refine hW _ _ _ ⟨Fw T p (some (.ref k5)) (some (.ref k6)) (some (Av c)) (some (.int 0)) r q none,σ⟩ (by rw[←zF3 (m:=m) (x:=.int 0)];rfl) ?_
 obtain⟨fl,s,e,rfl,r',q',rfl⟩:=zA8 (T:=T) (p:=p) (i:=some (.ref k5)) (o:=some (.ref k6)) (t:=none) (r:=r) (q:=q) (σ:=σ) g hR hC
 exact hW _ _ _ _ e (hQ r' q' _ (h.ext _))
theorem zCp{k i:Nat}{es:List D}{c:D}{l:C3}{σ:Bm}{Q:Fl->St->Prop}(hi:l i=some (.ref k)) (h7:l 7=some c) (hk:σ[k]? =some (.list es)) (hl:es.length<=1000) (hQ:Q .next ⟨l,σ.set k (.list (es++[c]))⟩):
  W (Ad (bnd (bnd (A6 i) (De λk=>bnd (A6 7) (Br k))) Dr) (ret1 .next)) ⟨l,σ⟩ Q:=
 Ag (Af.mpr (Af.mpr (A9 (Bf hi) (Tu.mpr ⟨⟨_,hk⟩,Af.mpr (A9 (Bf h7) (Ju.mpr ⟨_,hk,Nat.le_trans hl (by decide),A9 rfl (A9 rfl hQ)⟩))⟩))))
theorem Xo{c:Ce}(g:c.b.Good R C):c.b.h*c.b.w=(((sq c.b).length:Nat):Int):=by
 unfold Bx.Good at g;rw[Rs,Int.natCast_mul,Int.toNat_of_nonneg (by exact Am λZ=>A4 [_] [A7 x0 (.n 0),A5 (.n 1) x0] rT Z g.2.2.1),Int.toNat_of_nonneg (by exact Am λZ=>A4 [_] [A7 x0 (.n 0),A5 (.n 1) x0] rT Z g.2.2.2.1)]
theorem Sz{c:Ce}(g:c.b.Good R C) (hR:R<=20) (hC:C<=20){n:Int}{r' q':Option D}{i o:Option D}{σ:Bm}:(Bc Ex (A6 8) (Ac Ep (ix 7 2) (ix 7 3))) ⟨Fw T p i o (some (Av c)) (some (.int n)) r' q' none,σ⟩=.ok (n==c.b.h*c.b.w) ⟨Fw T p i o (some (Av c)) (some (.int n)) r' q' none,σ⟩:=by
 unfold Bx.Good at g;exact Bd rfl (Ab (a:=.int c.b.h) (b:=.int c.b.w) rfl rfl (Gc (by rw[Dx (by exact C4 λZ=>A4 [_] [A5 x0 (.s (.n 0) (.n 1000000)),A5 (.n 1) x0] rT Z g.2.2.1) (by exact C4 λZ=>A4 [_,_,_] [A5 (.n 1000000) x0,A5 (.n 0) x1,A5 (.a x1 x0) x2,A5 x2 (.n 20)] rT Z g.1 g.2.2.2.2.1 hR)];rfl))) rfl rfl
theorem zCW{c:Ce}(g:c.b.Good R C) (gp:p.Good R C) (hR:R<=20) (hC:C<=20) (h:JI σ0 k5 k6 σ inn out) (hs:c.b.Disj p∨c.b.Sub p) (hl:inn.length+out.length<=900):
  W Vc ⟨Fw T p (some (.ref k5)) (some (.ref k6)) (some (Av c)) m r q none,σ⟩ λfl s=>fl=.next/\∃m' r' q' σ',s=⟨Fw T p (some (.ref k5)) (some (.ref k6)) (some (Av c)) m' r' q' none,σ'⟩/\JI σ0 k5 k6 σ' (bif Gh p c.b then inn else inn++[c]) (bif Gh p c.b then out++[c]else out):=by
 refine Tl (P:=λm s=>W m s _) g hR hC h (λa b s s' e w=>Bi e w) λr' q' σ' hj=>?_
 refine Ag (Fc.mpr (A9 (Bd (t:=(((sq c.b).countP (Vs p):Nat):Int)==0) rfl rfl rfl rfl) ?_))
 by_cases hd:c.b.Disj p
 ·have hz:=(Oq g gp).mpr hd;rw[hz,if_pos (by rfl),Eu.mpr hd];exact zCp rfl rfl hj.g6 (by rw[lq6];exact Aw λZ=>A8 [_,_] [A7 (.n 1000) x0,A5 (.a x1 x0) (.n 900),A5 (.n 0) x1] rT Z hl (lq5 _)) (A9 rfl ⟨rfl,_,_,_,_,rfl,hj.out c⟩)
 ·have hz:(sq c.b).countP (Vs p)≠0:=λz=>hd ((Oq g gp).mp z)
  have ha:=(X7 (p:=p) g).mpr (hs.resolve_left hd);have hdB:Gh p c.b=false:=Bool.eq_false_iff.mpr λz=>hd (Eu.mp z)
  rw[if_neg (by simpa using hz),hdB];refine Ag (Gp (Sz g hR hC) (by rw[ha,Xo g];exact beq_self_eq_true _) ?_)
  exact zCp rfl rfl hj.g5 (by rw[lq6];exact Aw λZ=>A8 [_,_] [A7 (.n 1000) x0,A5 (.a x0 x1) (.n 900),A5 (.n 0) x1] rT Z hl (lq5 _)) (A9 rfl (A9 rfl ⟨rfl,_,_,_,_,rfl,hj.inn c⟩))
theorem zH4{c:Ce}(g:c.b.Good R C) (gp:p.Good R C) (hR:R<=20) (hC:C<=20) (h:JI σ0 k5 k6 σ inn out) (hd:¬c.b.Disj p) (hs:¬c.b.Sub p){Q:St->Prop}(hQ:∀s,Kp σ0 s.sto->C8 s.sto->Q s):
  X Vc ⟨Fw T p (some (.ref k5)) (some (.ref k6)) (some (Av c)) m r q none,σ⟩ 109 Q:=by
 refine Tl (P:=λm s=>X m s 109 Q) g hR hC h (λa b s s' e w=>V6 (A9 e ⟨rfl,w⟩)) λr' q' σ' hj=>?_
 have hz:(sq c.b).countP (Vs p)≠0:=λz=>hd ((Oq g gp).mp z)
 have ha:(sq c.b).countP (Vs p)≠(sq c.b).length:=λz=>hs ((X7 g).mp z)
 refine Jh (zHq (A9 (Bd (t:=(((sq c.b).countP (Vs p):Nat):Int)==0) rfl rfl rfl rfl) ?_))
 rw[if_neg (by simpa using hz)];refine Jh (zHq (A9 (Sz g hR hC) ?_))
 rw[Xo g,if_neg (by simp;omega)]
 exact Jh (Rw (hQ _ hj.kp hj.tab))
end
end
section
open Builtin.Str
noncomputable def Cp (c:Ce):Bool:=cl c.x !=[]
noncomputable def zAM:D->Bool
 |.tup [_,_,_,_,.str x]=>x.cps.toList !=[]
 |_=>true
noncomputable def El (p:Bx) (cs:List Ce):List Ce:=cs.filter λc=>!Gh p c.b
noncomputable def G3 (p:Bx) (cs:List Ce):List Ce:=cs.filter λc=>Gh p c.b
noncomputable def Dm (cs:List Ce):List Str:=(cs.filter Cp).map (·.x)
noncomputable def Cl (p:Bx) (cs:List Ce):Str:=Str.join ⟨#[10]⟩ (Dm (El p cs))
noncomputable def Jm (p:Bx) (cs:List Ce):List Ce:=G3 p cs++[⟨p,Cl p cs⟩]
section
variable {R C:Int}{cs:List Ce}{p:Bx}{st:St}{k:Nat}{σ0:Bm}{k5 k6:Nat}
inductive zKg (T:D) (p:Bx) (k5 k6:Nat) (σ0:Bm) (cs:List Ce) (rem:List D) (s:St):Prop
 |mk (cr inn out:List Ce) (ce m r q:Option D) (σ':Bm) (a0:rem=cr.map Av) (a1:s=⟨Fw T p (some (.ref k5)) (some (.ref k6)) ce m r q none,σ'⟩) (a2:JI σ0 k5 k6 σ' inn out) (a3:inn++El p cr=El p cs) (a4:out++G3 p cr=G3 p cs) (a5:inn.length+out.length+cr.length=cs.length) (a6:∀c,c∈cr->c∈cs):zKg T p k5 k6 σ0 cs rem s
theorem zED(ok:Bq R C cs) (gp:p.Good R C) (hR:R<=20) (hC:C<=20){T:D}{σ:Bm}(hs:∀c,c∈cs->c.b.Disj p∨c.b.Sub p) (hk:σ0[k]? =some (.list (cs.map Av))) (h:JI σ0 k5 k6 σ [] []):
  W (D9 (Ca 7) (λσ=>σ[k]? =some (.list (cs.map Av))) Vc (cs.map Av)) ⟨Fw T p (some (.ref k5)) (some (.ref k6)) none none none none none,σ⟩ λfl s=>fl=.next/\∃ce m r q σ',s=⟨Fw T p (some (.ref k5)) (some (.ref k6)) ce m r q none,σ'⟩/\JI σ0 k5 k6 σ' (El p cs) (G3 p cs):=by
 have hcl:=ok.len;refine E6 (zKg T p k5 k6 σ0 cs) ?_ ?_ _ _ ⟨cs,[],[],none,none,none,none,σ,rfl,rfl,h,rfl,rfl,by simp,λ_ m=>m⟩
 ·rintro d rest _ ⟨cr,inn,out,ce,m,r,q,σ',hrem,rfl,hj,e1,e2,hn,hm⟩
  cases cr with
  |nil=>cases hrem
  |cons c cr=>
   cases hrem;have mc:=hm c lq1;rw[List.length_cons]at hn;refine⟨hj.kp.2 _ _ hk,Fw T p (some (.ref k5)) (some (.ref k6)) (some (Av c)) m r q none,congrArg some zF2,(zCW (ok.til.1 _ (List.mem_map.mpr ⟨c,mc,rfl⟩)) gp hR hC hj (hs c mc) (by exact Aw λZ=>A8 [_,_,_,_] [A7 (.n 900) (.a x0 x1),A5 x2 (.n 900),B9 (.a (.a x0 x1) (.a x3 (.n 1))) x2,A5 (.n 0) x3] rT Z hcl hn (lq5 _))).mono ?_⟩
   rintro fl _ ⟨rfl,m',r',q',σ2,rfl,hj2⟩
   cases hd:Gh p c.b with
   |true=>
    rw[hd]at hj2;refine⟨cr,inn,out++[c],_,m',r',q',σ2,rfl,rfl,hj2,?_,?_,by rw[lq7];show _+(_+1)+_=_;exact Ha (λZ=>A8 [_,_,_,_] [A7 (.a (.a x1 (.a x2 (.n 1))) x3) x0,Gl (.a (.a x1 x2) (.a x3 (.n 1))) x0] rT Z hn) (λZ=>A8 [_,_,_,_] [A7 x0 (.a (.a x1 (.a x2 (.n 1))) x3),B9 (.a (.a x1 x2) (.a x3 (.n 1))) x0] rT Z hn),λc m=>hm c (lq4 _ m)⟩
    ·rw[←e1];unfold El;rw[List.filter_cons,hd];rfl
    ·rw[←e2];unfold G3;rw[List.filter_cons,hd,lq8];rfl
   |false=>
    rw[hd]at hj2;refine⟨cr,inn++[c],out,_,m',r',q',σ2,rfl,rfl,hj2,?_,?_,by rw[lq7];show(_+1)+_+_=_;exact Ha (λZ=>A8 [_,_,_,_] [A7 (.a (.a (.a x1 (.n 1)) x2) x3) x0,Gl (.a (.a x1 x2) (.a x3 (.n 1))) x0] rT Z hn) (λZ=>A8 [_,_,_,_] [A7 x0 (.a (.a (.a x1 (.n 1)) x2) x3),B9 (.a (.a x1 x2) (.a x3 (.n 1))) x0] rT Z hn),λc m=>hm c (lq4 _ m)⟩
    ·rw[←e1];unfold El;rw[List.filter_cons,hd,lq8];rfl
    ·rw[←e2];unfold G3;rw[List.filter_cons,hd];rfl
 ·rintro _ ⟨cr,inn,out,ce,m,r,q,σ',hrem,rfl,hj,e1,e2,hn,hm⟩
  cases cr with
  |cons c cr=>cases hrem
  |nil=>
   unfold El at e1;unfold G3 at e2;rw[List.filter_nil,List.append_nil]at e1 e2;subst e1 e2;exact⟨hj.kp.2 _ _ hk,rfl,ce,m,r,q,σ',rfl,hj⟩
inductive zKl (T:D) (p:Bx) (k5 k6:Nat) (σ0:Bm) (cs:List Ce) (rem:List D) (s:St):Prop
 |mk (cr inn out:List Ce) (ce m r q:Option D) (σ':Bm) (a0:rem=cr.map Av) (a1:s=⟨Fw T p (some (.ref k5)) (some (.ref k6)) ce m r q none,σ'⟩) (a2:JI σ0 k5 k6 σ' inn out) (a3:inn.length+out.length+cr.length=cs.length) (a4:(∀c,c∈cr->c∈cs)) (a5:∃c,c∈cr/\¬c.b.Disj p/\¬c.b.Sub p):zKl T p k5 k6 σ0 cs rem s
theorem zDT(ok:Bq R C cs) (gp:p.Good R C) (hR:R<=20) (hC:C<=20){T:D}{σ:Bm}(hs:∃c,c∈cs/\¬c.b.Disj p/\¬c.b.Sub p) (hk:σ0[k]? =some (.list (cs.map Av))) (h:JI σ0 k5 k6 σ [] []){Q:St->Prop}(hQ:∀s,Kp σ0 s.sto->C8 s.sto->Q s):
  X (D9 (Ca 7) (λσ=>σ[k]? =some (.list (cs.map Av))) Vc (cs.map Av)) ⟨Fw T p (some (.ref k5)) (some (.ref k6)) none none none none none,σ⟩ 109 Q:=by
 have hcl:=ok.len;refine zAx (zKl T p k5 k6 σ0 cs) ?_ ?_ _ _ ⟨cs,[],[],none,none,none,none,σ,rfl,rfl,h,by simp,λ_ m=>m,hs⟩
 ·rintro d rest _ ⟨cr,inn,out,ce,m,r,q,σ',hrem,rfl,hj,hn,hm,⟨e,me,he⟩⟩
  cases cr with
  |nil=>cases hrem
  |cons c cr=>
   cases hrem;have mc:=hm c lq1;have gc:=ok.til.1 _ (List.mem_map.mpr ⟨c,mc,rfl⟩);rw[List.length_cons]at hn;refine⟨hj.kp.2 _ _ hk,Fw T p (some (.ref k5)) (some (.ref k6)) (some (Av c)) m r q none,congrArg some zF2,?_⟩
   rcases Classical.em (c.b.Disj p∨c.b.Sub p)with hc|hc
   ·right
    refine(zCW gc gp hR hC hj hc (by exact Aw λZ=>A8 [_,_,_,_] [A7 (.n 900) (.a x0 x1),A5 x2 (.n 900),B9 (.a (.a x0 x1) (.a x3 (.n 1))) x2,A5 (.n 0) x3] rT Z hcl hn (lq5 _))).mono ?_
    rintro fl _ ⟨rfl,m',r',q',σ2,rfl,hj2⟩
    have hce:e∈cr:=by
     rcases List.mem_cons.mp me with rfl|me
     ·exact absurd hc (λz=>z.elim he.1 he.2)
     ·exact me
    cases hd:Gh p c.b with
    |true=>
     rw[hd]at hj2;exact⟨rfl,cr,inn,out++[c],_,m',r',q',σ2,rfl,rfl,hj2,by rw[lq7];show _+(_+1)+_=_;exact Ha (λZ=>A8 [_,_,_,_] [A7 (.a (.a x1 (.a x2 (.n 1))) x3) x0,Gl (.a (.a x1 x2) (.a x3 (.n 1))) x0] rT Z hn) (λZ=>A8 [_,_,_,_] [A7 x0 (.a (.a x1 (.a x2 (.n 1))) x3),B9 (.a (.a x1 x2) (.a x3 (.n 1))) x0] rT Z hn),λc m=>hm c (lq4 _ m),e,hce,he⟩
    |false=>
     rw[hd]at hj2;exact⟨rfl,cr,inn++[c],out,_,m',r',q',σ2,rfl,rfl,hj2,by rw[lq7];show(_+1)+_+_=_;exact Ha (λZ=>A8 [_,_,_,_] [A7 (.a (.a (.a x1 (.n 1)) x2) x3) x0,Gl (.a (.a x1 x2) (.a x3 (.n 1))) x0] rT Z hn) (λZ=>A8 [_,_,_,_] [A7 x0 (.a (.a (.a x1 (.n 1)) x2) x3),B9 (.a (.a x1 x2) (.a x3 (.n 1))) x0] rT Z hn),λc m=>hm c (lq4 _ m),e,hce,he⟩
   ·exact .inl (zH4 gc gp hR hC hj (λz=>hc (.inl z)) (λz=>hc (.inr z)) hQ)
 ·rintro _ ⟨cr,_,_,_,_,_,_,_,hrem,_,_,_,_,⟨e,me,_⟩⟩
  cases cr with
  |cons c cr=>cases hrem
  |nil=>cases me
theorem zEX{T:D}{ce m r q:Option D}{o:Option D}{σ:Bm}{inn:List Ce}(hg:σ[k5]? =some (.list (inn.map Av))) (hl:inn.length<=900) (hx:∀c,c∈inn->c.x.length<=1000){Q:Fl->St->Prop}
  (hQ:∀j,Q .next ⟨Fw T p (some (.ref k5)) o ce m r q (some (.str (Str.join ⟨#[10]⟩ (Dm inn)))),σ++j⟩):
  W (bnd (bnd (ret1 (.str (sO "\n"))) (Hy λx=>bnd (A0 (bnd (bnd (A6 5) Dy) (Dq [7] (Ca 7) (Bc G8 (ix 7 4) (ret1 (.str (Str.ofString "")))) (ix 7 4))) Ah) (Eo x))) (Aj 11)) ⟨Fw T p (some (.ref k5)) o ce m r q none,σ⟩ Q:=by
 have hsl:(1000:Nat)<=sizeLine:=by decide
 refine Af.mpr (Af.mpr (A9 rfl (Af.mpr (Af.mpr (Af.mpr (A9 (Aa rfl (Bb (Hj.mpr ⟨_,hg,rfl,rfl⟩))) ?_))))))
 refine Lj zAM (λd x _=>∀c,d=Av c->x=.str c.x) (λ_=>True) (by show(inn.map Av).length<=_;rw[lq6];exact Aw λZ=>A8 [_,_] [A7 x1 x0,A5 x0 (.n 900),A5 (.n 1000) x1] rT Z hl hsl) (λ_ _ _ _ _ h=>h) (λσ' hx=>hx.get hg) trivial (λd hd l σ' _ hxx=>?_) λxs σ' hxx rr=>?_
 ·obtain⟨c,mc,rfl⟩:=List.mem_map.mp hd;refine⟨upd l 7 (Av c),rfl,trivial,A9 (a:=Cp c) (st1:=⟨upd l 7 (Av c),σ'⟩) ?_ ⟨rfl,rfl,.refl _,λ_=>A9 rfl ⟨rfl,.refl _,λc' e=>by rw[zDd e.symm]⟩⟩⟩
  exact Bd (Ab rfl rfl rfl) rfl rfl rfl
 ·have ef:(inn.map Av).filter zAM=(inn.filter Cp).map Av:=by
   rw[List.filter_map];rfl
  have rr2:C2 (λx d=>∀c,d=Av c->x=.str c.x) xs ((inn.map Av).filter zAM):=rr
  rw[ef]at rr2;have hxs:xs=(inn.filter Cp).map (λc=>D.str c.x):=N9 rr2
  subst hxs;have em:(inn.filter Cp).map (λc=>D.str c.x)=(Dm inn).map D.str:=by unfold Dm;rw[List.map_map];rfl
  rw[em];have hj:JoinOk ⟨#[10]⟩ (Dm inn)=true:=by
   refine Jx (B:=1000) (λy my=>?_) ?_
   ·unfold Dm at my;obtain⟨c,mc,rfl⟩:=List.mem_map.mp my;exact hx c (List.mem_filter.mp mc).1
   ·have h1:(Dm inn).length<=900:=by
     unfold Dm;rw[lq6];exact Nat.le_trans (List.length_filter_le _ _) hl
    show _+_*1<=_
    omega
  obtain⟨j,rfl⟩:=hxx;refine A9 rfl (Rj.mpr ⟨_,Dm inn,lq3,Ii _,hj,?_⟩)
  refine A9 (a:=Fl.next) (st1:=⟨Fw T p (some (.ref k5)) o ce m r q (some (.str (Str.join ⟨#[10]⟩ (Dm inn)))),σ++(j++[.list ((Dm inn).map D.str)])⟩) (by rw[←zHr (t:=none) (x:=.str (Str.join ⟨#[10]⟩ (Dm inn))),←lq8];rfl) (hQ _)
end
end
section
open Builtin.Str
noncomputable def zGm:Mn Fl:=(bnd (bnd (ret1 (.str (sO "\n"))) (Hy λx=>bnd (A0 (bnd (bnd (A6 5) Dy) (Dq [7] (Ca 7) (Bc G8 (ix 7 4) (ret1 (.str (Str.ofString "")))) (ix 7 4))) Ah) (Eo x))) (Aj 11))
noncomputable def zE1:Mn Fl:=(Ad (Di (Bc Uq (bnd (A0 (A6 11) Ah) Ea) (ret1 (.int 200))) (Ad (H0 61)
 (ret1 .next)) (ret1 .next))
 (Ad (Bt (D7 (A0 (ix 0 0) (A0 (ix 0 1) (A0 (bnd (A0 (Ac Au (A6 6) (Cd (A0 (D7 (A0 (A6 1) (A0 (A6 2) (A0 (A6 3) (A0 (A6 4) (A0 (A6 11) Ah)))))) Ah))) Ah) Fo) Ah)))))
 (ret1 .next)))
noncomputable def zA6:Mn Fl:=(Ad (bnd (bnd (ix 0 2) Dy) λsrc=>D9 (Ca 7) src.g Vc src.ds) (Ad zGm zE1))
section
variable {R C:Int}{cs:List Ce}{p:Bx}{st:St}{k:Nat}
theorem W6{T:D}:Cj Bh [0,1,2,3,4] [T,.int p.t,.int p.l,.int p.h,.int p.w]=Fw T p none none none none none none none:=by
 funext i;rcases i with _|_|_|_|_|_|_|_|_|_|_|_|i<;>rfl
theorem Xr{a b c e:D}{S:St}{t:D}(v0:S.loc 0=some (.tup [.int R,.int C,t])) (v1:S.loc 1=some a) (v2:S.loc 2=some b) (v3:S.loc 3=some c) (v4:S.loc 4=some e) (ha:Bg a=true) (hb:Bg b=true) (hc:Bg c=true) (he:Bg e=true):
  (E8 (bnd (bnd (A0 (ix 0 0) (A0 (ix 0 1) (A0 (A6 1) (A0 (A6 2) (A0 (A6 3) (A0 (A6 4) Ah)))))) Hn) As)) S=.ok (!Iu R C a b c e) S:=by
 have h:=zB8 (R:=R) (C:=C) ha hb hc he (st:=S);generalize Iu R C a b c e=r at h ⊢
 have i0:ix 0 0 S=.ok (.int R) S:=Ab (Bf v0) rfl rfl
 have i1:ix 0 1 S=.ok (.int C) S:=Ab (Bf v0) rfl rfl
 exact Aa (Aa (Aa (Az i0 (Az i1 (Az (Bf v1) (Az (Bf v2) (Az (Bf v3) (Az (Bf v4) rfl)))))) h) rfl) rfl
theorem Rg{a b c e t:D}(ha:Bg a=true) (hb:Bg b=true) (hc:Bg c=true) (he:Bg e=true) (h:Iu R C a b c e=false):X (Dt [.tup [.int R,.int C,t],a,b,c,e]) st 49 λs=>s=st:=by
 have tt:=Xr (R:=R) (C:=C) (S:=⟨Cj Bh [0,1,2,3,4] [.tup [.int R,.int C,t],a,b,c,e],st.sto⟩) rfl rfl rfl rfl rfl ha hb hc he;rw[h]at tt;refine zE9 rfl ?_
 unfold Ht;exact Jh (zFs tt rfl (Jh (Rw rfl)))
theorem Wj(gp:p.Good R C) (h0:C8 st.sto){P:Mn Fl->St->Prop}
  (hW:∀(a b:Mn Fl) (s s':St),a s=.ok .next s'->P b s'->P (Ad a b) s)
  (hQ:∀(k5 k6:Nat) (σ:Bm),JI st.sto k5 k6 σ [] []->P zA6 ⟨Fw (D0 R C k) p (some (.ref k5)) (some (.ref k6)) none none none none none,σ⟩):
  P Ht ⟨Fw (D0 R C k) p none none none none none none none,st.sto⟩:=by
 have tt:=Xr (R:=R) (C:=C) (S:=⟨Fw (D0 R C k) p none none none none none none none,st.sto⟩) (a:=.int p.t) (b:=.int p.l) (c:=.int p.h) (e:=.int p.w) rfl rfl rfl rfl rfl rfl rfl rfl rfl;rw[Qx gp]at tt;unfold Ht;refine hW _ _ _ ⟨Fw (D0 R C k) p none none none none none none none,st.sto⟩ (Bb (Ch tt rfl (A9 rfl ⟨rfl,rfl⟩))) ?_
 refine hW _ _ _ ⟨Fw (D0 R C k) p (some (.ref st.sto.length)) none none none none none none,st.sto++[.list []]⟩ (by rw[←zJ9 (i:=none) (x:=.ref st.sto.length)];rfl) ?_
 refine hW _ _ _ ⟨Fw (D0 R C k) p (some (.ref st.sto.length)) (some (.ref (st.sto++[PO.list []]).length)) none none none none none,st.sto++[.list []]++[.list []]⟩ (by rw[←zJa (o:=none) (x:=.ref (st.sto++[PO.list []]).length)];rfl) ?_
 refine hQ _ _ _ ⟨(Kp.app _ _).trans (.app _ _),(h0.ext (.app _ _)).ext (.app _ _),O0,lq3,Nat.le_refl _,?_,?_⟩
 ·rw[lq7];exact Aw λZ=>A8 [_,_] [A7 (.a x0 x1) x0,A5 (.n 0) x1] rT Z (lq5 _)
 ·rw[lq7];show st.sto.length≠st.sto.length+1;exactλZ=>A8 [_] [Gl x0 (.a x0 (.n 1))] rT Z
theorem Rx(ok:Bq R C cs) (gp:p.Good R C) (hR:R<=20) (hC:C<=20) (h0:C8 st.sto) (hk:st.sto[k]? =some (.list (cs.map Av))) (hs:∃c,c∈cs/\¬c.b.Disj p/\¬c.b.Sub p):
  X (Dt [D0 R C k,.int p.t,.int p.l,.int p.h,.int p.w]) st 109 λs=>s.loc=st.loc/\Kp st.sto s.sto/\C8 s.sto:=by
 refine zE9 rfl ?_
 rw[W6];refine Wj (P:=λm s=>X m s 109 _) gp h0 (λa b s s' e w=>V6 (A9 e ⟨rfl,w⟩)) λk5 k6 σ hj=>?_
 unfold zA6;exact Jh (Mt (A9 (Aa (Ab rfl rfl rfl) (Bb (Hj.mpr ⟨_,hj.kp.2 _ _ hk,rfl,rfl⟩))) (zDT ok gp hR hC hs hk hj λs k t=>⟨rfl,k,t⟩)))
theorem zBf(ok:Bq R C cs) (gp:p.Good R C) (hR:R<=20) (hC:C<=20) (h0:C8 st.sto) (hk:st.sto[k]? =some (.list (cs.map Av))) (hs:∀c,c∈cs->c.b.Disj p∨c.b.Sub p){P:Mn Fl->St->Prop}
  (hW:∀(a b:Mn Fl) (s s':St),a s=.ok .next s'->P b s'->P (Ad a b) s)
  (hQ:∀(k5 k6:Nat) (σ:Bm) (ce m r q:Option D),JI st.sto k5 k6 σ (El p cs) (G3 p cs)->P zE1 ⟨Fw (D0 R C k) p (some (.ref k5)) (some (.ref k6)) ce m r q (some (.str (Cl p cs))),σ⟩):
  P Ht ⟨Fw (D0 R C k) p none none none none none none none,st.sto⟩:=by
 have hcl:=ok.len;refine Wj gp h0 hW λk5 k6 σ hj=>?_
 unfold zA6;obtain⟨fl,s,e,rfl,ce,m,r,q,σ',rfl,hj2⟩:=zED (T:=D0 R C k) ok gp hR hC hs hk hj
 refine hW _ _ _ _ (Aa (Aa (Ab rfl rfl rfl) (Bb (Hj.mpr ⟨_,hj.kp.2 _ _ hk,rfl,rfl⟩))) e) ?_
 obtain⟨fl,s,e2,rfl,j,rfl⟩:=zEX (T:=D0 R C k) (p:=p) (ce:=ce) (m:=m) (r:=r) (q:=q) (o:=some (.ref k6)) (σ:=σ') (inn:=El p cs) hj2.g5 (Nat.le_trans (List.length_filter_le _ _) hcl) (λc mc=>(ok.tx c (List.mem_filter.mp mc).1).2) (Q:=λfl s=>fl=.next/\∃j,s=⟨Fw (D0 R C k) p (some (.ref k5)) (some (.ref k6)) ce m r q (some (.str (Str.join ⟨#[10]⟩ (Dm (El p cs))))),σ'++j⟩) λj=>⟨rfl,j,rfl⟩
 exact hW _ _ _ _ e2 (hQ k5 k6 _ ce m r q (hj2.ext j))
theorem Lg(ok:Bq R C cs):(Cl p cs).length<2 ^ 62/\(cl (Cl p cs)).all Kv=true:=by
 have hcl:=ok.len;have hm:∀y,y∈Dm (El p cs)->(cl y).all Kv=true/\y.length<=1000:=λy my=>by
  unfold Dm at my;obtain⟨c,mc,rfl⟩:=List.mem_map.mp my;exact ok.tx c (List.mem_filter.mp (List.mem_filter.mp mc).1).1
 have hl:(Dm (El p cs)).length<=900:=by
  unfold Dm El;rw[lq6];exact Nat.le_trans (List.length_filter_le _ _) (Nat.le_trans (List.length_filter_le _ _) hcl)
 unfold Cl;refine⟨?_,?_⟩
 ·rw[←Ck,Ij];have:=Gf 10 (B:=1000) ((Dm (El p cs)).map cl) λa ma=>by
   obtain⟨y,my,rfl⟩:=List.mem_map.mp ma;rw[Ck];exact(hm y my).2
  rw[lq6]at this;omega
 ·rw[Ij];exact Mx rfl _ λa ma=>by
   obtain⟨y,my,rfl⟩:=List.mem_map.mp ma;exact(hm y my).1
theorem Uj(ok:Bq R C cs){T:D}{i o ce m r q:Option D}{σ:Bm}:(Bc Uq (bnd (A0 (A6 11) Ah) Ea) (ret1 (.int 200))) ⟨Fw T p i o ce m r q (some (.str (Cl p cs))),σ⟩=.ok (decide (((Cl p cs).length:Int)>200)) ⟨Fw T p i o ce m r q (some (.str (Cl p cs))),σ⟩:=
 Bd (Aa (b:=[.str (Cl p cs)]) rfl (Bb (zAV.mpr ⟨(Lg ok).1,rfl,rfl⟩))) rfl rfl rfl
theorem Q3(ok:Bq R C cs) (gp:p.Good R C) (hR:R<=20) (hC:C<=20) (h0:C8 st.sto) (hk:st.sto[k]? =some (.list (cs.map Av))) (hs:∀c,c∈cs->c.b.Disj p∨c.b.Sub p) (hl:200<(Cl p cs).length):
  X (Dt [D0 R C k,.int p.t,.int p.l,.int p.h,.int p.w]) st 61 λs=>s.loc=st.loc/\Kp st.sto s.sto/\C8 s.sto:=by
 refine zE9 rfl ?_
 rw[W6];refine zBf (P:=λm s=>X m s 61 _) ok gp hR hC h0 hk hs (λa b s s' e w=>V6 (A9 e ⟨rfl,w⟩)) λk5 k6 σ ce m r q hj=>?_
 unfold zE1;exact Jh (zFs (Uj ok) (decide_eq_true (by exact C4 λZ=>A4 [_] [A5 x0 (.n 200),A7 (.n 200) x0] rT Z (Yo hl))) (Jh (Rw ⟨rfl,hj.kp,hj.tab⟩)))
theorem Ug(ok:Bq R C cs) (gp:p.Good R C) (hs:∀c,c∈cs->c.b.Disj p∨c.b.Sub p):Le R C ((Jm p cs).map (·.b))/\Pu R C ((Jm p cs).map (·.b)):=by
 have e:(Jm p cs).map (·.b)=(cs.map (·.b)).filter (Gh p)++[p]:=by
  unfold Jm G3;rw[List.map_append,List.filter_map];rfl
 rw[e];refine⟨zB2 ok.til gp,zBv ok.cov λb mb=>?_⟩
 obtain⟨c,mc,rfl⟩:=List.mem_map.mp mb;exact hs c mc
theorem U1(ok:Bq R C cs) (gp:p.Good R C) (hR:R<=20) (hC:C<=20) (h0:C8 st.sto) (hk:st.sto[k]? =some (.list (cs.map Av))) (hs:∀c,c∈cs->c.b.Disj p∨c.b.Sub p) (hl:(Cl p cs).length<=200) (hn:cs.length<=850){Q:D->St->Prop}
  (hQ:∀cs' r σ',cs'.Perm (Jm p cs)->Bq R C cs'->C8 σ'->Kp st.sto σ'->st.sto.length<=r->σ'[r]? =some (.list (cs'.map Av))->Q (D0 R C r) ⟨st.loc,σ'⟩):
  W (Dt [D0 R C k,.int p.t,.int p.l,.int p.h,.int p.w]) st Q:=by
 have hsl:(1000:Nat)<=sizeLine:=by decide
 have ho:(G3 p cs).length<=850:=Nat.le_trans (List.length_filter_le _ _) hn
 refine Cq rfl ?_
 rw[W6];refine zBf (P:=λm s=>W m s _) ok gp hR hC h0 hk hs (λa b s s' e w=>Bi e w) λk5 k6 σ ce m r q hj=>?_
 unfold zE1;refine Ag (Ch (Uj ok) (decide_eq_false (by exactλZ=>A4 [_] [A7 (.n 200) x0,A5 x0 (.n 200)] rT Z (Nw hl))) (A9 rfl ?_))
 have e1:(Ac Au (A6 6) (Cd (A0 (D7 (A0 (A6 1) (A0 (A6 2) (A0 (A6 3) (A0 (A6 4) (A0 (A6 11) Ah)))))) Ah))) ⟨Fw (D0 R C k) p (some (.ref k5)) (some (.ref k6)) ce m r q (some (.str (Cl p cs))),σ⟩=.ok (.ref (σ++[PO.list [Av ⟨p,Cl p cs⟩]]).length) ⟨Fw (D0 R C k) p (some (.ref k5)) (some (.ref k6)) ce m r q (some (.str (Cl p cs))),σ++[PO.list [Av ⟨p,Cl p cs⟩]]++[.list ((Jm p cs).map Av)]⟩:=by
  refine Ab (a:=.ref k6) (b:=.ref σ.length) rfl (Bb (Od.mpr (A9 (a:=[Av ⟨p,Cl p cs⟩]) (Az rfl rfl) ⟨by show 1<=sizeLine;exact Aw λZ=>A8 [_] [A7 x0 (.n 1),A5 (.n 1000) x0] rT Z hsl,rfl,rfl⟩))) ?_
  unfold Jm;rw[List.map_append];exact J9 (ds:=(G3 p cs).map Av) (es:=[Av ⟨p,Cl p cs⟩]) ((Ft.app _ _).get hj.g6) lq3 (by rw[lq6];show _+1<=_;exact Aw λZ=>A8 [_,_] [A7 x0 (.a x1 (.n 1)),A5 (.n 1000) x0,A5 x1 (.n 850)] rT Z hsl ho)
 obtain⟨ht,hv⟩:=Ug ok gp hs;have hkp:Kp st.sto (σ++[PO.list [Av ⟨p,Cl p cs⟩]]++[.list ((Jm p cs).map Av)]):=(hj.kp.trans (.app _ _)).trans (.app _ _)
 refine Ag (Af.mpr (Oe.mpr (Af.mpr (A9 (Ab rfl rfl rfl) (Af.mpr (Af.mpr (A9 (Ab rfl rfl rfl) (Af.mpr (Af.mpr (Af.mpr (A9 (Az e1 rfl) (Pd (R:=R) (C:=C) (cs:=Jm p cs) ((hj.tab.ext (.app _ _)).ext (.app _ _)) (by exact Am λZ=>A4 [_] [A7 (.n 1048576) x0,A5 x0 (.n 20)] rT Z hC) lq3 ht hv (λc mc=>?_) ?_ λcs' r' σ' pm ok' t' k' hr hg=>?_))))))))))))
 ·rcases List.mem_append.mp mc with mc|mc
  ·exact ok.tx c (List.mem_filter.mp mc).1
  ·rw[lq0 mc];exact⟨(Lg ok).2,by show(Cl p cs).length<=1000;exact Aw λZ=>A8 [_] [A7 (.n 1000) x0,A5 x0 (.n 200)] rT Z hl⟩
 ·unfold Jm;rw[lq7];show _+1<=_
  exact Aw λZ=>A8 [_] [A7 (.n 900) (.a x0 (.n 1)),A5 x0 (.n 850)] rT Z ho
 ·refine A9 rfl (A9 rfl (A9 rfl ⟨by show 3<=sizeLine;exact Aw λZ=>A8 [_] [A7 x0 (.n 3),A5 (.n 1000) x0] rT Z hsl,A9 rfl ?_⟩))
  exact hQ cs' r' σ' pm ok' t' (hkp.trans k') (Nat.le_trans hkp.1 hr) hg
end
end
section
open Builtin.Str
theorem zEl{d:D}(h:Bg d=true){S:St}:Cg [d] S=.ok (.bool (wh d)) S:=by
 cases d<;>first|exact Bb (Cq rfl (Bv rfl ⟨rfl,rfl⟩))|cases h
theorem zFI{m n:Mn D}{a b:Bool}{S:St}(e1:m S=.ok (.bool a) S) (e2:n S=.ok (.bool b) S):zIF m n S=.ok (.bool (a||b)) S:=by
 unfold zIF;refine Aa e1 (Aa (b:=a) rfl ?_)
 cases a with
 |true=>rfl
 |false=>exact e2
noncomputable def O9 (k:Nat) (R C:Int) (a b c e:D) (n t o ce ap:Option D):C3:=Gq [some (.ref k),some (.int R),some (.int C),some (.tup [a,b,c,e]),n,t,o,ce,ap]
section
variable {k:Nat}{R C:Int}{a b c e:D}{n t o ce ap:Option D}{x:D}
theorem zJL:upd (O9 k R C a b c e n t o ce ap) 4 x=O9 k R C a b c e (some x) t o ce ap:=An rfl
theorem zF8:upd (O9 k R C a b c e n t o ce ap) 5 x=O9 k R C a b c e n (some x) o ce ap:=An rfl
theorem zIn:upd (O9 k R C a b c e n t o ce ap) 6 x=O9 k R C a b c e n t (some x) ce ap:=An rfl
theorem zJ5:upd (O9 k R C a b c e n t o ce ap) 7 x=O9 k R C a b c e n t o (some x) ap:=An rfl
theorem zI1:upd (O9 k R C a b c e n t o ce ap) 8 x=O9 k R C a b c e n t o ce (some x):=An rfl
theorem zCq:Cj Bh [0,1,2,3] [.ref k,.int R,.int C,.tup [a,b,c,e]]=O9 k R C a b c e none none none none none:=by
 funext i;rcases i with _|_|_|_|_|_|_|_|_|i<;>rfl
end
inductive zKb (k:Nat) (R C:Int) (a b c e:D) (σ:Bm) (rem:List D) (st':St):Prop
 |mk (x:Option D) (a0:st'=⟨O9 k R C a b c e x none none none none,σ⟩) (a1:(∀d,d∈rem->Bg d=true)) (a2:[a,b,c,e].all wh=rem.all wh):zKb k R C a b c e σ rem st'
theorem zAs{k:Nat}{R C:Int}{a b c e:D}(ha:Bg a=true) (hb:Bg b=true) (hc:Bg c=true) (he:Bg e=true){σ:Bm}{Q:Fl->St->Prop}
  (h1:[a,b,c,e].all wh=true→∀x,Q .next ⟨O9 k R C a b c e x none none none none,σ⟩) (h2:[a,b,c,e].all wh=false→∀x,Q (.ret (.str (sO "cell"))) ⟨O9 k R C a b c e x none none none none,σ⟩):
  W (bnd (bnd (A6 3) Dy) λsrc=>D9 (Ca 4) src.g (Ad (Di (E8 (bnd (bnd (A0 (A6 4) Ah) Cg) As)) (Ad (Bt (ret1 (.str (sO "cell"))))
 (ret1 .next)) (ret1 .next))
 (ret1 .next)) src.ds) ⟨O9 k R C a b c e none none none none none,σ⟩ Q:=by
 refine Af.mpr (A9 (a:=⟨[a,b,c,e],λ_=>True⟩) (st1:=⟨O9 k R C a b c e none none none none none,σ⟩) rfl ?_)
 refine E6 (zKb k R C a b c e σ) ?_ ?_ _ _ ⟨none,rfl,λd m=>?_,rfl⟩
 ·rintro d rest _ ⟨x,rfl,hm,hw⟩
  refine⟨trivial,O9 k R C a b c e (some d) none none none none,congrArg some zJL,?_⟩
  have t:(E8 (bnd (bnd (A0 (A6 4) Ah) Cg) As)) ⟨O9 k R C a b c e (some d) none none none none,σ⟩=.ok (!wh d) ⟨O9 k R C a b c e (some d) none none none none,σ⟩:=Aa (Aa (Aa rfl (zEl (hm d lq1))) rfl) rfl
  rw[show(d::rest).all wh=(wh d&&rest.all wh)from rfl]at hw
  cases h:wh d with
  |true=>
   rw[h]at t hw;exact Ag (Ch t rfl (A9 rfl (A9 rfl ⟨_,rfl,λd m=>hm d (lq4 _ m),by rw[hw];rfl⟩)))
  |false=>
   rw[h]at t hw;exact Ag (Gp t rfl (Bv rfl (h2 hw _)))
 ·rintro _ ⟨x,rfl,_,hw⟩
  exact⟨trivial,h1 hw x⟩
 ·simp only[List.mem_cons,List.not_mem_nil,or_false]at m;rcases m with rfl|rfl|rfl|rfl<;>assumption
section
variable {k:Nat}{R C t l h w:Int}{n:Option D}{σ:Bm}
theorem zJP:(Hp (Bc It (bnd (A0 (ix 3 0) (A0 (ix 3 1) Ah)) J4) (ret1 (.int 0))) (Hp (Bc It (bnd (A0 (ix 3 2) (A0 (ix 3 3) Ah)) J4) (ret1 (.int 1))) (Bc Uq (Ac Au (ix 3 0) (ix 3 2)) (A6 1)))) ⟨O9 k R C (.int t) (.int l) (.int h) (.int w) n none none none none,σ⟩=.ok (decide (min t l<0)||(decide (min h w<1)||decide (t+h>R))) ⟨O9 k R C (.int t) (.int l) (.int h) (.int w) n none none none none,σ⟩:=
 Ef (Bd (a:=.int (min t l)) (Aa (b:=[.int t,.int l]) rfl rfl) rfl rfl rfl) (Ef (Bd (a:=.int (min h w)) (Aa (b:=[.int h,.int w]) rfl rfl) rfl rfl rfl) (Bd (a:=.int (t+h)) (Ab (a:=.int t) (b:=.int h) rfl rfl rfl) rfl rfl rfl))
theorem zIf:(Bc Uq (Ac Au (ix 3 1) (ix 3 3)) (A6 2)) ⟨O9 k R C (.int t) (.int l) (.int h) (.int w) n none none none none,σ⟩=.ok (decide (l+w>C)) ⟨O9 k R C (.int t) (.int l) (.int h) (.int w) n none none none none,σ⟩:=
 Bd (a:=.int (l+w)) (Ab (a:=.int l) (b:=.int w) rfl rfl rfl) rfl rfl rfl
end
theorem zDY{R C:Int}{p:Bx}(g:p.Good R C):(decide (min p.t p.l<0)||(decide (min p.h p.w<1)||decide (p.t+p.h>R)))=false:=by
 simp only[Bool.or_eq_false_iff,decide_eq_false_iff_not,gt_iff_lt,Int.not_lt,Int.le_min];exact⟨⟨g.1,g.2.1⟩,⟨g.2.2.1,g.2.2.2.1⟩,g.2.2.2.2.1⟩
theorem Zx{k:Nat}{R C:Int}{a b c e:D}(ha:Bg a=true) (hb:Bg b=true) (hc:Bg c=true) (he:Bg e=true) (h:Iu R C a b c e=false){st:St}{Q:D→St→Prop}(hQ:Q (.str (sO "cell")) st):W (Fj [.ref k,.int R,.int C,.tup [a,b,c,e]]) st Q:=by
 refine Cq rfl ?_
 rw[zCq];unfold Ik;refine Ag (zAs ha hb hc he (λhw x=>?_) λ_ _=>hQ)
 simp only[List.all_cons,List.all_nil,Bool.and_true,Bool.and_eq_true]at hw;obtain⟨t,rfl⟩:=G1 hw.1;obtain⟨l,rfl⟩:=G1 hw.2.1;obtain⟨h',rfl⟩:=G1 hw.2.2.1;obtain⟨w,rfl⟩:=G1 hw.2.2.2;refine Ag (Fc.mpr (A9 zJP ?_))
 by_cases q:(decide (min t l<0)||(decide (min h' w<1)||decide (t+h'>R)))=true
 ·rw[if_pos q];exact Bv rfl hQ
 rw[if_neg q];refine A9 rfl (Ag (Fc.mpr (A9 zIf ?_)))
 by_cases q2:decide (l+w>C)=true
 ·rw[if_pos q2];exact Bv rfl hQ
 ·exfalso
  have g:(⟨t,l,h',w⟩:Bx).Good R C:=by
   simp only[Bool.or_eq_true,decide_eq_true_eq,not_or,Int.not_lt,Int.le_min]at q q2;exact⟨q.1.1,q.1.2,q.2.1.1,q.2.1.2,q.2.2,q2⟩
  have:=Qx g
  simp only at this
  rw[this]at h
  cases h
end
section
open Builtin.Str
noncomputable def J0 (k:Nat) (R C:Int) (p:Bx) (n t o ce ap:Option D):C3:=O9 k R C (.int p.t) (.int p.l) (.int p.h) (.int p.w) n t o ce ap
structure DI (σ0:Bm) (k5 k6:Nat) (σ:Bm) (ts:List Str) (out:List Ce):Prop where
 kp:Kp σ0 σ
 tab:C8 σ
 g5:σ[k5]? =some (.list (ts.map D.str))
 g6:σ[k6]? =some (.list (out.map Av))
 n6:σ0.length<=k6
 ne:k5≠k6
noncomputable def zH7:Mn Fl:=(Ad (bnd (Ac Au (A6 5) (Ac Ep (Cd (A0 (ix 7 4) Ah)) (bnd (A0 (Ac G8 (ix 7 4) (ret1 (.str (Str.ofString "")))) Ah) Ei))) (Aj 5))
 (ret1 .next))
noncomputable def zGD:Mn Fl:=(Ad (bnd (zIF (Ac zGG (ix 7 0) (Ac Au (ix 3 0) (ix 3 2))) (Ac Mp (Ac Au (ix 7 0) (ix 7 2)) (ix 3 0))) (Aj 8))
 (Ad (Di (Hp (bnd (A6 8) As) (Hp (Bc zGG (ix 7 1) (Ac Au (ix 3 1) (ix 3 3))) (Bc Mp (Ac Au (ix 7 1) (ix 7 3)) (ix 3 1)))) (Ad (bnd (bnd (A6 6) (De λk=>bnd (A6 7) (Br k))) Dr)
 (ret1 .next)) (Ad (Di (Bc It (bnd (A0 (Ac Ek (ix 7 0) (ix 3 0)) (A0 (Ac Ek (ix 7 1) (ix 3 1)) (A0 (Ac Ek (Ac Ek (Ac Au (ix 3 0) (ix 3 2)) (ix 7 0)) (ix 7 2)) Ah))) J4) (ret1 (.int 0))) (Ad (Bt (ret1 (.str (sO "cut"))))
 (ret1 .next)) (Ad (Di (Bc It (Ac Au (ix 3 1) (ix 3 3)) (Ac Au (ix 7 1) (ix 7 3))) (Ad (Bt (ret1 (.str (sO "cut"))))
 (ret1 .next)) zH7)
 (ret1 .next)))
 (ret1 .next)))
 (ret1 .next)))
section
variable {k:Nat}{R C:Int}{p:Bx}{σ0 σ:Bm}{k5 k6:Nat}{ts:List Str}{out:List Ce}{n ap:Option D}
theorem zG7{c:Ce}(h:DI σ0 k5 k6 σ ts out) (hl:ts.length<=900){Q:Fl->St->Prop}(hQ:∀k5' σ',DI σ0 k5' k6 σ' (ts++bif Cp c then[c.x]else[]) out->Q .next ⟨J0 k R C p n (some (.ref k5')) (some (.ref k6)) (some (Av c)) ap,σ'⟩):
  W zH7 ⟨J0 k R C p n (some (.ref k5)) (some (.ref k6)) (some (Av c)) ap,σ⟩ Q:=by
 have hsl:(1000:Nat)<=sizeLine:=by decide
 have hlt:k6<σ.length:=(lq2 h.g6).1
 have hu:Ei [.bool (Cp c)]=ret1 (.int (if Cp c then 1 else 0)):=rfl
 have eI:(bnd (A0 (Ac G8 (ix 7 4) (ret1 (.str (Str.ofString "")))) Ah) Ei) ⟨J0 k R C p n (some (.ref k5)) (some (.ref k6)) (some (Av c)) ap,σ++[.list [.str c.x]]⟩=.ok (.int (if Cp c then 1 else 0)) ⟨J0 k R C p n (some (.ref k5)) (some (.ref k6)) (some (Av c)) ap,σ++[.list [.str c.x]]⟩:=
  Aa (b:=[.bool (Cp c)]) (Az (Ab (a:=.str c.x) (Ab rfl rfl rfl) rfl rfl) rfl) rfl
 have eM:(Ac Ep (Cd (A0 (ix 7 4) Ah)) (bnd (A0 (Ac G8 (ix 7 4) (ret1 (.str (Str.ofString "")))) Ah) Ei)) ⟨J0 k R C p n (some (.ref k5)) (some (.ref k6)) (some (Av c)) ap,σ⟩=.ok (.ref (σ++[PO.list [.str c.x]]).length) ⟨J0 k R C p n (some (.ref k5)) (some (.ref k6)) (some (Av c)) ap,σ++[.list [.str c.x]]++[.list ((bif Cp c then[c.x]else[]).map D.str)]⟩:=by
  refine Ab (a:=.ref σ.length) (Bb (Od.mpr (A9 (a:=[.str c.x]) (Az (Ab rfl rfl rfl) rfl) ⟨by show 1<=sizeLine;exact Aw λZ=>A8 [_] [A7 x0 (.n 1),A5 (.n 1000) x0] rT Z hsl,rfl,rfl⟩))) eI ?_
  have gg:(σ++[PO.list [D.str c.x]])[σ.length]? =some (.list [.str c.x]):=lq3
  unfold Ep;simp only[gg]
  cases Cp c with
  |true=>rw[if_pos ⟨rfl,by show 1*1<=16777216;decide⟩];rfl
  |false=>rw[if_pos ⟨rfl,by show 1*0<=16777216;decide⟩];rfl
 unfold zH7;refine Ag (Af.mpr (No (A9 rfl (A9 eM (A9 (J9 (ds:=ts.map D.str) (es:=(bif Cp c then[c.x]else[]).map D.str) (zIg h.g5) lq3 ?_) ?_)))))
 ·rw[lq6,lq6];have:(bif Cp c then[c.x]else[]).length<=1:=by cases Cp c<;>simp
  exact Aw λZ=>A8 [_,_,_] [A7 x1 (.a x0 x2),A5 x0 (.n 900),A5 (.n 1000) x1,A5 x2 (.n 1)] rT Z hl hsl this
 ·rw[←List.map_append];refine A9 (a:=Fl.next) (st1:=⟨J0 k R C p n (some (.ref (σ++[PO.list [.str c.x]]++[PO.list ((bif Cp c then[c.x]else[]).map D.str)]).length)) (some (.ref k6)) (some (Av c)) ap,σ++[.list [.str c.x]]++[.list ((bif Cp c then[c.x]else[]).map D.str)]++[.list ((ts++bif Cp c then[c.x]else[]).map D.str)]⟩) (by unfold J0;rw[←zF8 (t:=some (.ref k5)) (x:=.ref (σ++[PO.list [.str c.x]]++[PO.list ((bif Cp c then[c.x]else[]).map D.str)]).length)];rfl) (A9 rfl (hQ _ _ ⟨((h.kp.trans (.app _ _)).trans (.app _ _)).trans (.app _ _),((h.tab.ext (.app _ _)).ext (.app _ _)).ext (.app _ _),lq3,(Ft.app _ _).get (zIg h.g6),h.n6,?_⟩))
  rw[lq7,lq7];exactλZ=>A8 [_,_,_] [B9 (.a (.a x1 x2) x2) x0,A7 x0 x1,Yq 2 (.n 0) x2] rT Z hlt (lq5 _)
theorem zGs{c:Ce}:((decide (c.b.t≥p.t+p.h)||decide (c.b.t+c.b.h<=p.t))||(decide (c.b.l≥p.l+p.w)||decide (c.b.l+c.b.w<=p.l)))=Gh p c.b:=by
 unfold Gh;show((decide (p.t+p.h<=c.b.t)||_)||(decide (p.l+p.w<=c.b.l)||_))=_
 generalize decide (p.t+p.h<=c.b.t)=x
 generalize decide (c.b.t+c.b.h<=p.t)=y
 generalize decide (p.l+p.w<=c.b.l)=z
 generalize decide (c.b.l+c.b.w<=p.l)=w
 cases x<;>cases y<;>cases z<;>cases w<;>rfl
theorem Wo{x y z:Int}:¬min (min x y) z<0↔0<=x/\0<=y/\0<=z:=by
 rw[Int.not_lt,Int.le_min,Int.le_min,and_assoc]
theorem Xq{a b c:Int}:0<=a - b - c↔b+c<=a:=by
 rw[Int.sub_sub];exact Int.sub_nonneg
theorem zFK{c:Ce}(h:DI σ0 k5 k6 σ ts out) (hl:ts.length+out.length<=900){Q:Fl->St->Prop}
  (h1:Gh p c.b=true->∀ap' σ',DI σ0 k5 k6 σ' ts (out++[c])->Q .next ⟨J0 k R C p n (some (.ref k5)) (some (.ref k6)) (some (Av c)) ap',σ'⟩)
  (h2:Gh p c.b=false->c.b.Sub p->∀ap' k5' σ',DI σ0 k5' k6 σ' (ts++bif Cp c then[c.x]else[]) out->Q .next ⟨J0 k R C p n (some (.ref k5')) (some (.ref k6)) (some (Av c)) ap',σ'⟩)
  (h3:¬c.b.Disj p→¬c.b.Sub p→∀s,Kp σ0 s.sto→C8 s.sto→Q (.ret (.str (sO "cut"))) s):
  W zGD ⟨J0 k R C p n (some (.ref k5)) (some (.ref k6)) (some (Av c)) ap,σ⟩ Q:=by
 have h8a:Ac zGG (ix 7 0) (Ac Au (ix 3 0) (ix 3 2)) ⟨J0 k R C p n (some (.ref k5)) (some (.ref k6)) (some (Av c)) ap,σ⟩=.ok (.bool (decide (c.b.t≥p.t+p.h))) ⟨J0 k R C p n (some (.ref k5)) (some (.ref k6)) (some (Av c)) ap,σ⟩:=Ab (a:=.int c.b.t) (b:=.int (p.t+p.h)) rfl rfl rfl
 have h8b:Ac Mp (Ac Au (ix 7 0) (ix 7 2)) (ix 3 0) ⟨J0 k R C p n (some (.ref k5)) (some (.ref k6)) (some (Av c)) ap,σ⟩=.ok (.bool (decide (c.b.t+c.b.h<=p.t))) ⟨J0 k R C p n (some (.ref k5)) (some (.ref k6)) (some (Av c)) ap,σ⟩:=Ab (a:=.int (c.b.t+c.b.h)) (b:=.int p.t) rfl rfl rfl
 have hap:=zFI h8a h8b;unfold zGD;refine Bi (st1:=⟨J0 k R C p n (some (.ref k5)) (some (.ref k6)) (some (Av c)) (some (.bool (decide (c.b.t≥p.t+p.h)||decide (c.b.t+c.b.h<=p.t)))),σ⟩) (by unfold J0;rw[←zI1 (ap:=ap) (x:=.bool (decide (c.b.t≥p.t+p.h)||decide (c.b.t+c.b.h<=p.t)))];exact run_set hap) ?_
 have tt:(Hp (bnd (A6 8) As) (Hp (Bc zGG (ix 7 1) (Ac Au (ix 3 1) (ix 3 3))) (Bc Mp (Ac Au (ix 7 1) (ix 7 3)) (ix 3 1)))) ⟨J0 k R C p n (some (.ref k5)) (some (.ref k6)) (some (Av c)) (some (.bool (decide (c.b.t≥p.t+p.h)||decide (c.b.t+c.b.h<=p.t)))),σ⟩=.ok (Gh p c.b) ⟨J0 k R C p n (some (.ref k5)) (some (.ref k6)) (some (Av c)) (some (.bool (decide (c.b.t≥p.t+p.h)||decide (c.b.t+c.b.h<=p.t)))),σ⟩:=by
  rw[←zGs];exact Ef (Aa (b:=.bool (decide (c.b.t≥p.t+p.h)||decide (c.b.t+c.b.h<=p.t))) rfl rfl) (Ef (Bd (a:=.int c.b.l) (b:=.int (p.l+p.w)) rfl rfl rfl rfl) (Bd (a:=.int (c.b.l+c.b.w)) (b:=.int p.l) rfl rfl rfl rfl))
 generalize(some (D.bool (decide (c.b.t≥p.t+p.h)||decide (c.b.t+c.b.h<=p.t))))=ap2 at tt ⊢
 cases hd:Gh p c.b with
 |true=>
  rw[hd]at tt;refine Ag (Gp tt rfl (zCp rfl rfl h.g6 (by rw[lq6];exact Aw λZ=>A8 [_,_] [A7 (.n 1000) x0,A5 (.a x1 x0) (.n 900),A5 (.n 0) x1] rT Z hl (lq5 _)) (A9 rfl (h1 hd _ _ ⟨h.kp.setNew h.n6,h.tab.set h.g6,by rw[List.getElem?_set_ne (Ne.symm h.ne)];exact h.g5,by rw[List.map_append];exact List.getElem?_set_self (lq2 h.g6).1,h.n6,h.ne⟩))))
 |false=>
  rw[hd]at tt;have hnd:¬c.b.Disj p:=λz=>by rw[Eu.mpr z]at hd;cases hd
  have t2:(Bc It (bnd (A0 (Ac Ek (ix 7 0) (ix 3 0)) (A0 (Ac Ek (ix 7 1) (ix 3 1)) (A0 (Ac Ek (Ac Ek (Ac Au (ix 3 0) (ix 3 2)) (ix 7 0)) (ix 7 2)) Ah))) J4) (ret1 (.int 0))) ⟨J0 k R C p n (some (.ref k5)) (some (.ref k6)) (some (Av c)) ap2,σ⟩=.ok (decide (min (min (c.b.t - p.t) (c.b.l - p.l)) (p.t+p.h - c.b.t - c.b.h)<0)) ⟨J0 k R C p n (some (.ref k5)) (some (.ref k6)) (some (Av c)) ap2,σ⟩:=
   Bd (a:=.int (min (min (c.b.t - p.t) (c.b.l - p.l)) (p.t+p.h - c.b.t - c.b.h))) (Aa (b:=[.int (c.b.t - p.t),.int (c.b.l - p.l),.int (p.t+p.h - c.b.t - c.b.h)]) rfl rfl) rfl rfl rfl
  have t3:(Bc It (Ac Au (ix 3 1) (ix 3 3)) (Ac Au (ix 7 1) (ix 7 3))) ⟨J0 k R C p n (some (.ref k5)) (some (.ref k6)) (some (Av c)) ap2,σ⟩=.ok (decide (p.l+p.w<c.b.l+c.b.w)) ⟨J0 k R C p n (some (.ref k5)) (some (.ref k6)) (some (Av c)) ap2,σ⟩:=
   Bd (a:=.int (p.l+p.w)) (b:=.int (c.b.l+c.b.w)) rfl rfl rfl rfl
  refine Ag (Ch tt rfl (Ag (Fc.mpr (A9 t2 ?_))))
  by_cases q:decide (min (min (c.b.t - p.t) (c.b.l - p.l)) (p.t+p.h - c.b.t - c.b.h)<0)=true
  ·rw[if_pos q];refine Bv rfl (h3 hnd (λz=>?_) _ h.kp h.tab)
   exact Wo.mpr ⟨Int.sub_nonneg.mpr z.1,Int.sub_nonneg.mpr z.2.1,Xq.mpr z.2.2.1⟩ (of_decide_eq_true q)
  rw[if_neg q];refine Ag (Fc.mpr (A9 t3 ?_))
  by_cases q2:decide (p.l+p.w<c.b.l+c.b.w)=true
  ·rw[if_pos q2];refine Bv rfl (h3 hnd (λz=>?_) _ h.kp h.tab)
   unfold Bx.Sub at z;rw[decide_eq_true_eq]at q2;exact A4 [_,_,_,_] [A7 (.a x0 x1) (.a x2 x3),A5 (.a x2 x3) (.a x0 x1)] rT q2 z.2.2.2
  rw[if_neg q2];rw[decide_eq_true_eq]at q q2;exact zG7 h (by exact Aw λZ=>A8 [_,_] [A7 (.n 900) x0,A5 (.a x0 x1) (.n 900),A5 (.n 0) x1] rT Z hl (lq5 _)) λk5' σ' hd'=>A9 rfl (A9 rfl (A9 rfl (h2 hd (let m:=Wo.mp q;⟨Int.sub_nonneg.mp m.1,Int.sub_nonneg.mp m.2.1,Xq.mp m.2.2,Int.not_lt.mp q2⟩) _ _ _ hd')))
end
end
section
open Builtin.Str
section
variable {R C:Int}{cs:List Ce}{p:Bx}
theorem zDc(ok:Bq R C cs):JoinOk ⟨#[10]⟩ (Dm (El p cs))=true:=by
 have hcl:=ok.len;refine Jx (B:=1000) (λy my=>?_) ?_
 ·unfold Dm at my;obtain⟨c,mc,rfl⟩:=List.mem_map.mp my;exact(ok.tx c (List.mem_filter.mp (List.mem_filter.mp mc).1).1).2
 ·have h1:(Dm (El p cs)).length<=900:=by
   unfold Dm El;rw[lq6];exact Nat.le_trans (List.length_filter_le _ _) (Nat.le_trans (List.length_filter_le _ _) hcl)
  show _+_*1<=_
  omega
theorem zC7{c:Ce}{cr:List Ce}(hd:Gh p c.b=false):Dm (El p (c::cr))=(bif Cp c then[c.x]else[])++Dm (El p cr):=by
 unfold Dm El;rw[List.filter_cons,hd];show List.map _ (List.filter Cp (c::_))=_
 rw[List.filter_cons]
 cases Cp c<;>rfl
theorem zE0{c:Ce}{cr:List Ce}(hd:Gh p c.b=true):Dm (El p (c::cr))=Dm (El p cr):=by
 unfold Dm El;rw[List.filter_cons,hd];rfl
theorem zBE{c:Ce}{cr:List Ce}(hd:Gh p c.b=true):G3 p (c::cr)=c::G3 p cr:=by
 unfold G3;rw[List.filter_cons,hd];rfl
theorem zDV{c:Ce}{cr:List Ce}(hd:Gh p c.b=false):G3 p (c::cr)=G3 p cr:=by
 unfold G3;rw[List.filter_cons,hd];rfl
inductive zK9 (k:Nat) (R C:Int) (p:Bx) (n:Option D) (k6:Nat) (st:St) (cs:List Ce) (rem:List D) (s:St):Prop
 |mk (cr:List Ce) (ts:List Str) (out:List Ce) (ce ap:Option D) (k5:Nat) (σ':Bm) (a0:rem=cr.map Av) (a1:s=⟨J0 k R C p n (some (.ref k5)) (some (.ref k6)) ce ap,σ'⟩) (a2:DI st.sto k5 k6 σ' ts out) (a3:ts++Dm (El p cr)=Dm (El p cs)) (a4:out++G3 p cr=G3 p cs) (a5:ts.length+out.length+cr.length<=cs.length) (a6:(∀c,c∈cr->c∈cs)) (a7:∀c,c∈cs->c∈cr∨c.b.Disj p∨c.b.Sub p):zK9 k R C p n k6 st cs rem s
theorem zIX(ok:Bq R C cs) (gp:p.Good R C) (hR:R<=20) (hC:C<=20) (hn:cs.length<=850){k:Nat}{st:St}(h0:C8 st.sto) (hk:st.sto[k]? =some (.list (cs.map Av))){Q:D->St->Prop}
  (h1:(∃c,c∈cs∧¬c.b.Disj p∧¬c.b.Sub p)→∀σ',Kp st.sto σ'→C8 σ'→Q (.str (sO "cut")) ⟨st.loc,σ'⟩)
  (h2:(∀c,c∈cs→c.b.Disj p∨c.b.Sub p)→200<(Cl p cs).length→∀σ',Kp st.sto σ'→C8 σ'→Q (.str (sO "text")) ⟨st.loc,σ'⟩)
  (h3:(∀c,c∈cs->c.b.Disj p∨c.b.Sub p)->(Cl p cs).length<=200->∀cs' r σ',cs'.Perm (Jm p cs)->Bq R C cs'->C8 σ'->Kp st.sto σ'->σ'[r]? =some (.list (cs'.map Av))->Q (.ref r) ⟨st.loc,σ'⟩):
  W (Fj [.ref k,.int R,.int C,.tup [.int p.t,.int p.l,.int p.h,.int p.w]]) st Q:=by
 have hsl:(1000:Nat)<=sizeLine:=by decide
 have hg:=gp;unfold Bx.Good at hg;refine Cq rfl ?_
 rw[zCq];unfold Ik;refine Ag (zAs rfl rfl rfl rfl (λ_ n=>?_) λhw=>by cases hw)
 refine Ag (Ch zJP (zDY gp) (A9 rfl (Ag (Ch zIf (by simp;exact Am λZ=>A4 [_,_,_] [A7 x0 (.a x1 x2),A5 (.a x1 x2) x0] rT Z hg.2.2.2.2.2) (A9 rfl ?_)))))
 refine Bi (st1:=⟨J0 k R C p n (some (.ref st.sto.length)) none none none,st.sto++[.list []]⟩) (by unfold J0;rw[←zF8 (t:=none) (x:=.ref st.sto.length)];rfl) ?_
 refine Bi (st1:=⟨J0 k R C p n (some (.ref st.sto.length)) (some (.ref (st.sto++[PO.list []]).length)) none none,st.sto++[.list []]++[.list []]⟩) (by unfold J0;rw[←zIn (o:=none) (x:=.ref (st.sto++[PO.list []]).length)];rfl) ?_
 have d0:DI st.sto st.sto.length (st.sto++[PO.list []]).length (st.sto++[.list []]++[.list []]) [] []:=⟨(Kp.app _ _).trans (.app _ _),(h0.ext (.app _ _)).ext (.app _ _),O0,lq3,by rw[lq7];exact Aw λZ=>A8 [_,_] [A7 (.a x0 x1) x0,A5 (.n 0) x1] rT Z (lq5 _),by rw[lq7];show st.sto.length≠st.sto.length+1;exactλZ=>A8 [_] [Gl x0 (.a x0 (.n 1))] rT Z⟩
 generalize(st.sto++[PO.list []]).length=k6 at d0 ⊢
 generalize st.sto++[PO.list []]++[PO.list []]=σ at d0 ⊢
 refine Ag (Af.mpr (A9 (Aa rfl (Bb (Hj.mpr ⟨_,d0.kp.2 _ _ hk,rfl,rfl⟩))) ?_))
 refine E6 (zK9 k R C p n k6 st cs) ?_ ?_ _ _ ⟨cs,[],[],none,none,_,σ,rfl,rfl,d0,rfl,rfl,by simp,λ_ m=>m,λ_ m=>.inl m⟩
 ·rintro d rest _ ⟨cr,ts,out,ce,ap,k5,σ',hrem,rfl,hj,e1,e2,hln,hm,ha⟩
  cases cr with
  |nil=>cases hrem
  |cons c cr=>
   cases hrem;have mc:=hm c lq1;rw[List.length_cons]at hln;have ha2:c.b.Disj p∨c.b.Sub p->∀e,e∈cs->e∈cr∨e.b.Disj p∨e.b.Sub p:=λhc e me=>by
    rcases ha e me with h|h
    ·rcases List.mem_cons.mp h with rfl|h
     ·exact .inr hc
     ·exact .inl h
    ·exact .inr h
   refine⟨hj.kp.2 _ _ hk,J0 k R C p n (some (.ref k5)) (some (.ref k6)) (some (Av c)) ap,congrArg some zJ5,?_⟩
   refine zFK hj (by exact Aw λZ=>A8 [_,_,_,_] [A7 (.n 900) (.a x0 x1),A5 x2 (.n 850),A5 (.a (.a x0 x1) (.a x3 (.n 1))) x2,A5 (.n 0) x3] rT Z hn hln (lq5 _)) (λhd ap' σ2 hj2=>?_) (λhd hs ap' k5' σ2 hj2=>?_) λhd hs s ks ts=>?_
   ·refine⟨cr,ts,out++[c],_,ap',k5,σ2,rfl,rfl,hj2,by rw[←e1,zE0 hd],by rw[←e2,zBE hd,lq8];rfl,by rw[lq7];show _+(_+1)+_<=_;exact Aw λZ=>A8 [_,_,_,_] [A7 x0 (.a (.a x1 (.a x2 (.n 1))) x3),A5 (.a (.a x1 x2) (.a x3 (.n 1))) x0] rT Z hln,λc m=>hm c (lq4 _ m),ha2 (.inl (Eu.mp hd))⟩
   ·refine⟨cr,ts++bif Cp c then[c.x]else[],out,_,ap',k5',σ2,rfl,rfl,hj2,by rw[←e1,zC7 hd,lq8],by rw[←e2,zDV hd],?_,λc m=>hm c (lq4 _ m),ha2 (.inr hs)⟩
    have:(bif Cp c then[c.x]else[]).length<=1:=by cases Cp c<;>simp
    rw[lq7];exact Aw λZ=>A8 [_,_,_,_,_] [A7 x0 (.a (.a (.a x1 x4) x2) x3),A5 (.a (.a x1 x2) (.a x3 (.n 1))) x0,A5 x4 (.n 1)] rT Z hln this
   ·exact h1 ⟨c,mc,hd,hs⟩ _ ks ts
 ·rintro _ ⟨cr,ts,out,ce,ap,k5,σ',hrem,rfl,hj,e1,e2,hln,hm,ha⟩
  cases cr with
  |cons c cr=>cases hrem
  |nil=>
   have hs:∀c,c∈cs->c.b.Disj p∨c.b.Sub p:=λc mc=>(ha c mc).resolve_left (by simp)
   rw[show Dm (El p [])=[]from rfl,List.append_nil]at e1
   rw[show G3 p []=[]from rfl,List.append_nil]at e2
   subst e1 e2;refine⟨hj.kp.2 _ _ hk,?_⟩
   have eJ:∀σ2,σ2[k5]? =some (.list ((Dm (El p cs)).map D.str))→(bnd (ret1 (.str (sO "\n"))) (Hy λx=>bnd (A0 (A6 5) Ah) (Eo x))) ⟨J0 k R C p n (some (.ref k5)) (some (.ref k6)) ce ap,σ2⟩=.ok (.str (Cl p cs)) ⟨J0 k R C p n (some (.ref k5)) (some (.ref k6)) ce ap,σ2⟩:=λσ2 hg5=>
    Bb (Af.mpr (A9 rfl (Af.mpr (A9 rfl (Rj.mpr ⟨_,_,hg5,Ii _,zDc ok,rfl,rfl⟩)))))
   have tl:(Bc Uq (bnd (A0 (bnd (ret1 (.str (sO "\n"))) (Hy λx=>bnd (A0 (A6 5) Ah) (Eo x))) Ah) Ea) (ret1 (.int 200))) ⟨J0 k R C p n (some (.ref k5)) (some (.ref k6)) ce ap,σ'⟩=.ok (decide (((Cl p cs).length:Int)>200)) ⟨J0 k R C p n (some (.ref k5)) (some (.ref k6)) ce ap,σ'⟩:=
    Bd (Aa (Az (eJ _ hj.g5) rfl) (Bb (zAV.mpr ⟨(Lg ok).1,rfl,rfl⟩))) rfl rfl rfl
   refine Ag (Fc.mpr (A9 tl ?_))
   by_cases q:decide (((Cl p cs).length:Int)>200)=true
   ·rw[if_pos q];rw[decide_eq_true_eq]at q;exact Bv rfl (h2 hs (by exact Iy (C4 λZ=>A4 [_] [A5 x0 (.n 200),A7 (.n 200) x0] rT Z q)) _ hj.kp hj.tab)
   rw[if_neg q];rw[decide_eq_true_eq]at q;refine A9 rfl ?_
   obtain⟨ht,hv⟩:=Ug ok gp hs;have ho:(G3 p cs).length<=850:=Nat.le_trans (List.length_filter_le _ _) hn
   have e3:(Ac Au (A6 6) (Cd (A0 (Ac Au (A6 3) (D7 (A0 (bnd (ret1 (.str (sO "\n"))) (Hy λx=>bnd (A0 (A6 5) Ah) (Eo x))) Ah))) Ah))) ⟨J0 k R C p n (some (.ref k5)) (some (.ref k6)) ce ap,σ'⟩=.ok (.ref (σ'++[PO.list [Av ⟨p,Cl p cs⟩]]).length) ⟨J0 k R C p n (some (.ref k5)) (some (.ref k6)) ce ap,σ'++[PO.list [Av ⟨p,Cl p cs⟩]]++[.list ((Jm p cs).map Av)]⟩:=by
    have eT:Ac Au (A6 3) (D7 (A0 (bnd (ret1 (.str (sO "\n"))) (Hy λx=>bnd (A0 (A6 5) Ah) (Eo x))) Ah)) ⟨J0 k R C p n (some (.ref k5)) (some (.ref k6)) ce ap,σ'⟩=.ok (Av ⟨p,Cl p cs⟩) ⟨J0 k R C p n (some (.ref k5)) (some (.ref k6)) ce ap,σ'⟩:=
     Ab (a:=.tup [.int p.t,.int p.l,.int p.h,.int p.w]) (b:=.tup [.str (Cl p cs)]) rfl (Bb (Oe.mpr (A9 (Az (eJ _ hj.g5) rfl) ⟨by show 1<=sizeLine;exact Aw λZ=>A8 [_] [A7 x0 (.n 1),A5 (.n 1000) x0] rT Z hsl,rfl,rfl⟩))) rfl
    refine Ab (a:=.ref k6) (b:=.ref σ'.length) rfl (Bb (Od.mpr (A9 (a:=[Av ⟨p,Cl p cs⟩]) (Az eT rfl) ⟨by show 1<=sizeLine;exact Aw λZ=>A8 [_] [A7 x0 (.n 1),A5 (.n 1000) x0] rT Z hsl,rfl,rfl⟩))) ?_
    unfold Jm;rw[List.map_append];exact J9 (ds:=(G3 p cs).map Av) (es:=[Av ⟨p,Cl p cs⟩]) ((Ft.app _ _).get hj.g6) lq3 (by rw[lq6];show _+1<=_;exact Aw λZ=>A8 [_,_] [A7 x0 (.a x1 (.n 1)),A5 (.n 1000) x0,A5 x1 (.n 850)] rT Z hsl ho)
   refine Ag (Af.mpr (Af.mpr (A9 (Az e3 rfl) (H4 (λ_ _=>N0) (R:=R) (C:=C) (cs:=Jm p cs) (by exact Am λZ=>A4 [_] [A7 (.n 1048576) x0,A5 x0 (.n 20)] rT Z hC) lq3 ht hv (λc mc=>?_) ?_ λcs' pm ok'=>A9 rfl ?_))))
   ·rcases List.mem_append.mp mc with mc|mc
    ·exact ok.tx c (List.mem_filter.mp mc).1
    ·rw[lq0 mc];exact⟨(Lg ok).2,by show(Cl p cs).length<=1000;exact Gk (Am λZ=>A4 [_] [A7 (.n 1000) x0,A5 x0 (.n 200)] rT Z (Int.not_lt.mp q))⟩
   ·unfold Jm;rw[lq7];show _+1<=_
    exact Aw λZ=>A8 [_] [A7 (.n 900) (.a x0 (.n 1)),A5 x0 (.n 850)] rT Z ho
   ·exact h3 hs (by exact Gk (Am λZ=>A4 [_] [A7 (.n 200) x0,A5 x0 (.n 200)] rT Z (Int.not_lt.mp q))) cs' _ _ pm ok' (((hj.tab.ext (.app _ _)).ext (.app _ _)).ext (.app _ _)) (((hj.kp.trans (.app _ _)).trans (.app _ _)).trans (.app _ _)) lq3
end
end
section
open Builtin.Str
theorem Lc{ms:Mn (List D)}{mi:Mn D}{ds:List D}{i:Int}{st:St}{l:C3}{σ:Bm}{Q:D->St->Prop}(e:ms st=.ok ds ⟨l,σ⟩) (hl:ds.length<=1000) (hi:mi ⟨l,σ++[.list ds]⟩=.ok (.int i) ⟨l,σ++[.list ds]⟩) (h0:0<=i) (h1:i<ds.length) (hQ:∀h:i.toNat<ds.length,Q (ds[i.toNat]) ⟨l,σ++[.list ds]⟩):W (Ac Co (Cd ms) mi) st Q:=
 No (Od.mpr (A9 e ⟨Nat.le_trans hl (by decide),A9 hi ((zCd h0 lq3 h1 (Nat.le_trans hl (by decide))).mpr (hQ _))⟩))
theorem X9{ds:List D}{l h:Option Int}{S:St}(hl:ds.length<=1000):Gv (.tup ds) l h S=.ok (.tup (Dn l h ds)) S:=C6 (Nat.le_trans hl (by decide))
theorem Ua{x y:List D}{S:St}(hl:x.length+y.length<=1000):Au (.tup x) (.tup y) S=.ok (.tup (x++y)) S:=C6 (Nat.le_trans hl (by decide))
theorem Eb{a b:Int}{S:St}(h:b≠0):Cm (.int a) (.int b) S=.ok (.int (a.fmod b)) S:=C6 h
theorem Es{a b:Int}{S:St}(h:b≠0/\b.natAbs<1073741824):Ec (.int a) (.int b) S=.ok (.int (a.fdiv b)) S:=C6 h
inductive Se (ds:List D):Prop
 |mk (a b c e:D) (h:ds=[a,b,c,e]) (ha:Bg a=true) (hb:Bg b=true) (hc:Bg c=true) (he:Bg e=true)
theorem zIr{w x y z bad:D}(hw:Bg w=true) (hx:Bg x=true) (hy:Bg y=true) (hz:Bg z=true) (hb:Bg bad=true){a:Int}(h0:0<=a) (h4:a<4):Se (Dn none (some a) [w,x,y,z]++[bad]++Dn (some (a+1)) none [w,x,y,z]):=by
 obtain⟨n,rfl⟩:=Int.eq_ofNat_of_zero_le h0;rcases n with _|_|_|_|n
 ·exact⟨bad,x,y,z,rfl,hb,hx,hy,hz⟩
 ·exact⟨w,bad,y,z,rfl,hw,hb,hy,hz⟩
 ·exact⟨w,x,bad,z,rfl,hw,hx,hb,hz⟩
 ·exact⟨w,x,y,bad,rfl,hw,hx,hy,hb⟩
 ·exact absurd h4 (Int.not_lt.mpr (Int.ofNat_le.mpr (Nat.le_add_left 4 n)))
noncomputable def Er (k:Nat) (R C n:Int) (m o1 o2 t l h p a y b:Option D):C3:=Gq [some (.ref k),some (.int R),some (.int C),some (.int n),m,o1,o2,t,l,h,p,a,y,b]
section
variable {k:Nat}{R C n:Int}{m o1 o2 t l h p a y b:Option D}{x:D}
theorem zGF:upd (Er k R C n m o1 o2 t l h p a y b) 4 x=Er k R C n (some x) o1 o2 t l h p a y b:=An rfl
theorem zIN:upd (Er k R C n m o1 o2 t l h p a y b) 5 x=Er k R C n m (some x) o2 t l h p a y b:=An rfl
theorem zJC:upd (Er k R C n m o1 o2 t l h p a y b) 6 x=Er k R C n m o1 (some x) t l h p a y b:=An rfl
theorem zFT:upd (Er k R C n m o1 o2 t l h p a y b) 7 x=Er k R C n m o1 o2 (some x) l h p a y b:=An rfl
theorem zFR:upd (Er k R C n m o1 o2 t l h p a y b) 8 x=Er k R C n m o1 o2 t (some x) h p a y b:=An rfl
theorem zI8:upd (Er k R C n m o1 o2 t l h p a y b) 9 x=Er k R C n m o1 o2 t l (some x) p a y b:=An rfl
theorem zHp:upd (Er k R C n m o1 o2 t l h p a y b) 10 x=Er k R C n m o1 o2 t l h (some x) a y b:=An rfl
theorem zBg:upd (Er k R C n m o1 o2 t l h p a y b) 11 x=Er k R C n m o1 o2 t l h p (some x) y b:=An rfl
theorem zHv:upd (Er k R C n m o1 o2 t l h p a y b) 12 x=Er k R C n m o1 o2 t l h p a (some x) b:=An rfl
theorem zHV:upd (Er k R C n m o1 o2 t l h p a y b) 13 x=Er k R C n m o1 o2 t l h p a y (some x):=An rfl
end
theorem zHj{R C:Int}(hR:1<=R) (hR2:R<=20) (hC:1<=C) (hC2:C<=20){cs:List Ce}(h1:1<=cs.length) (h2:cs.length<=900){k:Nat}{n:Int}{st:St}(h0:C8 st.sto) (hk:st.sto[k]? =some (.list (cs.map Av))){Q:D->St->Prop}
  (hQ:∀ds σ',Se ds->Kp st.sto σ'->C8 σ'->Q (.tup ds) ⟨st.loc,σ'⟩):W (Em [.ref k,.int R,.int C,.int n]) st Q:=by
 have hN:(cs.length:Int)≠0/\(cs.length:Int).natAbs<1073741824:=⟨by exactλZ=>A4 [_] [B9 x0 (.n 0),A5 (.n 1) x0] rT Z (Nw h1),by exact Cz λZ=>A8 [_] [A5 (.n 1073741824) x0,A5 x0 (.n 900)] rT Z h2⟩
 have hRn:R≠0/\R.natAbs<1073741824:=⟨by exactλZ=>A4 [_] [B9 x0 (.n 0),A5 (.n 1) x0] rT Z hR,by omega⟩
 have hCn:C≠0/\C.natAbs<1073741824:=⟨by exactλZ=>A4 [_] [B9 x0 (.n 0),A5 (.n 1) x0] rT Z hC,by omega⟩
 have el:∀S:St,S.sto[k]? =some (.list (cs.map Av))->Ea [.ref k] S=.ok (.int cs.length) S:=λS h=>Bb (W1.mpr ⟨_,h,by rw[lq6];exact Cz λZ=>A8 [_] [A5 (.n 4611686018427387904) x0,A5 x0 (.n 900)] rT Z h2,by rw[lq6],rfl⟩)
 have hloc:upd (Cj Bh [0,1,2,3] [.ref k,.int R,.int C,.int n]) 4 (.int (n.fdiv 4))=Er k R C n (some (.int (n.fdiv 4))) none none none none none none none none none:=by
  funext i;rcases i with _|_|_|_|_|_|_|_|_|_|_|_|_|_|i<;>rfl
 have m4:=Ba (a:=n) (b:=4) (by decide);refine Cq rfl ?_
 unfold Je;refine Bi (st1:=⟨Er k R C n (some (.int (n.fdiv 4))) none none none none none none none none none,st.sto⟩) (by rw[←hloc];rfl) ?_
 generalize n.fdiv 4=m
 refine Is (b:=n.fmod 4==3) rfl (λ_=>Bv rfl (hQ [.int 0,.int 0,.int R,.int C] _ ⟨_,_,_,_,rfl,rfl,rfl,rfl,rfl⟩ (.refl _) h0)) λ_=>A9 rfl ?_
 refine Is (b:=n.fmod 4==0) rfl (λ_=>?_) λ_=>A9 rfl ?_
 ·have i1:=Ba (a:=m) (b:=(cs.length:Int)) (by exact C4 λZ=>A4 [_] [A5 x0 (.n 0),A5 (.n 1) x0] rT Z (Nw h1))
  have i2:=Ba (a:=m.fdiv cs.length) (b:=(cs.length:Int)) (by exact C4 λZ=>A4 [_] [A5 x0 (.n 0),A5 (.n 1) x0] rT Z (Nw h1))
  have l1:(m.fmod cs.length).toNat<cs.length:=by exact Iy (C4 λZ=>A4 [_,_,_] [A5 x0 x1,A7 x2 x0,B9 x1 x2] rT Z i1.2 (Cf (Am λY=>A4 [_] [A7 x0 (.n 0),A5 (.n 0) x0] rT Y i1.1)))
  have l2:((m.fdiv cs.length).fmod cs.length).toNat<cs.length:=by exact Iy (C4 λZ=>A4 [_,_,_] [A5 x0 x1,A7 x2 x0,B9 x1 x2] rT Z i2.2 (Cf (Am λY=>A4 [_] [A7 x0 (.n 0),A5 (.n 0) x0] rT Y i2.1)))
  have r1:Co (.ref k) (.int (m.fmod cs.length)) ⟨Er k R C n (some (.int m)) none none none none none none none none none,st.sto⟩=.ok (Av cs[(m.fmod cs.length).toNat]) ⟨Er k R C n (some (.int m)) none none none none none none none none none,st.sto⟩:=by
   have e:(cs.map Av)[(m.fmod cs.length).toNat]'(by rw[lq6];exact l1)=Av cs[(m.fmod cs.length).toNat]:=List.getElem_map ..
   rw[←e];exact S6 (S:=⟨Er k R C n (some (.int m)) none none none none none none none none none,st.sto⟩) hk i1.1 (by rw[lq6];exact i1.2) (by rw[lq6];exact Aw λZ=>A8 [_] [A7 (.n 4611686018427387904) x0,A5 x0 (.n 900)] rT Z h2)
  refine Bi (st1:=⟨Er k R C n (some (.int m)) (some (Av cs[(m.fmod cs.length).toNat])) none none none none none none none none,st.sto⟩) (by rw[←zIN (o1:=none) (x:=Av cs[(m.fmod cs.length).toNat])];exact run_set (st1:=⟨Er k R C n (some (.int m)) none none none none none none none none none,st.sto⟩) (Ab (a:=.ref k) (b:=.int (m.fmod cs.length)) rfl (Ab rfl (Aa rfl (el _ hk)) (Eb hN.1)) r1)) ?_
  generalize cs[(m.fmod cs.length).toNat]=c1
  have r2:Co (.ref k) (.int ((m.fdiv cs.length).fmod cs.length)) ⟨Er k R C n (some (.int m)) (some (Av c1)) none none none none none none none none,st.sto⟩=.ok (Av cs[((m.fdiv cs.length).fmod cs.length).toNat]) ⟨Er k R C n (some (.int m)) (some (Av c1)) none none none none none none none none,st.sto⟩:=by
   have e:(cs.map Av)[((m.fdiv cs.length).fmod cs.length).toNat]'(by rw[lq6];exact l2)=Av cs[((m.fdiv cs.length).fmod cs.length).toNat]:=List.getElem_map ..
   rw[←e];exact S6 (S:=⟨Er k R C n (some (.int m)) (some (Av c1)) none none none none none none none none,st.sto⟩) hk i2.1 (by rw[lq6];exact i2.2) (by rw[lq6];exact Aw λZ=>A8 [_] [A7 (.n 4611686018427387904) x0,A5 x0 (.n 900)] rT Z h2)
  refine Bi (st1:=⟨Er k R C n (some (.int m)) (some (Av c1)) (some (Av cs[((m.fdiv cs.length).fmod cs.length).toNat])) none none none none none none none,st.sto⟩) (by rw[←zJC (o2:=none) (x:=Av cs[((m.fdiv cs.length).fmod cs.length).toNat])];exact run_set (st1:=⟨Er k R C n (some (.int m)) (some (Av c1)) none none none none none none none none,st.sto⟩) (Ab (a:=.ref k) (b:=.int ((m.fdiv cs.length).fmod cs.length)) rfl (Ab (Ab rfl (Aa rfl (el _ hk)) (Es hN)) (Aa rfl (el _ hk)) (Eb hN.1)) r2)) ?_
  generalize cs[((m.fdiv cs.length).fmod cs.length).toNat]=c2
  refine Bi (st1:=⟨Er k R C n (some (.int m)) (some (Av c1)) (some (Av c2)) (some (.int (min c1.b.t c2.b.t))) none none none none none none,st.sto⟩) (by rw[←zFT (t:=none) (x:=.int (min c1.b.t c2.b.t))];rfl) ?_
  refine Bi (st1:=⟨Er k R C n (some (.int m)) (some (Av c1)) (some (Av c2)) (some (.int (min c1.b.t c2.b.t))) (some (.int (min c1.b.l c2.b.l))) none none none none none,st.sto⟩) (by rw[←zFR (l:=none) (x:=.int (min c1.b.l c2.b.l))];rfl) ?_
  refine Bi (st1:=⟨Er k R C n (some (.int m)) (some (Av c1)) (some (Av c2)) (some (.int (min c1.b.t c2.b.t))) (some (.int (min c1.b.l c2.b.l))) (some (.int (max (c1.b.t+c1.b.h) (c2.b.t+c2.b.h) - min c1.b.t c2.b.t))) none none none none,st.sto⟩) (by rw[←zI8 (h:=none) (x:=.int (max (c1.b.t+c1.b.h) (c2.b.t+c2.b.h) - min c1.b.t c2.b.t))];rfl) ?_
  exact Bv rfl (hQ [.int (min c1.b.t c2.b.t),.int (min c1.b.l c2.b.l),.int (max (c1.b.t+c1.b.h) (c2.b.t+c2.b.h) - min c1.b.t c2.b.t),.int (max (c1.b.l+c1.b.w) (c2.b.l+c2.b.w) - min c1.b.l c2.b.l)] _ ⟨_,_,_,_,rfl,rfl,rfl,rfl,rfl⟩ (.refl _) h0)
 ·have i1:=Ba (a:=m) (b:=R) (by exact C4 λZ=>A4 [_] [A5 x0 (.n 0),A5 (.n 1) x0] rT Z hR)
  have i2:=Ba (a:=m.fdiv R) (b:=C) (by exact C4 λZ=>A4 [_] [A5 x0 (.n 0),A5 (.n 1) x0] rT Z hC)
  refine Bi (st1:=⟨Er k R C n (some (.int m)) none none (some (.int (m.fmod R))) none none none none none none,st.sto⟩) (by rw[←zFT (t:=none) (x:=.int (m.fmod R))];exact run_set (st1:=⟨Er k R C n (some (.int m)) none none none none none none none none none,st.sto⟩) (Ab rfl rfl (Eb hRn.1))) ?_
  refine Bi (st1:=⟨Er k R C n (some (.int m)) none none (some (.int (m.fmod R))) (some (.int ((m.fdiv R).fmod C))) none none none none none,st.sto⟩) (by rw[←zFR (l:=none) (x:=.int ((m.fdiv R).fmod C))];exact run_set (st1:=⟨Er k R C n (some (.int m)) none none (some (.int (m.fmod R))) none none none none none none,st.sto⟩) (Ab (Ab rfl rfl (Es hRn)) rfl (Eb hCn.1))) ?_
  refine Bi (st1:=⟨Er k R C n (some (.int ((m.fdiv R).fdiv C))) none none (some (.int (m.fmod R))) (some (.int ((m.fdiv R).fmod C))) none none none none none,st.sto⟩) (by rw[←zGF (m:=some (.int m)) (x:=.int ((m.fdiv R).fdiv C))];exact run_set (st1:=⟨Er k R C n (some (.int m)) none none (some (.int (m.fmod R))) (some (.int ((m.fdiv R).fmod C))) none none none none none,st.sto⟩) (Ab (Ab rfl rfl (Es hRn)) rfl (Es hCn))) ?_
  generalize m.fmod R=t at i1
  generalize(m.fdiv R).fmod C=l at i2
  generalize(m.fdiv R).fdiv C=u
  have hr:R - t≠0/\(R - t).natAbs<1073741824:=⟨by exactλZ=>A4 [_,_] [B9 (.s x0 x1) (.n 0),A7 x1 x0] rT Z i1.2,by omega⟩
  have hc:C - l≠0:=by exactλZ=>A4 [_,_] [B9 (.s x0 x1) (.n 0),A7 x1 x0] rT Z i2.2
  have e3:Ac Au (ret1 (.int 1)) (Ac Cm (A6 4) (Ac Ek (A6 1) (A6 7))) ⟨Er k R C n (some (.int u)) none none (some (.int t)) (some (.int l)) none none none none none,st.sto⟩=.ok (.int (1+u.fmod (R - t))) ⟨Er k R C n (some (.int u)) none none (some (.int t)) (some (.int l)) none none none none none,st.sto⟩:=Ab (b:=.int (u.fmod (R - t))) rfl (Ab (a:=.int u) (b:=.int (R - t)) rfl rfl (Eb hr.1)) rfl
  have e4:Ac Au (ret1 (.int 1)) (Ac Cm (Ac Ec (A6 4) (Ac Ek (A6 1) (A6 7))) (Ac Ek (A6 2) (A6 8))) ⟨Er k R C n (some (.int u)) none none (some (.int t)) (some (.int l)) none none none none none,st.sto⟩=.ok (.int (1+(u.fdiv (R - t)).fmod (C - l))) ⟨Er k R C n (some (.int u)) none none (some (.int t)) (some (.int l)) none none none none none,st.sto⟩:=Ab (b:=.int ((u.fdiv (R - t)).fmod (C - l))) rfl (Ab (a:=.int (u.fdiv (R - t))) (b:=.int (C - l)) (Ab (a:=.int u) (b:=.int (R - t)) rfl rfl (Es hr)) rfl (Eb hc)) rfl
  generalize 1+u.fmod (R - t)=x3 at e3
  generalize 1+(u.fdiv (R - t)).fmod (C - l)=x4 at e4
  refine Bi (st1:=⟨Er k R C n (some (.int u)) none none (some (.int t)) (some (.int l)) none (some (.tup [.int t,.int l,.int x3,.int x4])) none none none,st.sto⟩) (by rw[←zHp (p:=none) (x:=.tup [.int t,.int l,.int x3,.int x4])];exact run_set (st1:=⟨Er k R C n (some (.int u)) none none (some (.int t)) (some (.int l)) none none none none none,st.sto⟩) (Bb (Oe.mpr (A9 (Az rfl (Az rfl (Az e3 (Az e4 rfl)))) ⟨by show 4<=sizeLine;decide,rfl,rfl⟩)))) ?_
  refine Is (b:=n.fmod 4==1) rfl (λ_=>?_) λ_=>A9 rfl (Bv rfl (hQ [.int t,.int l,.int x3,.int x4] _ ⟨_,_,_,_,rfl,rfl,rfl,rfl,rfl⟩ (.refl _) h0))
  refine Bi (st1:=⟨Er k R C n (some (.int (if u.fdiv 400<0 then -(u.fdiv 400)else u.fdiv 400))) none none (some (.int t)) (some (.int l)) none (some (.tup [.int t,.int l,.int x3,.int x4])) none none none,st.sto⟩) (by rw[←zGF (m:=some (.int u)) (x:=.int (if u.fdiv 400<0 then -(u.fdiv 400)else u.fdiv 400))];rfl) ?_
  generalize(if u.fdiv 400<0 then -(u.fdiv 400)else u.fdiv 400)=v
  have a4:=Ba (a:=v) (b:=4) (by decide);refine Bi (st1:=⟨Er k R C n (some (.int v)) none none (some (.int t)) (some (.int l)) none (some (.tup [.int t,.int l,.int x3,.int x4])) (some (.int (v.fmod 4))) none none,st.sto⟩) (by rw[←zBg (a:=none) (x:=.int (v.fmod 4))];rfl) ?_
  generalize v.fmod 4=a at a4
  have a2:=Ba (a:=a) (b:=2) (by decide);have v7:=Ba (a:=v.fdiv 4) (b:=7) (by decide);refine Ag (Af.mpr (Lc (ds:=[.int (R - t+1),.int (C - l+1)]) (i:=a.fmod 2) (l:=Er k R C n (some (.int v)) none none (some (.int t)) (some (.int l)) none (some (.tup [.int t,.int l,.int x3,.int x4])) (some (.int a)) none none) (σ:=st.sto) rfl (by show 2<=1000;decide) rfl a2.1 a2.2 λhh=>?_))
  have hby:∃z,[D.int (R - t+1),.int (C - l+1)][(a.fmod 2).toNat]=.int z:=by
   have:=List.getElem_mem hh
   simp only[List.mem_cons,List.not_mem_nil,or_false]at this;rcases this with e|e<;>exact⟨_,e⟩
  obtain⟨z,hz⟩:=hby;rw[hz];refine A9 (a:=Fl.next) (st1:=⟨Er k R C n (some (.int v)) none none (some (.int t)) (some (.int l)) none (some (.tup [.int t,.int l,.int x3,.int x4])) (some (.int a)) (some (.int z)) none,st.sto++[.list [.int (R - t+1),.int (C - l+1)]]⟩) (by rw[←zHv (y:=none) (x:=.int z)];rfl) ?_
  have k1:Kp st.sto (st.sto++[PO.list [.int (R - t+1),.int (C - l+1)]]):=.app _ _
  have t1:C8 (st.sto++[PO.list [.int (R - t+1),.int (C - l+1)]]):=h0.ext (.app _ _)
  generalize st.sto++[PO.list [.int (R - t+1),.int (C - l+1)]]=σ1 at k1 t1
  have eI:Ac Co (Cd (A0 (bnd (ret1 (.int 1)) Sh) (A0 (bnd (ret1 (.int 1)) Sh) (A0 (ret1 (.int 0)) (A0 (ret1 (.int 0)) Ah))))) (A6 11) ⟨Er k R C n (some (.int v)) none none (some (.int t)) (some (.int l)) none (some (.tup [.int t,.int l,.int x3,.int x4])) (some (.int a)) (some (.int z)) none,σ1⟩=.ok ([D.int (-1),.int (-1),.int 0,.int 0][a.toNat]'(by show a.toNat<4;exact Iy (C4 λZ=>A4 [_,_] [A5 (.n 4) x0,A7 x1 (.n 4),B9 x0 x1] rT Z a4.2 (Cf (Am λY=>A4 [_] [A7 x0 (.n 0),A5 (.n 0) x0] rT Y a4.1))))) ⟨Er k R C n (some (.int v)) none none (some (.int t)) (some (.int l)) none (some (.tup [.int t,.int l,.int x3,.int x4])) (some (.int a)) (some (.int z)) none,σ1++[.list [.int (-1),.int (-1),.int 0,.int 0]]⟩:=
   Bb (Lc (ds:=[.int (-1),.int (-1),.int 0,.int 0]) (i:=a) (l:=Er k R C n (some (.int v)) none none (some (.int t)) (some (.int l)) none (some (.tup [.int t,.int l,.int x3,.int x4])) (some (.int a)) (some (.int z)) none) (σ:=σ1) rfl (by show 4<=1000;decide) rfl a4.1 a4.2 λhh=>⟨rfl,rfl⟩)
  have hle:∃y,[D.int (-1),.int (-1),.int 0,.int 0][a.toNat]'(by show a.toNat<4;exact Iy (C4 λZ=>A4 [_,_] [A5 (.n 4) x0,A7 x1 (.n 4),B9 x0 x1] rT Z a4.2 (Cf (Am λY=>A4 [_] [A7 x0 (.n 0),A5 (.n 0) x0] rT Y a4.1))))=.int y:=by
   have:=List.getElem_mem (l:=[D.int (-1),.int (-1),.int 0,.int 0]) (n:=a.toNat) (by show a.toNat<4;exact Iy (C4 λZ=>A4 [_,_] [A5 (.n 4) x0,A7 x1 (.n 4),B9 x0 x1] rT Z a4.2 (Cf (Am λY=>A4 [_] [A7 x0 (.n 0),A5 (.n 0) x0] rT Y a4.1))))
   simp only[List.mem_cons,List.not_mem_nil,or_false]at this;rcases this with e|e|e|e<;>exact⟨_,e⟩
  obtain⟨y,hy⟩:=hle;rw[hy]at eI;have k2:=k1.trans (Kp.app σ1 [.list [.int (-1),.int (-1),.int 0,.int 0]]);have t2:=t1.ext (.app σ1 [.list [.int (-1),.int (-1),.int 0,.int 0]]);generalize σ1++[PO.list [.int (-1),.int (-1),.int 0,.int 0]]=σ2 at k2 t2 eI
  refine Ag (Af.mpr (Lc (ds:=[.int y,.int (21+v.fdiv 24),.none,.bool true,.str (sO "1"),.int z,.bool false]) (i:=(v.fdiv 4).fmod 7) (l:=Er k R C n (some (.int v)) none none (some (.int t)) (some (.int l)) none (some (.tup [.int t,.int l,.int x3,.int x4])) (some (.int a)) (some (.int z)) none) (σ:=σ2) (Az eI rfl) (by show 7≤1000;decide) rfl v7.1 v7.2 λhh=>?_))
  have hbp:Bg ([D.int y,.int (21+v.fdiv 24),.none,.bool true,.str (sO "1"),.int z,.bool false][((v.fdiv 4).fmod 7).toNat])=true:=by
   have:=List.getElem_mem hh
   simp only[List.mem_cons,List.not_mem_nil,or_false]at this;rcases this with e|e|e|e|e|e|e<;>(rw[e];rfl)
  generalize[D.int y,.int (21+v.fdiv 24),.none,.bool true,.str (sO "1"),.int z,.bool false][((v.fdiv 4).fmod 7).toNat]=bad at hbp
  refine A9 (a:=Fl.next) (st1:=⟨Er k R C n (some (.int v)) none none (some (.int t)) (some (.int l)) none (some (.tup [.int t,.int l,.int x3,.int x4])) (some (.int a)) (some (.int z)) (some bad),σ2++[.list [.int y,.int (21+v.fdiv 24),.none,.bool true,.str (sO "1"),.int z,.bool false]]⟩) (by rw[←zHV (b:=none) (x:=bad)];rfl) ?_
  have k3:=k2.trans (Kp.app σ2 [.list [.int y,.int (21+v.fdiv 24),.none,.bool true,.str (sO "1"),.int z,.bool false]]);have t3:=t2.ext (.app σ2 [.list [.int y,.int (21+v.fdiv 24),.none,.bool true,.str (sO "1"),.int z,.bool false]]);generalize σ2++[PO.list [.int y,.int (21+v.fdiv 24),.none,.bool true,.str (sO "1"),.int z,.bool false]]=σ3 at k3 t3
  refine Ag (W.mono (Q:=λfl s=>fl=.next/\∃a':Int,0<=a'/\a'<4/\s=⟨Er k R C n (some (.int v)) none none (some (.int t)) (some (.int l)) none (some (.tup [.int t,.int l,.int x3,.int x4])) (some (.int a')) (some (.int z)) (some bad),σ3⟩) ?_ ?_)
  ·refine Fc.mpr (A9 (Bd (t:=(v.fdiv 4).fmod 6==5) (Ab (Ab rfl rfl rfl) rfl rfl) rfl rfl rfl) ?_)
   by_cases q:((v.fdiv 4).fmod 6==5)=true
   ·rw[if_pos q];exact Bi (st1:=⟨Er k R C n (some (.int v)) none none (some (.int t)) (some (.int l)) none (some (.tup [.int t,.int l,.int x3,.int x4])) (some (.int (2+a.fmod 2))) (some (.int z)) (some bad),σ3⟩) (by rw[←zBg (a:=some (.int a)) (x:=.int (2+a.fmod 2))];rfl) (A9 rfl ⟨rfl,_,by exact Am λZ=>A4 [_] [A7 (.a (.n 2) x0) (.n 0),A5 (.n 0) x0] rT Z a2.1,by exact C4 λZ=>A4 [_] [A5 (.n 4) (.a (.n 2) x0),A7 x0 (.n 2)] rT Z a2.2,rfl⟩)
   ·rw[if_neg q];exact A9 rfl ⟨rfl,a,a4.1,a4.2,rfl⟩
  ·rintro _ _ ⟨rfl,a',h0',h4',rfl⟩
   have key:(Ac Au (Ac Au (G5 (A6 10) none (some (A6 11))) (D7 (A0 (A6 13) Ah))) (G5 (A6 10) (some (Ac Au (A6 11) (ret1 (.int 1)))) none)) ⟨Er k R C n (some (.int v)) none none (some (.int t)) (some (.int l)) none (some (.tup [.int t,.int l,.int x3,.int x4])) (some (.int a')) (some (.int z)) (some bad),σ3⟩=.ok (.tup (Dn none (some a') [.int t,.int l,.int x3,.int x4]++[bad]++Dn (some (a'+1)) none [.int t,.int l,.int x3,.int x4])) ⟨Er k R C n (some (.int v)) none none (some (.int t)) (some (.int l)) none (some (.tup [.int t,.int l,.int x3,.int x4])) (some (.int a')) (some (.int z)) (some bad),σ3⟩:=by
    refine Ab (Ab (Aa rfl (Aa rfl (X9 (by show 4<=1000;decide)))) (b:=.tup [bad]) rfl (Ua ?_)) (Aa rfl (Aa rfl (X9 (by show 4<=1000;decide)))) (Ua ?_)
    ·exact Nat.le_trans (Nat.add_le_add_right (Hb ..) 1) (by show 4+1<=1000;decide)
    ·rw[lq7];exact Nat.le_trans (Nat.add_le_add (Nat.add_le_add_right (Hb ..) 1) (Hb ..)) (by show 4+1+4<=1000;decide)
   exact Bv (Aa key rfl) (hQ _ _ (zIr rfl rfl rfl rfl hbp h0' h4') k3 t3)
end
section
open Builtin.Str
theorem zEh{b h:Mn Fl}{sub:Addr->Bool}{i:Nat}{st:St}{Q:Fl->St->Prop}(hb:W b st Q):W (Ky b sub i h) st Q:=by
 obtain⟨fl,s,e,q⟩:=hb;exact⟨fl,s,by unfold Ky;rw[e],q⟩
theorem zFE{b h:Mn Fl}{sub:Addr->Bool}{c:Addr}{st:St}{Q:St->Prop}{Q':Fl->St->Prop}(h1:X b st c Q) (hs:sub c=true) (h2:∀s,Q s->W h s Q'):W (Hr b sub h) st Q':=by
 obtain⟨s,e,q⟩:=h1;obtain⟨fl,s',e',q'⟩:=h2 s q;exact⟨fl,_,by unfold Hr;simp only[e,hs,e'],q'⟩
noncomputable def Ux (T P:D) (e f:Option D):C3:=Gq [some T,some P,e,f]
section
variable {T P d:D}{e f:Option D}
theorem zJG:upd (Ux T P e f) 2 d=Ux T P (some d) f:=An rfl
theorem zF9:upd (Ux T P e f) 3 d=Ux T P e (some d):=An rfl
theorem zBC:Cj Bh [0,1] [T,P]=Ux T P none none:=by
 funext i;rcases i with _|_|_|_|i<;>rfl
end
noncomputable def zA2 (ad:Addr):Str:=sO (if ad==49 then "cell" else if ad==109 then "cut" else "text")
theorem Vg{T P:D}{y z:Str}{e:Option D}{σ:Bm}{k:Mn Fl}{Q:Fl->St->Prop}(hl:y.length+z.length<=sizeLine) (h:W k ⟨Ux T P e (some (.str (y++z))),σ⟩ Q):
  W (Ad (bnd (Ac Au (A6 3) (ret1 (.str z))) (Aj 3)) (ret1 .next)) ⟨Ux T P e (some (.str y)),σ⟩ (zIH k Q):=
 Bi (st1:=⟨Ux T P e (some (.str (y++z))),σ⟩) (by rw[←zF9 (f:=some (.str y)) (d:=.str (y++z))];exact run_set (Ab rfl rfl (Pb hl))) (A9 rfl h)
theorem Ty{T a b c e:D}{ad:Addr}{st:St}{Q:D->St->Prop}(hc:ad=49∨ad=109∨ad=61) (hx:∀l,X (Dt [T,a,b,c,e]) ⟨l,st.sto⟩ ad λs=>s.loc=l/\Kp st.sto s.sto/\C8 s.sto)
  (hQ:∀y σ',cl y=cl (zA2 ad)->Kp st.sto σ'->C8 σ'->Q (.str y) ⟨st.loc,σ'⟩):W (Dh [T,.tup [a,b,c,e]]) st Q:=by
 refine Cq rfl ?_
 rw[zBC];unfold Gg;refine Ag (zGc (c:=ad) (Q:=λs=>s.loc=Ux T (.tup [a,b,c,e]) none none/\Kp st.sto s.sto/\C8 s.sto) (Jh (Xa (Mt (A9 (a:=[T,a,b,c,e]) rfl (hx _))))) (by rcases hc with rfl|rfl|rfl<;>rfl) ?_)
 rintro⟨l,σ⟩ ⟨hl,kp,t0⟩
 cases hl;show W _ ⟨upd (Ux T (.tup [a,b,c,e]) none none) 2 (.exc ad),σ⟩ _
 rw[zJG];have first:∀{k:Mn Fl}{Q':Fl→St→Prop},(W k ⟨Ux T (.tup [a,b,c,e]) (some (.exc ad)) (some (.str (Str.ofString ""))),σ++[PO.list [.str (Str.ofString ""),.str (sO "no value error ")]]⟩ Q')→W (Ad (bnd (Ac Co (Cd (A0 (ret1 (.str (Str.ofString ""))) (A0 (ret1 (.str (sO "no value error "))) Ah))) (bnd (A0 (Zk (bnd (A6 2) (Jb Hh))) Ah) Ei)) (Aj 3)) k) ⟨Ux T (.tup [a,b,c,e]) (some (.exc ad)) none,σ⟩ Q':=λ{k Q'} h=>by
  refine Ag (Af.mpr (Lc (ds:=[.str (Str.ofString ""),.str (sO "no value error ")]) (i:=0) (l:=Ux T (.tup [a,b,c,e]) (some (.exc ad)) none) (σ:=σ) rfl (by show 2≤1000;decide) (by rcases hc with rfl|rfl|rfl<;>rfl) (by decide) (by show(0:Int)<2;decide) λhh=>?_))
  exact A9 (a:=Fl.next) (st1:=⟨Ux T (.tup [a,b,c,e]) (some (.exc ad)) (some (.str (Str.ofString ""))),σ++[PO.list [.str (Str.ofString ""),.str (sO "no value error ")]]⟩) (by rw[←zF9 (f:=none) (d:=.str (Str.ofString ""))];rfl) h
 refine first ?_
 have kp2:Kp st.sto (σ++[PO.list [.str (Str.ofString ""),.str (sO "no value error ")]]):=kp.trans (.app _ _)
 have t2:C8 (σ++[PO.list [.str (Str.ofString ""),.str (sO "no value error ")]]):=t0.ext (.app _ _)
 generalize σ++[PO.list [.str (Str.ofString ""),.str (sO "no value error ")]]=σ1 at kp2 t2 ⊢
 rcases hc with rfl|rfl|rfl
 ·refine Ag (Gp (b:=true) rfl rfl (Vg (by decide+kernel) ?_))
  refine Ag (Ch (b:=false) rfl rfl (A9 rfl (Ag (Ch (b:=false) rfl rfl (A9 rfl (Ag (Ch (b:=false) rfl rfl (A9 rfl (Ag (Ch (b:=false) rfl rfl (A9 rfl ?_)))))))))))
  exact Bv rfl (hQ _ σ1 (by decide+kernel) kp2 t2)
 ·refine Ag (Ch (b:=false) rfl rfl (A9 rfl (Ag (Gp (b:=true) rfl rfl (Vg (by decide+kernel) ?_)))))
  refine Ag (Ch (b:=false) rfl rfl (A9 rfl (Ag (Ch (b:=false) rfl rfl (A9 rfl (Ag (Ch (b:=false) rfl rfl (A9 rfl ?_))))))))
  exact Bv rfl (hQ _ σ1 (by decide+kernel) kp2 t2)
 ·refine Ag (Ch (b:=false) rfl rfl (A9 rfl (Ag (Ch (b:=false) rfl rfl (A9 rfl (Ag (Gp (b:=true) rfl rfl (Vg (by decide+kernel) ?_))))))))
  refine Ag (Ch (b:=false) rfl rfl (A9 rfl (Ag (Ch (b:=false) rfl rfl (A9 rfl ?_)))))
  exact Bv rfl (hQ _ σ1 (by decide+kernel) kp2 t2)
theorem Wb{T a b c e:D}{st:St}{Q:D->St->Prop}(h:∀l,W (Dt [T,a,b,c,e]) ⟨l,st.sto⟩ λd s=>Q d ⟨st.loc,s.sto⟩):W (Dh [T,.tup [a,b,c,e]]) st Q:=by
 refine Cq rfl ?_
 rw[zBC];unfold Gg;obtain⟨d,s,e',q⟩:=h (Ux T (.tup [a,b,c,e]) none none)
 exact Ag (zEh (Bv (Aa (Aa (b:=[T,a,b,c,e]) rfl e') rfl) q))
end
section
open Builtin.Str
theorem Sx{R C:Int}:∀(bs:List Bx),(∀b,b∈bs->b.Good R C)->bs.length<=(bs.flatMap sq).length
 |[],_=>by simp
 |b::bs,h=>by
  have ih:=Sx bs λb m=>h b (lq4 _ m)
  have:0<(sq b).length:=List.length_pos_of_mem (Qf (h b lq1))
  rw[List.flatMap_cons,lq7,List.length_cons];exact Aw λZ=>A8 [_,_,_] [A7 (.a x2 x1) (.a x0 (.n 1)),A5 x0 x1,A7 (.n 0) x2] rT Z ih this
theorem Mi{R C:Int}(hR:1<=R) (hR2:R<=20) (hC:1<=C) (hC2:C<=20){bs:List Bx}(h:Le R C bs):bs.length<=400:=by
 obtain⟨r,rfl⟩:∃r:Nat,R=r:=⟨R.toNat,by exact Ur (λZ=>A4 [_,_] [A7 x0 x1,B9 x1 x0] rT Z (Cf (Am λY=>A4 [_] [A7 x0 (.n 0),A5 (.n 1) x0] rT Y hR))) (λZ=>A4 [_,_] [A7 x1 x0,A5 x0 x1] rT Z (H7 _))⟩
 obtain⟨c,rfl⟩:∃c:Nat,C=c:=⟨C.toNat,by exact Ur (λZ=>A4 [_,_] [A7 x0 x1,B9 x1 x0] rT Z (Cf (Am λY=>A4 [_] [A7 x0 (.n 0),A5 (.n 1) x0] rT Y hC))) (λZ=>A4 [_,_] [A7 x1 x0,A5 x0 x1] rT Z (H7 _))⟩
 refine Nat.le_trans (Sx bs h.1) (Nat.le_trans (zHu h.1 (Py h)) ?_)
 exact Nat.mul_le_mul (show r<=20 by exact Gk (Am λZ=>A4 [_] [A7 (.n 20) x0,A5 x0 (.n 20)] rT Z hR2)) (show c<=20 by exact Gk (Am λZ=>A4 [_] [A7 (.n 20) x0,A5 x0 (.n 20)] rT Z hC2))
noncomputable def B4 (y:Str):List (List Int)->List Ce
 |[]=>[]
 |s::r=>⟨one s,y⟩::B4 (Str.ofString "") r
theorem M3:∀(y:Str) (xs:List (List Int)),(B4 y xs).map (·.b)=xs.map one
 |_,[]=>rfl
 |y,s::r=>by unfold B4;rw[List.map_cons,List.map_cons,M3]
theorem Td{P:Str→Prop}(h0:P (Str.ofString "")):∀(y:Str) (xs:List (List Int)),P y→∀c,c∈B4 y xs→P c.x
 |_,[],_,c,m=>by cases m
 |y,s::r,hy,c,m=>by
  unfold B4 at m;rcases List.mem_cons.mp m with rfl|m
  ·exact hy
  ·exact Td h0 _ r h0 c m
noncomputable def Te (T r q:D) (mi ce tx a b:Option D):C3:=Gq [some T,some r,some q,mi,ce,tx,a,b,none]
section
variable {T r q x y:D}{mi ce tx a b:Option D}
theorem zJA:upd (Te T r q mi ce tx a b) 3 x=Te T r q (some x) ce tx a b:=An rfl
theorem zIl:upd (Te T r q mi ce tx a b) 4 x=Te T r q mi (some x) tx a b:=An rfl
theorem zFj:upd (Te T r q mi ce tx a b) 5 x=Te T r q mi ce (some x) a b:=An rfl
theorem zJ3:upd (upd (Te T r q mi ce tx a b) 6 x) 7 y=Te T r q mi ce tx (some x) (some y):=by
 rw[show upd (Te T r q mi ce tx a b) 6 x=Te T r q mi ce tx (some x) b from An rfl]
 exact An rfl
theorem zHC:Cj Bh [0,1,2] [T,r,q]=Te T r q none none none none none:=by
 funext i;rcases i with _|_|_|_|_|_|_|_|_|i<;>rfl
end
theorem Y5{R C:Int}{l1 l2:List Ce}{m:Ce}(h:Le R C ((l1++m::l2).map (·.b))):(l1++m::l2).filter (λc=>(c.b.t !=m.b.t)||(c.b.l !=m.b.l))=l1++l2:=by
 rw[List.map_append,List.map_cons]at h;have gm:=h.1 m.b (List.mem_append_right _ lq1);have hi:m.b.In m.b.t m.b.l:=by unfold Bx.In Bx.Good at *; exact⟨Am λZ=>A4 [_] [A7 x0 x0] rT Z,⟨C4 λZ=>A4 [_,_] [A5 (.a x0 x1) x0,A5 (.n 1) x1] rT Z gm.2.2.1,⟨Am λZ=>A4 [_] [A7 x0 x0] rT Z,C4 λZ=>A4 [_,_] [A5 (.a x0 x1) x0,A5 (.n 1) x1] rT Z gm.2.2.2.1⟩⟩⟩
 have key:∀c,c∈l1++l2->((c.b.t !=m.b.t)||(c.b.l !=m.b.l))=true:=λc mc=>by
  have mb:c.b∈l1.map (·.b)++l2.map (·.b):=by rw[←List.map_append];exact List.mem_map.mpr ⟨c,mc,rfl⟩
  have hn:=Pc h hi c.b mb;have gc:c.b.Good R C:=by
   rcases List.mem_append.mp mb with z|z
   ·exact h.1 _ (List.mem_append_left _ z)
   ·exact h.1 _ (List.mem_append_right _ (lq4 _ z))
  rw[Bool.or_eq_true,bne_iff_ne,bne_iff_ne];by_cases e1:c.b.t=m.b.t
  ·by_cases e2:c.b.l=m.b.l
   ·exact absurd ⟨Int.le_of_eq e1,e1▸Int.lt_add_of_pos_right _ gc.2.2.1,Int.le_of_eq e2,e2▸Int.lt_add_of_pos_right _ gc.2.2.2.1⟩ hn
   ·exact .inr e2
  ·exact .inl e1
 rw[List.filter_append,List.filter_cons,if_neg (by simp),←List.filter_append];exact List.filter_eq_self.mpr key
noncomputable def zAO (mt ml:Int):D->Bool
 |.tup [.int t,.int l,_,_,_]=>(t !=mt)||(l !=ml)
 |_=>true
inductive zLA (R C:Int) (k:Nat) (rr qq:Int) (m:Ce) (k4:Nat) (st:St) (l1 l2:List Ce) (σ1:Bm) (rem:List D) (s:St):Prop
 |mk (xs:List (List Int)) (es:List Ce) (y:Str) (a b:Option D) (σ2:Bm) (a0:s=⟨Te (D0 R C k) (.int rr) (.int qq) (some (Av m)) (some (.ref k4)) (some (.str y)) a b,σ2⟩) (a1:rem=xs.map Vy) (a2:es++B4 y xs=B4 m.x (sq m.b)) (a3:Kp st.sto σ2) (a4:C8 σ2) (a5:σ2[k4]? =some (.list ((l1++l2++es).map Av))) (a6:σ2[σ1.length]? =some (.list ((sq m.b).map Vy))) (a7:∀x,x∈xs->x∈sq m.b):zLA R C k rr qq m k4 st l1 l2 σ1 rem s
theorem zBV{R C:Int}(hR:1<=R) (hR2:R<=20) (hC:1<=C) (hC2:C<=20){l1 l2:List Ce}{m:Ce}(ok:Bq R C (l1++m::l2)){rr qq:Int}(hf:(l1++m::l2).find? (N7 rr qq)=some m){k:Nat}{st:St}(h0:C8 st.sto) (hk:st.sto[k]? =some (.list ((l1++m::l2).map Av))){Q:D->St->Prop}
  (hQ:∀cs' r σ',cs'.Perm (l1++l2++B4 m.x (sq m.b))->Bq R C cs'->C8 σ'->Kp st.sto σ'->st.sto.length<=r->σ'[r]? =some (.list (cs'.map Av))->Q (D0 R C r) ⟨st.loc,σ'⟩):
  W (Jo [D0 R C k,.int rr,.int qq]) st Q:=by
 have hsl:(1000:Nat)<=sizeLine:=by decide
 have ht0:=ok.til;have hv0:=ok.cov;rw[List.map_append,List.map_cons]at ht0 hv0;have gm:=ht0.1 m.b (List.mem_append_right _ lq1);have htm:=ok.tx m (List.mem_append_right _ lq1);have hlc:(l1++m::l2).length<=400:=by
  have:=Mi hR hR2 hC hC2 ok.til
  rw[lq6]at this;exact this
 have eb:(l1++l2++B4 m.x (sq m.b)).map (·.b)=l1.map (·.b)++l2.map (·.b)++(sq m.b).map one:=by rw[List.map_append,List.map_append,M3]
 have hta:Le R C ((l1++l2++B4 m.x (sq m.b)).map (·.b)):=by rw[eb];exact Vn ht0
 have hva:Pu R C ((l1++l2++B4 m.x (sq m.b)).map (·.b)):=by rw[eb];exact Vq ht0 hv0
 have hla:(l1++l2++B4 m.x (sq m.b)).length<=400:=by
  have:=Mi hR hR2 hC hC2 hta
  rw[lq6]at this;exact this
 refine Cq rfl ?_
 rw[zHC];unfold Lo;refine Ag (Af.mpr (Af.mpr (A9 rfl (zFJ hk hf (A9 (a:=Fl.next) (st1:=⟨Te (D0 R C k) (.int rr) (.int qq) (some (Av m)) none none none none,st.sto⟩) (by rw[←zJA (mi:=none) (x:=Av m)];rfl) ?_)))))
 refine Ag (Af.mpr (Af.mpr (A9 (Aa (Ab rfl rfl rfl) (Bb (Hj.mpr ⟨_,hk,rfl,rfl⟩))) ?_)))
 refine Lj (zAO m.b.t m.b.l) (λd x _=>∀c,d=Av c->x=Av c) (λl=>l 3=some (Av m)) (by show((l1++m::l2).map Av).length<=_;rw[lq6];exact Aw λZ=>A8 [_,_] [A7 x0 x1,A5 (.n 1000) x0,A5 x1 (.n 400)] rT Z hsl hlc) (λ_ _ _ _ _ h=>h) (λσ' hx=>hx.get hk) rfl (λd hd l σ' hA hx=>?_) λxs σ' hx rl=>?_
 ·obtain⟨c,mc,rfl⟩:=List.mem_map.mp hd;refine⟨upd l 8 (Av c),rfl,hA,A9 (a:=(c.b.t !=m.b.t)||(c.b.l !=m.b.l)) (st1:=⟨upd l 8 (Av c),σ'⟩) ?_ ⟨rfl,rfl,.refl _,λ_=>A9 rfl ⟨rfl,.refl _,λc' e=>e⟩⟩⟩
  have v3:(⟨upd l 8 (Av c),σ'⟩:St).loc 3=some (Av m):=hA
  have v8:(⟨upd l 8 (Av c),σ'⟩:St).loc 8=some (Av c):=rfl
  generalize(⟨upd l 8 (Av c),σ'⟩:St)=S at v3 v8
  exact Ef (Bd (a:=.int c.b.t) (b:=.int m.b.t) (Ab (Bf v8) rfl rfl) (Ab (Bf v3) rfl rfl) rfl rfl) (Bd (a:=.int c.b.l) (b:=.int m.b.l) (Ab (Bf v8) rfl rfl) (Ab (Bf v3) rfl rfl) rfl rfl)
 ·have ef:((l1++m::l2).map Av).filter (zAO m.b.t m.b.l)=(l1++l2).map Av:=by
   rw[List.filter_map,←Y5 ok.til];rfl
  have rr2:C2 (λx d=>∀c,d=Av c->x=Av c) xs (((l1++m::l2).map Av).filter (zAO m.b.t m.b.l)):=rl
  rw[ef]at rr2;have hxs:xs=(l1++l2).map Av:=N9 rr2
  subst hxs;have kp1:Kp st.sto (σ'++[.list ((l1++l2).map Av)]):=hx.kp.trans (.app _ _)
  have t1:C8 (σ'++[.list ((l1++l2).map Av)]):=(h0.ext hx).ext (.app _ _)
  have g4:(σ'++[PO.list ((l1++l2).map Av)])[σ'.length]? =some (.list ((l1++l2).map Av)):=lq3
  have n4:st.sto.length<=σ'.length:=hx.len
  refine A9 (a:=Fl.next) (st1:=⟨Te (D0 R C k) (.int rr) (.int qq) (some (Av m)) (some (.ref σ'.length)) none none none,σ'++[.list ((l1++l2).map Av)]⟩) (by rw[←zIl (ce:=none) (x:=.ref σ'.length)];rfl) ?_
  refine Bi (st1:=⟨Te (D0 R C k) (.int rr) (.int qq) (some (Av m)) (some (.ref σ'.length)) (some (.str m.x)) none none,σ'++[.list ((l1++l2).map Av)]⟩) (by rw[←zFj (tx:=none) (x:=.str m.x)];rfl) ?_
  generalize σ'.length=k4 at g4 n4
  generalize σ'++[PO.list ((l1++l2).map Av)]=σ1 at kp1 t1 g4
  refine Ag (Af.mpr (Af.mpr (Af.mpr (A9 rfl (Qb gm hR2 hC2 (Hj.mpr ⟨_,lq3,?_⟩))))))
  have hnew:(σ1++[PO.list ((sq m.b).map Vy)])[σ1.length]? =some (.list ((sq m.b).map Vy)):=lq3
  have hk4:k4<σ1.length:=(lq2 g4).1
  refine E6 (zLA R C k rr qq m k4 st l1 l2 σ1) ?_ ?_ _ _ ⟨sq m.b,[],m.x,none,none,_,rfl,rfl,rfl,kp1.trans (.app _ _),t1.ext (.app _ _),by rw[List.append_nil];exact(Ft.app _ _).get g4,hnew,λ_ mx=>mx⟩
  ·rintro d rest _ ⟨xs,es,y,a,b,σ2,rfl,hrem,he,kp2,t2,g2,gs,hm⟩
   cases xs with
   |nil=>cases hrem
   |cons s xs=>
    cases hrem;obtain⟨ra,rb,rfl,_⟩:=Gz (hm s lq1);refine⟨gs,_,rfl,?_⟩
    show W _ ⟨upd (upd (Te (D0 R C k) (.int rr) (.int qq) (some (Av m)) (some (.ref k4)) (some (.str y)) a b) 6 (.int ra)) 7 (.int rb),σ2⟩ _
    rw[zJ3];have hle:(l1++l2++es).length<=400:=by
     have:=congrArg List.length he
     rw[lq7]at this;rw[lq7]at hla;rw[lq7];exact Aw λZ=>A8 [_,_,_,_] [A7 (.n 400) (.a x0 x1),A5 (.a x0 x2) (.n 400),B9 (.a x1 x3) x2,A5 (.n 0) x3] rT Z hla this (lq5 _)
    refine Ag (Af.mpr (Af.mpr (A9 rfl (Tu.mpr ⟨⟨_,g2⟩,Af.mpr (A9 (a:=Av ⟨one [ra,rb],y⟩) rfl (Ju.mpr ⟨_,g2,by rw[lq6];exact Aw λZ=>A8 [_,_] [A7 x0 x1,A5 (.n 1000) x0,A5 x1 (.n 400)] rT Z hsl hle,A9 rfl ?_⟩))⟩))))
    have hset:(σ2.set k4 (.list ((l1++l2++es).map Av++[Av ⟨one [ra,rb],y⟩])))[k4]? =some (.list ((l1++l2++(es++[(⟨one [ra,rb],y⟩:Ce)])).map Av)):=by
     rw[List.getElem?_set_self (lq2 g2).1,←lq8,List.map_append (l₁:=l1++l2++es)];rfl
    refine Bi (st1:=⟨Te (D0 R C k) (.int rr) (.int qq) (some (Av m)) (some (.ref k4)) (some (.str (Str.ofString ""))) (some (.int ra)) (some (.int rb)),σ2.set k4 (.list ((l1++l2++es).map Av++[Av ⟨one [ra,rb],y⟩]))⟩) (by rw[←zFj (tx:=some (.str y)) (x:=.str (Str.ofString ""))];rfl) (A9 rfl ⟨xs,es++[⟨one [ra,rb],y⟩],_,_,_,_,rfl,rfl,by rw[←he,lq8];rfl,kp2.setNew n4,t2.set g2,hset,by rw[List.getElem?_set_ne (by exactλZ=>A8 [_,_] [Gl x0 x1,A7 x0 x1] rT Z hk4)];exact gs,λx mx=>hm x (lq4 _ mx)⟩)
  ·rintro _ ⟨xs,es,y,a,b,σ2,rfl,hrem,he,kp2,t2,g2,gs,_⟩
   cases xs with
   |cons s xs=>cases hrem
   |nil=>
    rw[show B4 y []=[]from rfl,List.append_nil]at he
    subst he;refine⟨gs,Ag (Af.mpr (Oe.mpr (Af.mpr (A9 (Ab rfl rfl rfl) (Af.mpr (Af.mpr (A9 (Ab rfl rfl rfl) (Af.mpr (Af.mpr (Af.mpr (A9 (Az rfl rfl) (Pd (R:=R) (C:=C) (cs:=l1++l2++B4 m.x (sq m.b)) t2 (by exact Am λZ=>A4 [_] [A7 (.n 1048576) x0,A5 x0 (.n 20)] rT Z hC2) g2 hta hva (λc mc=>?_) (by exact Aw λZ=>A8 [_] [A7 (.n 900) x0,A5 x0 (.n 400)] rT Z hla) λcs' r' σ' pm ok' t' k' hr hg=>A9 rfl (A9 rfl (A9 rfl ⟨by show 3<=sizeLine;exact Aw λZ=>A8 [_] [A7 x0 (.n 3),A5 (.n 1000) x0] rT Z hsl,A9 rfl (hQ cs' r' σ' pm ok' t' (kp2.trans k') (Nat.le_trans kp2.1 hr) hg)⟩))))))))))))))⟩
    rcases List.mem_append.mp mc with mc|mc
    ·refine ok.tx c ?_
     rcases List.mem_append.mp mc with mc|mc
     ·exact List.mem_append_left _ mc
     ·exact List.mem_append_right _ (lq4 _ mc)
    ·exact Td (P:=λx=>(cl x).all Kv=true/\x.length<=1000) ⟨by decide+kernel,by decide+kernel⟩ m.x (sq m.b) htm c mc
end
section
open Builtin.Str
theorem Ta{R C:Int}{cs:List Ce}{k:Nat}{d1 d2:D}{st:St}(hk:st.sto[k]? =some (.list (cs.map Av))) (h1:Bg d1=true) (h2:Bg d2=true) (hn:wh d1=false∨wh d2=false∨∃r q,d1=.int r/\d2=.int q/\cs.find? (N7 r q)=none){Q:D->St->Prop}(hQ:Q (.bool true) st):W (C5 [D0 R C k,d1,d2]) st Q:=by
 refine Cq rfl ?_
 unfold Fh;refine Ag (zFE (c:=97) (Q:=λs=>s.sto=st.sto) (Jh (Xa (Mt (A9 (a:=[D0 R C k,d1,d2]) rfl (zE9 rfl ?_))))) rfl λs hs=>Bv rfl ?_)
 ·unfold Lo;refine Jh (Xa (Mt (A9 (a:=[D0 R C k,d1,d2]) rfl ⟨⟨Cj Bh [0,1,2] [D0 R C k,d1,d2],st.sto⟩,Zr (cs:=cs) (st:=⟨Cj Bh [0,1,2] [D0 R C k,d1,d2],st.sto⟩) hk h1 h2 hn,rfl⟩)))
 ·show Q (.bool true) ⟨st.loc,s.sto⟩
  rw[hs];exact hQ
end
section
open Builtin.Str
theorem Ut:Cp ⟨⟨0,0,1,1⟩,Str.ofString ""⟩=false:=by decide+kernel
theorem Ou:∀xs:List (List Int),(B4 (Str.ofString "") xs).filter Cp=[]
 |[]=>rfl
 |s::r=>by
  unfold B4;rw[List.filter_cons,show Cp ⟨one s,Str.ofString ""⟩=false from Ut]
  exact Ou r
theorem Yx{y:Str}{xs:List (List Int)}(h:xs≠[]):Dm (B4 y xs)=if cl y=[]then[]else[y]:=by
 cases xs with
 |nil=>exact absurd rfl h
 |cons s r=>
  unfold Dm B4;rw[List.filter_cons,Ou];by_cases hy:cl y=[]
  ·rw[if_pos hy,show Cp ⟨one s,y⟩=false by unfold Cp;rw[hy];rfl];rfl
  ·rw[if_neg hy,show Cp ⟨one s,y⟩=true by unfold Cp;simpa using hy];rfl
theorem zDs{R C:Int}{b:Bx}(g:b.Good R C){x:List Int}(m:x∈sq b):Gh b (one x)=false:=by
 obtain⟨r,c,rfl,i⟩:=Gz m;rw[Bool.eq_false_iff];intro h;have:=Eu.mp h
 unfold Bx.Disj one at this;unfold Bx.In at i;simp only at this
 exact Or.elim this (λhd2=>A4 [_,_] [A5 x0 x1,A5 (.a x1 (.n 1)) x0] rT i.1 hd2) (λhd2=>Or.elim hd2 (λhd3=>A4 [_,_,_] [A7 x1 (.a x0 x2),A5 (.a x0 x2) x1] rT i.2.1 hd3) (λhd3=>Or.elim hd3 (λhd4=>A4 [_,_] [A5 x0 x1,A5 (.a x1 (.n 1)) x0] rT i.2.2.1 hd4) (λhd4=>A4 [_,_,_] [A7 x1 (.a x0 x2),A5 (.a x0 x2) x1] rT i.2.2.2 hd4)))
theorem zCA{R C:Int}{cs' l1 l2:List Ce}{m:Ce}(ht:Le R C ((l1++m::l2).map (·.b))) (p:cs'.Perm (l1++l2++B4 m.x (sq m.b))):(Jm m.b cs').Perm (l1++m::l2)/\Cl m.b cs'=m.x/\∀c,c∈cs'->c.b.Disj m.b∨c.b.Sub m.b:=by
 have ht2:=ht;rw[List.map_append,List.map_cons]at ht2;have gm:=ht2.1 m.b (List.mem_append_right _ lq1);have hne:sq m.b≠[]:=λz=>by
  have:=Qf gm
  rw[z]at this
  cases this
 have hoth:∀c,c∈l1++l2->c.b.Disj m.b:=λc mc=>by
  obtain⟨_,d2,d3⟩:=List.pairwise_append.mp ht2.2;rcases List.mem_append.mp mc with mc|mc
  ·exact d3 c.b (List.mem_map.mpr ⟨c,mc,rfl⟩) m.b lq1
  ·exact((List.pairwise_cons.mp d2).1 c.b (List.mem_map.mpr ⟨c,mc,rfl⟩)).symm
 have hun:∀c,c∈B4 m.x (sq m.b)->Gh m.b c.b=false:=λc mc=>by
  have:c.b∈(sq m.b).map one:=by rw[←M3 m.x];exact List.mem_map.mpr ⟨c,mc,rfl⟩
  obtain⟨x,mx,e⟩:=List.mem_map.mp this;rw[←e];exact zDs gm mx
 have hus:∀c,c∈B4 m.x (sq m.b)->c.b.Sub m.b:=λc mc=>by
  have:c.b∈(sq m.b).map one:=by rw[←M3 m.x];exact List.mem_map.mpr ⟨c,mc,rfl⟩
  exact((Jw gm).1 _ this).2
 have eo:G3 m.b (l1++l2++B4 m.x (sq m.b))=l1++l2:=by
  unfold G3;rw[List.filter_append,List.filter_eq_self.mpr λc mc=>Eu.mpr (hoth c mc),List.filter_eq_nil_iff.mpr λc mc=>by rw[hun c mc];simp,List.append_nil]
 have ei:El m.b (l1++l2++B4 m.x (sq m.b))=B4 m.x (sq m.b):=by
  unfold El;rw[List.filter_append,List.filter_eq_nil_iff.mpr λc mc=>by rw[Eu.mpr (hoth c mc)];simp,List.filter_eq_self.mpr λc mc=>by rw[hun c mc];rfl,List.nil_append]
 have pt:(Dm (El m.b cs')).Perm (Dm (B4 m.x (sq m.b))):=by
  rw[←ei];unfold Dm El;exact((p.filter _).filter _).map _
 have hx:Cl m.b cs'=m.x:=by
  refine zBt ?_
  unfold Cl;rw[Ij];rw[Yx hne]at pt;by_cases hy:cl m.x=[]
  ·rw[if_pos hy]at pt;rw[List.Perm.eq_nil pt,hy];rfl
  ·rw[if_neg hy]at pt;rw[List.Perm.eq_singleton pt];rfl
 refine⟨?_,hx,λc mc=>?_⟩
 ·unfold Jm;rw[hx];have po:(G3 m.b cs').Perm (l1++l2):=by
   rw[←eo];exact p.filter _
  refine(po.append_right _).trans ?_
  show(l1++l2++[m]).Perm (l1++m::l2)
  rw[lq8];exact List.Perm.append_left _ (List.perm_append_comm (l₁:=l2) (l₂:=[m]))
 ·rcases List.mem_append.mp (p.mem_iff.mp mc)with mc|mc
  ·exact .inl (hoth c mc)
  ·exact .inr (hus c mc)
end
section
open Builtin.Str
noncomputable def zAF (b:Bx) (i:Nat):List Int:=[b.t+((i / b.w.toNat:Nat):Int),b.l+((i % b.w.toNat:Nat):Int)]
theorem Wx:∀xs:List (List Int),B4 (Str.ofString "") xs=xs.map λs=>⟨one s,Str.ofString ""⟩
 |[]=>rfl
 |s::r=>by unfold B4;rw[Wx r];rfl
theorem zAq(b:Bx) (x:Str) (f:Nat→List Int):∀N:Nat,B4 x ((List.range N).map f)=(List.range N).map λj=>(⟨one (f j),if j=0 then x else Str.ofString ""⟩:Ce)
 |0=>rfl
 |N+1=>by
  rw[List.range_succ_eq_map,List.map_cons,List.map_cons];unfold B4;rw[Wx,List.map_map,List.map_map,List.map_map];rfl
noncomputable def Fb (T:D) (R C:Int) (kc:Nat) (n r q:Int) (b d w ce i f g:Option D):C3:=Gq [some T,some (.int R),some (.int C),some (.ref kc),some (.int n),some (.int r),some (.int q),b,d,w,ce,i,f,g]
section
variable {T:D}{R C:Int}{kc:Nat}{n r q:Int}{b d w ce i f g:Option D}{x:D}
theorem zIV:upd (Fb T R C kc n r q b d w ce i f g) 8 x=Fb T R C kc n r q b (some x) w ce i f g:=An rfl
theorem zFm:upd (Fb T R C kc n r q b d w ce i f g) 9 x=Fb T R C kc n r q b d (some x) ce i f g:=An rfl
theorem zHF:upd (Fb T R C kc n r q b d w ce i f g) 10 x=Fb T R C kc n r q b d w (some x) i f g:=An rfl
theorem zHz:upd (Fb T R C kc n r q b d w ce i f g) 11 x=Fb T R C kc n r q b d w ce (some x) f g:=An rfl
theorem zGo:upd (Fb T R C kc n r q b d w ce i f g) 12 x=Fb T R C kc n r q b d w ce i (some x) g:=An rfl
theorem zID:upd (Fb T R C kc n r q b d w ce i f g) 13 x=Fb T R C kc n r q b d w ce i f (some x):=An rfl
end
noncomputable def zFo:Mn Fl:=(Ad (Di (Fa (Nd Mp It (ix 10 0) (A6 5) (Ac Au (ix 10 0) (ix 10 2))) (Nd Mp It (ix 10 1) (A6 6) (Ac Au (ix 10 1) (ix 10 3)))) (Ad (bnd (A6 10) (Aj 9))
 (ret1 .next)) (Ad (bnd (bnd (A6 8) (De λk=>bnd (A6 10) (Br k))) Dr)
 (ret1 .next)))
 (ret1 .next))
inductive zLW (T:D) (R C:Int) (kc:Nat) (n r q:Int) (bd:Option D) (k8:Nat) (σ0:Bm) (l1 l2:List Ce) (m:Ce) (fl:Fl) (s:St):Prop
 |mk (e:fl=.next) (ce:Option D) (σ':Bm) (hs:s=⟨Fb T R C kc n r q bd (some (.ref k8)) (some (Av m)) ce none none none,σ'⟩) (k:Kp σ0 σ') (t:C8 σ') (g:σ'[k8]? =some (.list ((l1++l2).map Av)))
inductive zKh (T:D) (R C:Int) (kc:Nat) (n r q:Int) (bd:Option D) (k8:Nat) (σ0:Bm) (l1 l2:List Ce) (m:Ce) (rem:List D) (s:St):Prop
 |mk (cr out:List Ce) (x:D) (ce:Option D) (σ':Bm) (a0:rem=cr.map Av) (a1:s=⟨Fb T R C kc n r q bd (some (.ref k8)) (some x) ce none none none,σ'⟩) (a2:Kp σ0 σ') (a3:C8 σ') (a4:σ'[k8]? =some (.list (out.map Av))) (a5:out++cr.filter (λc=>!N7 r q c)=l1++l2) (a6:out.length+cr.length<=400) (a7:(m∈cr∨x=Av m)) (a8:∀c,c∈cr->c∈l1++m::l2):zKh T R C kc n r q bd k8 σ0 l1 l2 m rem s
theorem zCX{R C:Int}{l1 l2:List Ce}{m:Ce}(ok:Bq R C (l1++m::l2)) (hl4:(l1++m::l2).length<=400){r q n:Int}(hin:N7 r q m=true){T:D}{kc k8:Nat}{bd:Option D}{σ0 σ:Bm}(kp:Kp σ0 σ) (t0:C8 σ) (hk:σ0[kc]? =some (.list ((l1++m::l2).map Av))) (h8:σ[k8]? =some (.list [])) (n8:σ0.length<=k8):
  W (D9 (Ca 10) (λσ=>σ[kc]? =some (.list ((l1++m::l2).map Av))) zFo ((l1++m::l2).map Av)) ⟨Fb T R C kc n r q bd (some (.ref k8)) (some .none) none none none none,σ⟩ (zLW T R C kc n r q bd k8 σ0 l1 l2 m):=by
 have ht:=ok.til;rw[List.map_append,List.map_cons]at ht;have hiB:m.b.In r q:=by
  unfold N7 at hin;simp only[Bool.and_eq_true,decide_eq_true_eq]at hin;unfold Bx.In;exact⟨Am λZ=>A4 [_,_] [A7 x1 x0,A5 x0 x1] rT Z hin.1,⟨C4 λZ=>A4 [_,_,_] [A5 (.a x0 x2) x1,A7 x1 (.a x0 x2)] rT Z hin.2.1,⟨Am λZ=>A4 [_,_] [A7 x1 x0,A5 x0 x1] rT Z hin.2.2.1,C4 λZ=>A4 [_,_,_] [A5 (.a x0 x2) x1,A7 x1 (.a x0 x2)] rT Z hin.2.2.2⟩⟩⟩
 have hno:∀c,c∈l1++l2->N7 r q c=false:=λc mc=>by
  have:=Pc ht hiB c.b (by rw[←List.map_append];exact List.mem_map.mpr ⟨c,mc,rfl⟩)
  rw[Bool.eq_false_iff];intro h;unfold N7 at h;simp only[Bool.and_eq_true,decide_eq_true_eq]at h;exact this (by unfold Bx.In;exact⟨Am λZ=>A4 [_,_] [A7 x1 x0,A5 x0 x1] rT Z h.1,⟨C4 λZ=>A4 [_,_,_] [A5 (.a x0 x2) x1,A7 x1 (.a x0 x2)] rT Z h.2.1,⟨Am λZ=>A4 [_,_] [A7 x1 x0,A5 x0 x1] rT Z h.2.2.1,C4 λZ=>A4 [_,_,_] [A5 (.a x0 x2) x1,A7 x1 (.a x0 x2)] rT Z h.2.2.2⟩⟩⟩)
 have hfil:(l1++m::l2).filter (λc=>!N7 r q c)=l1++l2:=by
  rw[List.filter_append,List.filter_cons,hin,if_neg (by simp),←List.filter_append];exact List.filter_eq_self.mpr λc mc=>by rw[hno c mc];rfl
 have hm:∀c,c∈l1++m::l2->N7 r q c=true->c=m:=λc mc h=>by
  rcases List.mem_append.mp mc with z|z
  ·rw[hno c (List.mem_append_left _ z)]at h;cases h
  ·rcases List.mem_cons.mp z with z|z
   ·exact z
   ·rw[hno c (List.mem_append_right _ z)]at h;cases h
 refine E6 (zKh T R C kc n r q bd k8 σ0 l1 l2 m) ?_ ?_ _ _ ⟨l1++m::l2,[],.none,none,σ,rfl,rfl,kp,t0,h8,hfil,by rw[List.length_nil];exact Aw λZ=>A8 [_] [A7 (.n 400) (.a (.n 0) x0),A5 x0 (.n 400)] rT Z hl4,.inl (List.mem_append_right _ lq1),λ_ mc=>mc⟩
 ·rintro d rest _ ⟨cr,out,x,ce,σ',hrem,rfl,kp',t',g8,he,hl,hx,hc⟩
  cases cr with
  |nil=>cases hrem
  |cons c cr=>
   cases hrem;rw[List.length_cons]at hl;refine⟨kp'.2 _ _ hk,Fb T R C kc n r q bd (some (.ref k8)) (some x) (some (Av c)) none none none,congrArg some zHF,?_⟩
   have tt:(Fa (Nd Mp It (ix 10 0) (A6 5) (Ac Au (ix 10 0) (ix 10 2))) (Nd Mp It (ix 10 1) (A6 6) (Ac Au (ix 10 1) (ix 10 3)))) ⟨Fb T R C kc n r q bd (some (.ref k8)) (some x) (some (Av c)) none none none,σ'⟩=.ok (N7 r q c) ⟨Fb T R C kc n r q bd (some (.ref k8)) (some x) (some (Av c)) none none none,σ'⟩:=by
    unfold N7;rw[←Bool.and_assoc];exact H2 (Tq (Ab rfl rfl rfl) rfl (Ab (Ab rfl rfl rfl) (Ab rfl rfl rfl) rfl)) (Tq (Ab rfl rfl rfl) rfl (Ab (Ab rfl rfl rfl) (Ab rfl rfl rfl) rfl))
   unfold zFo
   cases h:N7 r q c with
   |true=>
    rw[h]at tt;obtain rfl:=hm c (hc c lq1) h;rw[List.filter_cons,h,if_neg (by simp)]at he;exact Ag (Gp tt rfl (Bi (st1:=⟨Fb T R C kc n r q bd (some (.ref k8)) (some (Av c)) (some (Av c)) none none none,σ'⟩) (by rw[←zFm (w:=some x) (x:=Av c)];rfl) (A9 rfl (A9 rfl ⟨cr,out,_,_,σ',rfl,rfl,kp',t',g8,he,by exact Aw λZ=>A8 [_,_] [A7 (.n 400) (.a x0 x1),A5 (.a x0 (.a x1 (.n 1))) (.n 400)] rT Z hl,.inr rfl,λe me=>hc e (lq4 _ me)⟩))))
   |false=>
    rw[h]at tt;rw[List.filter_cons,h,if_pos (by simp)]at he;refine Ag (Ch tt rfl (Ag (Af.mpr (Af.mpr (A9 rfl (Tu.mpr ⟨⟨_,g8⟩,Af.mpr (A9 (a:=Av c) rfl (Ju.mpr ⟨_,g8,?_,A9 rfl (A9 rfl (A9 rfl ⟨cr,out++[c],x,_,_,rfl,rfl,kp'.setNew n8,t'.set g8,by rw[List.map_append];exact List.getElem?_set_self (lq2 g8).1,by rw[←he,lq8];rfl,?_,?_,λe me=>hc e (lq4 _ me)⟩))⟩))⟩))))))
    ·rw[lq6];exact Nat.le_trans (show out.length<=1000 by exact Aw λZ=>A8 [_,_] [A7 (.n 1000) x0,A5 (.a x0 (.a x1 (.n 1))) (.n 400),A5 (.n 0) x1] rT Z hl (lq5 _)) (by decide)
    ·rw[lq7];show _+1+_<=_;exact Aw λZ=>A8 [_,_] [A7 (.n 400) (.a (.a x0 (.n 1)) x1),A5 (.a x0 (.a x1 (.n 1))) (.n 400)] rT Z hl
    ·rcases hx with hx|hx
     ·rcases List.mem_cons.mp hx with z|z
      ·rw[z]at hin;rw[hin]at h;cases h
      ·exact .inl z
     ·exact .inr hx
 ·rintro _ ⟨cr,out,x,ce,σ',hrem,rfl,kp',t',g8,he,hl,hx,hc⟩
  cases cr with
  |cons c cr=>cases hrem
  |nil=>
   rw[List.filter_nil,List.append_nil]at he;subst he;obtain rfl:=hx.resolve_left (by simp);exact⟨kp'.2 _ _ hk,rfl,ce,σ',rfl,kp',t',g8⟩
end
section
open Builtin.Str
noncomputable def V8:Mn D:=(D7 (A0 (Ac Au (ix 9 0) (Ac Ec (A6 11) (ix 9 3))) (A0 (Ac Au (ix 9 1) (Ac Cm (A6 11) (ix 9 3))) (A0 (ret1 (.int 1)) (A0 (ret1 (.int 1)) (A0 (Ac Co (Cd (A0 (ret1 (.str (Str.ofString ""))) (A0 (ix 9 4) Ah))) (bnd (A0 (Ac Ex (A6 11) (ret1 (.int 0))) Ah) Ei)) Ah))))))
noncomputable def zJH:Mn Fl:=(Ad (bnd (bnd (A6 8) (De λk=>bnd V8 (Br k))) Dr)
 (ret1 .next))
noncomputable def Xj:Mn Fl:=(bnd (bnd (A0 (Ac Ep (ix 9 2) (ix 9 3)) Ah) E9) λsrc=>D9 (Ca 11) src.g zJH src.ds)
section
variable {T:D}{R C:Int}{kc:Nat}{n r q:Int}{bd ce i:Option D}{k8:Nat}{σ0 σ:Bm}
theorem Uu{m:Ce}(g:m.b.Good R C) (hC:C≤20){j:Nat}:V8 ⟨Fb T R C kc n r q bd (some (.ref k8)) (some (Av m)) ce (some (.int (j:Int))) none none,σ⟩=.ok (Av ⟨one (zAF m.b j),if j=0 then m.x else Str.ofString ""⟩) ⟨Fb T R C kc n r q bd (some (.ref k8)) (some (Av m)) ce (some (.int (j:Int))) none none,σ++[.list [.str (Str.ofString ""),.str m.x]]⟩:=by
 unfold Bx.Good at g;have hw:m.b.w=((m.b.w.toNat:Nat):Int):=by exact Ur (λZ=>A4 [_,_] [A7 x0 x1,B9 x1 x0] rT Z (Cf (Am λY=>A4 [_] [A7 x0 (.n 0),A5 (.n 1) x0] rT Y g.2.2.2.1))) (λZ=>A4 [_,_] [A7 x1 x0,A5 x0 x1] rT Z (H7 _))
 have hw0:m.b.w≠0/\m.b.w.natAbs<1073741824:=⟨by exactλZ=>A4 [_] [B9 x0 (.n 0),A5 (.n 1) x0] rT Z g.2.2.2.1,by omega⟩
 have ed:(j:Int).fdiv m.b.w=((j / m.b.w.toNat:Nat):Int):=by
  rw[hw,Int.toNat_natCast];exact(Int.ofNat_fdiv j m.b.w.toNat).symm
 have em:(j:Int).fmod m.b.w=((j % m.b.w.toNat:Nat):Int):=by
  rw[hw,Int.toNat_natCast];exact(Int.ofNat_fmod j m.b.w.toNat).symm
 have v9:(⟨Fb T R C kc n r q bd (some (.ref k8)) (some (Av m)) ce (some (.int (j:Int))) none none,σ⟩:St).loc 9=some (Av m):=rfl
 have a0:Ac Au (ix 9 0) (Ac Ec (A6 11) (ix 9 3)) ⟨Fb T R C kc n r q bd (some (.ref k8)) (some (Av m)) ce (some (.int (j:Int))) none none,σ⟩=.ok (.int (m.b.t+((j / m.b.w.toNat:Nat):Int))) ⟨Fb T R C kc n r q bd (some (.ref k8)) (some (Av m)) ce (some (.int (j:Int))) none none,σ⟩:=by
  rw[←ed];exact Ab (a:=.int m.b.t) rfl (Ab (a:=.int (j:Int)) (b:=.int m.b.w) rfl rfl (Es hw0)) rfl
 have a1:Ac Au (ix 9 1) (Ac Cm (A6 11) (ix 9 3)) ⟨Fb T R C kc n r q bd (some (.ref k8)) (some (Av m)) ce (some (.int (j:Int))) none none,σ⟩=.ok (.int (m.b.l+((j % m.b.w.toNat:Nat):Int))) ⟨Fb T R C kc n r q bd (some (.ref k8)) (some (Av m)) ce (some (.int (j:Int))) none none,σ⟩:=by
  rw[←em];exact Ab (a:=.int m.b.l) rfl (Ab (a:=.int (j:Int)) (b:=.int m.b.w) rfl rfl (Eb hw0.1)) rfl
 have pk:Ac Co (Cd (A0 (ret1 (.str (Str.ofString ""))) (A0 (ix 9 4) Ah))) (bnd (A0 (Ac Ex (A6 11) (ret1 (.int 0))) Ah) Ei) ⟨Fb T R C kc n r q bd (some (.ref k8)) (some (Av m)) ce (some (.int (j:Int))) none none,σ⟩=.ok (.str (if j=0 then m.x else Str.ofString "")) ⟨Fb T R C kc n r q bd (some (.ref k8)) (some (Av m)) ce (some (.int (j:Int))) none none,σ++[.list [.str (Str.ofString ""),.str m.x]]⟩:=by
  by_cases h:j=0
  ·subst h;rw[if_pos rfl];exact Bb (Lc (ds:=[.str (Str.ofString ""),.str m.x]) (i:=1) (l:=Fb T R C kc n r q bd (some (.ref k8)) (some (Av m)) ce (some (.int ((0:Nat):Int))) none none) (σ:=σ) rfl (by show 2≤1000;decide) rfl (by decide) (by show(1:Int)<2;decide) λhh=>⟨rfl,rfl⟩)
  ·rw[if_neg h];refine Bb (Lc (ds:=[.str (Str.ofString ""),.str m.x]) (i:=0) (l:=Fb T R C kc n r q bd (some (.ref k8)) (some (Av m)) ce (some (.int (j:Int))) none none) (σ:=σ) rfl (by show 2≤1000;decide) (Aa (b:=[.bool ((j:Int)==0)]) (Az (Ab rfl rfl rfl) rfl) ?_) (by decide) (by show(0:Int)<2;decide) λhh=>⟨rfl,rfl⟩)
   rw[show((j:Int)==0)=false from beq_false_of_ne (by omega)]
   rfl
 unfold V8;exact Bb (Oe.mpr (A9 (Az a0 (Az a1 (Az rfl (Az rfl (Az pk rfl))))) ⟨by show 5<=sizeLine;decide,rfl,rfl⟩))
inductive zLY (T:D) (R C:Int) (kc:Nat) (n r q:Int) (bd:Option D) (k8:Nat) (m:Ce) (ce:Option D) (σ0:Bm) (base:List Ce) (fl:Fl) (s:St):Prop
 |mk (e:fl=.next) (i':Option D) (σ':Bm) (hs:s=⟨Fb T R C kc n r q bd (some (.ref k8)) (some (Av m)) ce i' none none,σ'⟩) (k:Kp σ0 σ') (t:C8 σ') (g:σ'[k8]? =some (.list ((base++B4 m.x (sq m.b)).map Av)))
inductive zKj (T:D) (R C:Int) (kc:Nat) (n r q:Int) (bd:Option D) (k8:Nat) (m:Ce) (ce:Option D) (σ0:Bm) (base:List Ce) (rem:List D) (s:St):Prop
 |mk (js:List Nat) (es:List Ce) (i':Option D) (σ':Bm) (a0:s=⟨Fb T R C kc n r q bd (some (.ref k8)) (some (Av m)) ce i' none none,σ'⟩) (a1:rem=js.map (λ(j:Nat)=>D.int (0+(j:Int)*1))) (a2:es++js.map (λj=>(⟨one (zAF m.b j),if j=0 then m.x else Str.ofString ""⟩:Ce))=B4 m.x (sq m.b)) (a3:Kp σ0 σ') (a4:C8 σ') (a5:σ'[k8]? =some (.list ((base++es).map Av))) (a6:es.length+js.length≤400):zKj T R C kc n r q bd k8 m ce σ0 base rem s
theorem Zf{m:Ce}{base:List Ce}(g:m.b.Good R C) (hR:R<=20) (hC:C<=20) (hl:base.length<=400) (kp:Kp σ0 σ) (t0:C8 σ) (h8:σ[k8]? =some (.list (base.map Av))) (n8:σ0.length<=k8):
  W Xj ⟨Fb T R C kc n r q bd (some (.ref k8)) (some (Av m)) ce none none none,σ⟩ (zLY T R C kc n r q bd k8 m ce σ0 base):=by
 have hg:=g;unfold Bx.Good at hg;have hN:m.b.h.toNat*m.b.w.toNat<=20*20:=Nat.mul_le_mul (by exact Gk (Am λZ=>A4 [_,_,_,_] [A7 (.n 20) x0,A5 x1 (.n 20),A5 (.n 0) x2,A5 (.a x2 x3) x1,B9 x0 x3] rT Z hR hg.1 hg.2.2.2.2.1 (Cf (Am λY=>A4 [_] [A7 x0 (.n 0),A5 (.n 1) x0] rT Y hg.2.2.1)))) (by exact Gk (Am λZ=>A4 [_,_,_,_] [A7 (.n 20) x0,A5 x1 (.n 20),A5 (.n 0) x2,A5 (.a x2 x3) x1,B9 x0 x3] rT Z hC hg.2.1 hg.2.2.2.2.2 (Cf (Am λY=>A4 [_] [A7 x0 (.n 0),A5 (.n 1) x0] rT Y hg.2.2.2.1))))
 have hM:m.b.h*m.b.w=((m.b.h.toNat*m.b.w.toNat:Nat):Int):=by
  rw[Int.natCast_mul,Int.toNat_of_nonneg (by exact Am λZ=>A4 [_] [A7 x0 (.n 0),A5 (.n 1) x0] rT Z hg.2.2.1),Int.toNat_of_nonneg (by exact Am λZ=>A4 [_] [A7 x0 (.n 0),A5 (.n 1) x0] rT Z hg.2.2.2.1)]
 have hsq:sq m.b=(List.range (m.b.h.toNat*m.b.w.toNat)).map (zAF m.b):=(zGz m.b (by exact Am λZ=>A4 [_] [A7 x0 (.n 1),A5 (.n 1) x0] rT Z hg.2.2.2.1)).symm
 have eM:Ac Ep (ix 9 2) (ix 9 3) ⟨Fb T R C kc n r q bd (some (.ref k8)) (some (Av m)) ce none none none,σ⟩=.ok (.int (m.b.h*m.b.w)) ⟨Fb T R C kc n r q bd (some (.ref k8)) (some (Av m)) ce none none none,σ⟩:=Ab (a:=.int m.b.h) (b:=.int m.b.w) rfl rfl (Gc (by rw[Dx (by exact C4 λZ=>A4 [_] [A5 x0 (.s (.n 0) (.n 1000000)),A5 (.n 1) x0] rT Z hg.2.2.1) (by exact C4 λZ=>A4 [_,_,_] [A5 (.n 1000000) x0,A5 x1 (.n 20),A5 (.n 0) x2,A5 (.a x2 x0) x1] rT Z hR hg.1 hg.2.2.2.2.1)];rfl))
 have eR:E9 [.int (m.b.h*m.b.w)] ⟨Fb T R C kc n r q bd (some (.ref k8)) (some (Av m)) ce none none none,σ⟩=.ok ⟨G6 0 1 (m.b.h.toNat*m.b.w.toNat),λ_=>True⟩ ⟨Fb T R C kc n r q bd (some (.ref k8)) (some (Av m)) ce none none none,σ⟩:=by
  rw[hM];exact Bb (Jk.mpr ⟨E1.mpr ⟨by exact Am λZ=>A4 [_] [A7 x0 (.s (.n 0) (.n 1099511627776)),A5 (.n 0) x0] rT Z (Hd _),by exact C4 λZ=>A4 [_] [A5 (.n 1099511627776) x0,A5 x0 (.m 20 (.n 20))] rT Z (Nw hN)⟩,rfl,rfl⟩)
 have eU:B4 m.x (sq m.b)=(List.range (m.b.h.toNat*m.b.w.toNat)).map λj=>(⟨one (zAF m.b j),if j=0 then m.x else Str.ofString ""⟩:Ce):=by rw[hsq];exact zAq m.b m.x (zAF m.b) _
 unfold Xj;refine Af.mpr (A9 (Aa (Az eM rfl) eR) ?_)
 refine E6 (zKj T R C kc n r q bd k8 m ce σ0 base) ?_ ?_ _ _ ⟨List.range (m.b.h.toNat*m.b.w.toNat),[],none,σ,rfl,rfl,eU.symm,kp,t0,by rw[List.append_nil];exact h8,by rw[List.length_range];show 0+_<=400;exact Aw λZ=>A8 [_] [A7 (.n 400) (.a (.n 0) x0),A5 x0 (.m 20 (.n 20))] rT Z hN⟩
 ·rintro d rest _ ⟨js,es,i',σ',rfl,hrem,he,kp',t',g8,hln⟩
  cases js with
  |nil=>cases hrem
  |cons j js=>
   cases hrem;rw[List.length_cons]at hln;refine⟨trivial,Fb T R C kc n r q bd (some (.ref k8)) (some (Av m)) ce (some (.int (j:Int))) none none,by show some (upd _ 11 (D.int (0+(j:Int)*1)))=_;rw[Int.zero_add,Int.mul_one];exact congrArg some zHz,?_⟩
   have g8':=(Ft.app σ' [.list [.str (Str.ofString ""),.str m.x]]).get g8;unfold zJH;refine Ag (Af.mpr (Af.mpr (A9 rfl (Tu.mpr ⟨⟨_,g8⟩,Af.mpr (A9 (Uu g hC) (Ju.mpr ⟨_,g8',?_,A9 rfl (A9 rfl ⟨js,es++[⟨one (zAF m.b j),if j=0 then m.x else Str.ofString ""⟩],_,_,rfl,rfl,by rw[←he,lq8];rfl,(kp'.trans (.app _ _)).setNew n8,(t'.ext (.app _ _)).set g8',?_,by rw[lq7];show _+1+_≤_;exact Aw λZ=>A8 [_,_] [A7 (.n 400) (.a (.a x0 (.n 1)) x1),A5 (.a x0 (.a x1 (.n 1))) (.n 400)] rT Z hln⟩)⟩))⟩))))
   ·rw[lq6,lq7];exact Nat.le_trans (show base.length+es.length<=1000 by exact Aw λZ=>A8 [_,_,_] [A7 (.n 1000) (.a x0 x1),A5 x0 (.n 400),A5 (.a x1 (.a x2 (.n 1))) (.n 400),A5 (.n 0) x2] rT Z hl hln (lq5 _)) (by decide)
   ·rw[List.getElem?_set_self (lq2 g8').1,←lq8,List.map_append (l₁:=base++es)];rfl
 ·rintro _ ⟨js,es,i',σ',rfl,hrem,he,kp',t',g8,_⟩
  cases js with
  |cons j js=>cases hrem
  |nil=>
   rw[List.map_nil,List.append_nil]at he;subst he;exact⟨trivial,rfl,i',σ',rfl,kp',t',g8⟩
end
end
section
open Builtin.Str
theorem U8{R C:Int}{cs:List Ce}(ok:Bq R C cs){c:Ce}(m:c∈cs):c.b.Good R C:=ok.til.1 _ (List.mem_map.mpr ⟨c,m,rfl⟩)
theorem zCU{R C:Int}{A B:List Ce}(okA:Bq R C A) (okB:Bq R C B) (p:A.Perm B) (hR:R<=20) (hC:C<=20):A=B:=by
 refine Yd Ce.rk (n:=20971520) p okA.srt okB.srt ?_ λb m=>by have:=U8 okB m;unfold Bx.Good at this;unfold Ce.rk;omega
 have:=okB.til.corners (by exact Am λZ=>A4 [_] [A7 (.n 1048576) x0,A5 x0 (.n 20)] rT Z hC)
 rw[List.map_map]at this;exact this
theorem zC9{k:Nat}{ds:List D}{st:St}{Q:D->St->Prop}(hk:st.sto[k]? =some (.list ds)) (hl:ds.length<=1000) (h:Q .none ⟨st.loc,st.sto.set k (.list [])⟩):W (De Ez (.ref k)) st Q:=
 ⟨.none,⟨st.loc,st.sto.set k (.list [])⟩,by have:ds.length<=sizeLine:=Nat.le_trans hl (by decide);unfold De;dsimp only;rw[hk];unfold Ez;dsimp only;rw[hk];exact if_pos this,h⟩
noncomputable def zJl (R C:Int) (d:D):Prop:=Bg d=true/\(wh d=false∨∃v,d=.int v/\(v<0∨R<=v/\C<=v))
theorem zCi{R C a:Int}(hR:1≤R) (hC:1≤C) (ha:0≤a):∀d,d∈[D.int (-1 - a),.int (R+C+a),.none,.str (sO "0"),.bool true,.bool false]→zJl R C d:=by
 intro d m;simp only[List.mem_cons,List.not_mem_nil,or_false]at m;rcases m with rfl|rfl|rfl|rfl|rfl|rfl
 ·exact⟨rfl,.inr ⟨_,rfl,.inl (by exact C4 λZ=>A4 [_] [A5 (.n 0) (.s (.s (.n 0) (.n 1)) x0),A5 (.n 0) x0] rT Z ha)⟩⟩
 ·exact⟨rfl,.inr ⟨_,rfl,.inr ⟨by exact Am λZ=>A4 [_,_,_] [A7 (.a (.a x0 x1) x2) x0,A5 (.n 1) x1,A5 (.n 0) x2] rT Z hC ha,by exact Am λZ=>A4 [_,_,_] [A7 (.a (.a x0 x1) x2) x1,A5 (.n 1) x0,A5 (.n 0) x2] rT Z hR ha⟩⟩⟩
 ·exact⟨rfl,.inl rfl⟩
 ·exact⟨rfl,.inl rfl⟩
 ·exact⟨rfl,.inl rfl⟩
 ·exact⟨rfl,.inl rfl⟩
theorem zHW(a:Int):0<=(if a<0 then -a else a):=by
 by_cases h:a<0
 ·rw[if_pos h];omega
 ·rw[if_neg h];exact Am λZ=>A4 [_] [A7 x0 (.n 0),A5 (.n 0) x0] rT Z (Int.not_lt.mp h)
theorem zIq{R C:Int}(hR2:R<=20) (hC2:C<=20){cs1 ds:List Ce}(ok1:Bq R C cs1) (p:cs1.Perm ds) (hd:ds.length<=900){k1 k8:Nat}{S:St}(v12:S.loc 12=some (D0 R C k1)) (v1:S.loc 1=some (.int R)) (v2:S.loc 2=some (.int C)) (v8:S.loc 8=some (.ref k8)) (g1:S.sto[k1]? =some (.list (cs1.map Av))) (g8:S.sto[k8]? =some (.list (ds.map Av))):
  ∃j,(E8 (bnd (bnd (A0 (A6 12) (A0 (A6 1) (A0 (A6 2) (A0 (bnd (A0 (A6 8) Ah) (Bo Cs)) Ah)))) E2) As)) S=.ok false ⟨S.loc,S.sto++j⟩:=by
 have ht:Le R C (ds.map (·.b)):=ok1.til.perm (p.symm.map _)
 have hv:Pu R C (ds.map (·.b)):=ok1.cov.perm (p.symm.map _)
 obtain⟨d,s,e,cs2,rfl,rfl,pm,ok2⟩:=H4 (λ_ _=>N0) (R:=R) (C:=C) (cs:=ds) (k:=k8) (st:=S) (Q:=λd s=>∃cs2:List Ce,d=.ref S.sto.length/\s=⟨S.loc,S.sto++[.list (cs2.map Av)]⟩/\cs2.Perm ds/\Bq R C cs2) (by exact Am λZ=>A4 [_] [A7 (.n 1048576) x0,A5 x0 (.n 20)] rT Z hC2) g8 ht hv (λc mc=>ok1.tx c (p.mem_iff.mpr mc)) hd λcs2 pm ok2=>⟨cs2,rfl,rfl,pm,ok2⟩
 obtain rfl:cs2=cs1:=zCU ok2 ok1 (pm.trans p.symm) hR2 hC2
 obtain⟨d,s,e2,rfl,j,rfl⟩:=zHO (R:=R) (C:=C) (k:=k1) (k':=S.sto.length) (st:=⟨S.loc,S.sto++[.list (cs2.map Av)]⟩) (Q:=λd s=>d=.bool true/\∃j,s=⟨S.loc,S.sto++[.list (cs2.map Av)]++j⟩) ok1.len ((Ft.app _ _).get g1) lq3 λj=>⟨rfl,j,rfl⟩
 refine⟨[.list (cs2.map Av)]++j,?_⟩
 rw[←lq8];exact Aa (Aa (Aa (Az (Bf v12) (Az (Bf v1) (Az (Bf v2) (Az (Aa (Az (Bf v8) rfl) e) rfl)))) e2) rfl) rfl
end
section
open Builtin.Str
theorem zIy{T:D}{R C:Int}{kc:Nat}{n r q:Int}{b d w ce i f g:Option D}{x:D}:upd (Fb T R C kc n r q b d w ce i f g) 7 x=Fb T R C kc n r q (some x) d w ce i f g:=An rfl
theorem Pz{R C:Int}(hR:1<=R) (hR2:R<=20) (hC:1<=C) (hC2:C<=20){cs:List Ce}(ok:Bq R C cs) (hx:∀c,c∈cs->c.x.length<=200){kt kc:Nat}{n:Int}{st:St}(h0:C8 st.sto) (hkt:st.sto[kt]? =some (.list (cs.map Av))) (hkc:st.sto[kc]? =some (.list (cs.map Av))){Q:D->St->Prop}
  (hQ:∀σ',Kp st.sto σ'->C8 σ'->Q (.bool true) ⟨st.loc,σ'⟩):W (Cv [D0 R C kt,.int R,.int C,.ref kc,.int n]) st Q:=by
 have hsl:(1000:Nat)<=sizeLine:=by decide
 have hRn:R≠0/\R.natAbs<1073741824:=⟨by exactλZ=>A4 [_] [B9 x0 (.n 0),A5 (.n 1) x0] rT Z hR,by omega⟩
 have hCn:C≠0/\C.natAbs<1073741824:=⟨by exactλZ=>A4 [_] [B9 x0 (.n 0),A5 (.n 1) x0] rT Z hC,by omega⟩
 have hlc:cs.length<=400:=by
  have:=Mi hR hR2 hC hC2 ok.til
  rw[lq6]at this;exact this
 have hloc:upd (upd (Cj Bh [0,1,2,3,4] [D0 R C kt,.int R,.int C,.ref kc,.int n]) 5 (.int (n.fmod R))) 6 (.int ((n.fdiv R).fmod C))=Fb (D0 R C kt) R C kc n (n.fmod R) ((n.fdiv R).fmod C) none none none none none none none:=by
  funext i;rcases i with _|_|_|_|_|_|_|_|_|_|_|_|_|_|i<;>rfl
 refine Cq rfl ?_
 unfold Eh;refine Bi (run_set (Ab rfl rfl (Eb hRn.1))) ?_
 refine Bi (run_set (Ab (Ab rfl rfl (Es hRn)) rfl (Eb hCn.1))) ?_
 show W _ ⟨upd (upd (Cj Bh [0,1,2,3,4] [D0 R C kt,.int R,.int C,.ref kc,.int n]) 5 (.int (n.fmod R))) 6 (.int ((n.fdiv R).fmod C)),st.sto⟩ _
 rw[hloc];clear hloc;have i1:=Ba (a:=n) (b:=R) (by exact C4 λZ=>A4 [_] [A5 x0 (.n 0),A5 (.n 1) x0] rT Z hR)
 have i2:=Ba (a:=n.fdiv R) (b:=C) (by exact C4 λZ=>A4 [_] [A5 x0 (.n 0),A5 (.n 1) x0] rT Z hC)
 have i6:=Ba (a:=(n.fdiv R).fdiv C) (b:=6) (by decide);generalize n.fmod R=r at i1
 generalize(n.fdiv R).fmod C=q at i2
 refine Ag (Af.mpr (Lc (ds:=[.int (-1 - (if n<0 then -n else n)),.int (R+C+(if n<0 then -n else n)),.none,.str (sO "0"),.bool true,.bool false]) (i:=((n.fdiv R).fdiv C).fmod 6) (l:=Fb (D0 R C kt) R C kc n r q none none none none none none none) (σ:=st.sto) rfl (by show 6≤1000;decide) (Ab (Ab (Ab rfl rfl (Es hRn)) rfl (Es hCn)) rfl (Eb (by decide))) i6.1 i6.2 λhh=>?_))
 have hb:=zCi hR hC (zHW n) _ (List.getElem_mem hh);generalize[D.int (-1 - (if n<0 then -n else n)),.int (R+C+(if n<0 then -n else n)),.none,.str (sO "0"),.bool true,.bool false][(((n.fdiv R).fdiv C).fmod 6).toNat]=bad at hb
 refine A9 (a:=Fl.next) (st1:=⟨Fb (D0 R C kt) R C kc n r q (some bad) none none none none none none,st.sto++[.list [.int (-1 - (if n<0 then -n else n)),.int (R+C+(if n<0 then -n else n)),.none,.str (sO "0"),.bool true,.bool false]]⟩) (by rw[←zIy (b:=none) (x:=bad)];rfl) ?_
 have k1:Kp st.sto (st.sto++[PO.list [.int (-1 - (if n<0 then -n else n)),.int (R+C+(if n<0 then -n else n)),.none,.str (sO "0"),.bool true,.bool false]]):=.app _ _
 have t1:C8 (st.sto++[PO.list [.int (-1 - (if n<0 then -n else n)),.int (R+C+(if n<0 then -n else n)),.none,.str (sO "0"),.bool true,.bool false]]):=h0.ext (.app _ _)
 generalize st.sto++[PO.list [.int (-1 - (if n<0 then -n else n)),.int (R+C+(if n<0 then -n else n)),.none,.str (sO "0"),.bool true,.bool false]]=σ1 at k1 t1
 have gt1:=k1.2 _ _ hkt;have ns:∀(d1 d2:D) (m1 m2:Mn D),m1 ⟨Fb (D0 R C kt) R C kc n r q (some bad) none none none none none none,σ1⟩=.ok d1 ⟨Fb (D0 R C kt) R C kc n r q (some bad) none none none none none none,σ1⟩->m2 ⟨Fb (D0 R C kt) R C kc n r q (some bad) none none none none none none,σ1⟩=.ok d2 ⟨Fb (D0 R C kt) R C kc n r q (some bad) none none none none none none,σ1⟩->Bg d1=true->Bg d2=true->(wh d1=false∨wh d2=false∨∃r q,d1=.int r/\d2=.int q/\cs.find? (N7 r q)=none)->E8 (bnd (bnd (A0 (A6 0) (A0 m1 (A0 m2 Ah))) C5) As) ⟨Fb (D0 R C kt) R C kc n r q (some bad) none none none none none none,σ1⟩=.ok false ⟨Fb (D0 R C kt) R C kc n r q (some bad) none none none none none none,σ1⟩:=λd1 d2 m1 m2 e1 e2 p1 p2 hn=>
  Aa (Aa (Aa (Az rfl (Az e1 (Az e2 rfl))) (Bb (Ta (cs:=cs) gt1 p1 p2 hn ⟨rfl,rfl⟩))) rfl) rfl
 refine Ag (Ch (Ef (ns bad (.int q) (A6 7) (A6 6) rfl rfl hb.1 rfl ?_) (ns (.int r) bad (A6 5) (A6 7) rfl rfl rfl hb.1 ?_)) rfl (A9 rfl ?_))
 ·rcases hb.2 with h|⟨v,rfl,h⟩
  ·exact .inl h
  ·exact .inr (.inr ⟨_,_,rfl,rfl,Ly ok (by exact Or.elim h (λhd2=>.inl (C4 λZ=>A4 [_] [A5 (.n 0) x0,A7 x0 (.n 0)] rT Z hd2)) (λhd2=>.inr (.inl (Am λZ=>A4 [_,_] [A7 x1 x0,A5 x0 x1] rT Z hd2.1))))⟩)
 ·rcases hb.2 with h|⟨v,rfl,h⟩
  ·exact .inr (.inl h)
  ·exact .inr (.inr ⟨_,_,rfl,rfl,Ly ok (by exact Or.elim h (λhd4=>.inr (.inr (.inl (C4 λZ=>A4 [_] [A5 (.n 0) x0,A7 x0 (.n 0)] rT Z hd4)))) (λhd4=>.inr (.inr (.inr (Am λZ=>A4 [_,_] [A7 x1 x0,A5 x0 x1] rT Z hd4.2)))))⟩)
 refine Ag (Ch (Ef (ns (.int R) (.int q) (A6 1) (A6 6) rfl rfl rfl rfl (.inr (.inr ⟨_,_,rfl,rfl,Ly ok (.inr (.inl (Int.le_refl _)))⟩))) (ns (.int r) (.int (-1)) (A6 5) (bnd (ret1 (.int 1)) Sh) rfl rfl rfl rfl (.inr (.inr ⟨_,_,rfl,rfl,Ly ok (.inr (.inr (.inl (by decide))))⟩)))) rfl (A9 rfl ?_))
 clear ns;obtain⟨m,mm,hf⟩:=zDR ok i1.1 i1.2 i2.1 i2.2;have hin:N7 r q m=true:=List.find?_some hf
 obtain⟨l1,l2,rfl⟩:=List.append_of_mem mm;have gm:=U8 ok mm;refine Bi (st1:=⟨Fb (D0 R C kt) R C kc n r q (some bad) (some (.ref σ1.length)) none none none none none,σ1++[.list []]⟩) (by rw[←zIV (d:=none) (x:=.ref σ1.length)];rfl) ?_
 refine Bi (st1:=⟨Fb (D0 R C kt) R C kc n r q (some bad) (some (.ref σ1.length)) (some .none) none none none none,σ1++[.list []]⟩) (by rw[←zFm (w:=none) (x:=.none)];rfl) ?_
 have k2:=k1.trans (Kp.app σ1 [.list []]);have t2:=t1.ext (.app σ1 [.list []]);have g8:(σ1++[PO.list []])[σ1.length]? =some (.list []):=lq3
 have n8:st.sto.length<=σ1.length:=k1.1
 generalize σ1.length=k8 at g8 n8
 generalize σ1++[PO.list []]=σ2 at k2 t2 g8
 refine Ag (Af.mpr (A9 (Aa rfl (Bb (Hj.mpr ⟨_,k2.2 _ _ hkc,rfl,rfl⟩))) (W.mono (zCX ok hlc hin k2 t2 hkc g8 n8) ?_)))
 rintro _ _ ⟨rfl,ce,σ3,rfl,k3,t3,g8'⟩
 refine Ag (W.mono (Zf (base:=l1++l2) gm hR2 hC2 (by rw[lq7,List.length_cons]at hlc;rw[lq7];exact Aw λZ=>A8 [_,_] [A7 (.n 400) (.a x0 x1),A5 (.a x0 (.a x1 (.n 1))) (.n 400)] rT Z hlc) k3 t3 g8' n8) ?_)
 rintro _ _ ⟨rfl,i',σ4,rfl,k4,t4,g84⟩
 have hld:(l1++l2++B4 m.x (sq m.b)).length<=900:=by
  have hN:(sq m.b).length<=20*20:=by
   rw[Rs];unfold Bx.Good at gm;exact Nat.mul_le_mul (by exact Gk (Am λZ=>A4 [_,_,_,_] [A7 (.n 20) x0,A5 x1 (.n 20),A5 (.n 0) x2,A5 (.a x2 x3) x1,B9 x0 x3] rT Z hR2 gm.1 gm.2.2.2.2.1 (Cf (Am λY=>A4 [_] [A7 x0 (.n 0),A5 (.n 1) x0] rT Y gm.2.2.1)))) (by exact Gk (Am λZ=>A4 [_,_,_,_] [A7 (.n 20) x0,A5 x1 (.n 20),A5 (.n 0) x2,A5 (.a x2 x3) x1,B9 x0 x3] rT Z hC2 gm.2.1 gm.2.2.2.2.2 (Cf (Am λY=>A4 [_] [A7 x0 (.n 0),A5 (.n 1) x0] rT Y gm.2.2.2.1))))
  have:=congrArg List.length (M3 m.x (sq m.b))
  rw[lq6,lq6]at this;rw[lq7,List.length_cons]at hlc;rw[lq7,lq7];exact Aw λZ=>A8 [_,_,_,_] [A7 (.n 900) (.a (.a x0 x1) x2),A5 (.a x0 (.a x1 (.n 1))) (.n 400),A5 x3 (.m 20 (.n 20)),B9 x2 x3] rT Z hlc hN this
 refine Ag (Af.mpr (Af.mpr (A9 rfl (zBV hR hR2 hC hC2 ok hf t4 (k4.2 _ _ hkt) λcs1 kf σ5 pm ok1 t5 k5 hkf gf=>?_))))
 refine A9 (a:=Fl.next) (st1:=⟨Fb (D0 R C kt) R C kc n r q (some bad) (some (.ref k8)) (some (Av m)) ce i' (some (D0 R C kf)) none,σ5⟩) (by rw[←zGo (f:=none) (x:=D0 R C kf)];rfl) ?_
 have k5a:=k4.trans k5;have g85:=k5.2 _ _ g84;have nf:σ4.length<=kf:=hkf
 have h8lt:k8<σ4.length:=(lq2 g84).1
 obtain⟨j6,e6⟩:=zIq hR2 hC2 ok1 pm hld (S:=⟨Fb (D0 R C kt) R C kc n r q (some bad) (some (.ref k8)) (some (Av m)) ce i' (some (D0 R C kf)) none,σ5⟩) rfl rfl rfl rfl gf g85
 refine Ag (Ch e6 rfl (A9 rfl ?_))
 have k6:=k5a.trans (Kp.app σ5 j6);have t6:=t5.ext (.app σ5 j6);have gf6:=(Ft.app σ5 j6).get gf;have g86:=(Ft.app σ5 j6).get g85;have nf6:σ4.length<=(σ5++j6).length:=Nat.le_trans k5.1 (Kp.app σ5 j6).1
 show W _ ⟨Fb (D0 R C kt) R C kc n r q (some bad) (some (.ref k8)) (some (Av m)) ce i' (some (D0 R C kf)) none,σ5++j6⟩ _
 generalize σ5++j6=σ6 at k6 t6 gf6 g86 nf6
 obtain⟨pa,hxt,hsd⟩:=zCA ok.til pm;have hl1:cs1.length<=850:=by
  have:=Mi hR hR2 hC hC2 ok1.til
  rw[lq6]at this;exact Aw λZ=>A8 [_] [A7 (.n 850) x0,A5 x0 (.n 400)] rT Z this
 refine Ag (Af.mpr (Af.mpr (A9 (a:=[D0 R C kf,.int m.b.t,.int m.b.l,.int m.b.h,.int m.b.w]) rfl (U1 ok1 gm hR2 hC2 t6 gf6 hsd (by rw[hxt];exact hx m mm) hl1 λcs3 ka σ7 pm3 ok3 t7 k7 hka ga=>?_))))
 obtain rfl:cs3=l1++m::l2:=zCU ok3 ok (pm3.trans pa) hR2 hC2
 refine A9 (a:=Fl.next) (st1:=⟨Fb (D0 R C kt) R C kc n r q (some bad) (some (.ref k8)) (some (Av m)) ce i' (some (D0 R C kf)) (some (D0 R C ka)),σ7⟩) (by rw[←zID (g:=none) (x:=D0 R C ka)];rfl) ?_
 have k7a:=k6.trans k7;refine Ag (Fc.mpr (Af.mpr (Af.mpr (Af.mpr (A9 rfl (zHO ok.len ga (k7a.2 _ _ hkc) λj8=>A9 rfl (A9 rfl (A9 rfl ?_))))))))
 have k8a:=k7a.trans (Kp.app σ7 j8);have t8:=t7.ext (.app σ7 j8);have ga8:=(Ft.app σ7 j8).get ga;have gf8:=(Ft.app σ7 j8).get (k7.2 _ _ gf6);have g88:=(Ft.app σ7 j8).get (k7.2 _ _ g86);show W _ ⟨Fb (D0 R C kt) R C kc n r q (some bad) (some (.ref k8)) (some (Av m)) ce i' (some (D0 R C kf)) (some (D0 R C ka)),σ7++j8⟩ _
 generalize σ7++j8=σ8 at k8a t8 ga8 gf8 g88
 have hfa:kf<σ6.length:=(lq2 gf6).1
 have nka:σ6.length<=ka:=hka
 refine Ag (Af.mpr (Af.mpr (A9 (Ab rfl rfl rfl) (zC9 (k:=ka) ga8 (by rw[lq6];exact Aw λZ=>A8 [_] [A7 (.n 1000) x0,A5 x0 (.n 400)] rT Z hlc) (A9 rfl ?_)))))
 have nst:st.sto.length<=σ6.length:=k6.1
 have k9:Kp st.sto (σ8.set ka (.list [])):=k8a.setNew (by exact Aw λZ=>A8 [_,_,_,_,_] [A7 x1 x0,A5 x0 x2,A7 x2 x3,A5 x3 x4,A5 x4 x1] rT Z n8 h8lt nf6 hka)
 have t9:C8 (σ8.set ka (.list [])):=t8.set ga8
 have gf9:(σ8.set ka (.list []))[kf]? =some (.list (cs1.map Av)):=by rw[List.getElem?_set_ne (by exactλZ=>A8 [_,_,_] [B9 x1 x0,A5 x2 x1,A7 x0 x2] rT Z hka hfa)];exact gf8
 have g89:(σ8.set ka (.list []))[k8]? =some (.list ((l1++l2++B4 m.x (sq m.b)).map Av)):=by rw[List.getElem?_set_ne (by exactλZ=>A8 [_,_,_,_] [B9 x1 x0,A7 x0 x2,A5 x2 x3,A5 x3 x1] rT Z h8lt nf6 hka)];exact g88
 show W _ ⟨Fb (D0 R C kt) R C kc n r q (some bad) (some (.ref k8)) (some (Av m)) ce i' (some (D0 R C kf)) (some (D0 R C ka)),σ8.set ka (.list [])⟩ _
 generalize σ8.set ka (.list [])=σ9 at k9 t9 gf9 g89
 obtain⟨j10,e10⟩:=zIq hR2 hC2 ok1 pm hld (S:=⟨Fb (D0 R C kt) R C kc n r q (some bad) (some (.ref k8)) (some (Av m)) ce i' (some (D0 R C kf)) (some (D0 R C ka)),σ9⟩) rfl rfl rfl rfl gf9 g89
 refine Ag (Ch e10 rfl (A9 rfl ?_))
 refine Ag (Af.mpr (Af.mpr (A9 (Ab rfl rfl rfl) (zC9 (k:=kf) ((Ft.app σ9 j10).get gf9) (by rw[lq6];exact Aw λZ=>A8 [_] [A7 (.n 1000) x0,A5 x0 (.n 850)] rT Z hl1) (A9 rfl (Bv rfl (hQ _ ((k9.trans (.app σ9 j10)).setNew ?_) ((t9.ext (.app σ9 j10)).set ((Ft.app σ9 j10).get gf9)))))))))
 exact Nat.le_trans k4.1 nf
end
section
open Builtin.Str
noncomputable def Kw (ns:List Int) (R C:Int) (kc kt:Nat) (p d f:Option D):C3:=Gq [some (.scr ns),some (.int R),some (.int C),some (.ref kc),some (D0 R C kt),p,d,f]
section
variable {ns:List Int}{R C:Int}{kc kt:Nat}{p d f:Option D}{x:D}
theorem zJI:upd (Kw ns R C kc kt p d f) 5 x=Kw ns R C kc kt (some x) d f:=An rfl
theorem zIU:upd (Kw ns R C kc kt p d f) 6 x=Kw ns R C kc kt p (some x) f:=An rfl
theorem zIO:upd (Kw ns R C kc kt p d f) 7 x=Kw ns R C kc kt p d (some x):=An rfl
end
noncomputable def Un:Mn Fl:=(Di (bnd (bnd (A6 6) (Gb "str")) As) (Ad (Di (Hp (E8 (bnd (bnd (A6 7) (Gb "str")) As)) (Bc G8 (A6 7) (A6 6))) (Ad (Bt (ret1 (.bool false)))
 (ret1 .next)) (ret1 .next))
 (ret1 .next)) (Ad (Di (E8 (bnd (bnd (A0 (A6 7) (A0 (A6 1) (A0 (A6 2) (A0 (A6 6) Ah)))) E2) As)) (Ad (Bt (ret1 (.bool false)))
 (ret1 .next)) (Ad (bnd (bnd (ix 7 2) (De Ez)) Dr)
 (ret1 .next)))
 (ret1 .next)))
noncomputable def zCF (K:Mn Fl):Mn Fl:=(Ad (bnd (bnd (A0 (A6 3) (A0 (A6 1) (A0 (A6 2) (A0 (A6 5) Ah)))) Fj) (Aj 6))
 (Ad (bnd (bnd (A0 (A6 4) (A0 (A6 5) Ah)) Dh) (Aj 7))
 (Ad Un K)))
theorem zGa{S:St}{y:Str}{K:Mn Fl}{Q:Fl->St->Prop}(h6:S.loc 6=some (.str y)) (h7:S.loc 7=some (.str y)) (h:W K S Q):W (Ad Un K) S Q:=by
 unfold Un;refine Ag (Gp (b:=true) (Aa (Aa (Bf h6) rfl) rfl) rfl (Ag (Ch (b:=false||(y.cps.toList !=y.cps.toList)) (Ef (Aa (Aa (Aa (Bf h7) rfl) rfl) rfl) (Bd (Bf h7) (Bf h6) rfl rfl)) ?_ (A9 rfl (A9 rfl h)))))
 rw[bne_self_eq_false];rfl
theorem zDf{P:Prop}{R C:Int}{a b c e:D}(h:Iu R C a b c e=true) (k:∀p:Bx,a=.int p.t->b=.int p.l->c=.int p.h->e=.int p.w->p.Good R C->P):P:=by
 have hw:[a,b,c,e].all wh=true:=by
  cases z:[a,b,c,e].all wh with
  |true=>rfl
  |false=>rw[Wn z]at h;cases h
 refine Ay hw λw1 hw=>Ay hw λw2 hw=>Ay hw λw3 hw=>Ay hw λw4 _=>?_
 obtain⟨t,rfl⟩:=G1 w1;obtain⟨l,rfl⟩:=G1 w2;obtain⟨g,rfl⟩:=G1 w3;obtain⟨w,rfl⟩:=G1 w4;unfold Iu at h;simp only[Bool.and_eq_true,Bool.not_eq_true',Bool.or_eq_false_iff,decide_eq_false_iff_not,decide_eq_true_eq,Int.not_lt]at h;exact k ⟨t,l,g,w⟩ rfl rfl rfl rfl ⟨h.1.1,h.1.2.1,h.1.2.2.1,h.1.2.2.2,h.2.1,h.2.2⟩
theorem zEr{ns:List Int}{R C:Int}(hR2:R<=20) (hC2:C<=20){cs:List Ce}(ok:Bq R C cs) (hn:cs.length<=850){kc kt:Nat}{ds:List D}(p4:Se ds){σ:Bm}(h0:C8 σ) (gc:σ[kc]? =some (.list (cs.map Av))) (gt:σ[kt]? =some (.list (cs.map Av))){K:Mn Fl}{Q:Fl->St->Prop}
  (hK:∀d f σ',Kp σ σ'->C8 σ'->W K ⟨Kw ns R C kc kt (some (.tup ds)) (some d) (some f),σ'⟩ Q):W (zCF K) ⟨Kw ns R C kc kt (some (.tup ds)) none none,σ⟩ Q:=by
 have hsl:(1000:Nat)<=sizeLine:=by decide
 obtain⟨a,b,c,e,rfl,ha,hb,hc,he⟩:=p4;unfold zCF;have st6:∀(d:D) (σ':Bm),Aj 6 d ⟨Kw ns R C kc kt (some (.tup [a,b,c,e])) none none,σ'⟩=.ok .next ⟨Kw ns R C kc kt (some (.tup [a,b,c,e])) (some d) none,σ'⟩:=λd σ'=>by rw[←zIU (d:=none) (x:=d)];rfl
 have st7:∀(d f:D) (σ':Bm),Aj 7 f ⟨Kw ns R C kc kt (some (.tup [a,b,c,e])) (some d) none,σ'⟩=.ok .next ⟨Kw ns R C kc kt (some (.tup [a,b,c,e])) (some d) (some f),σ'⟩:=λd f σ'=>by rw[←zIO (f:=none) (x:=f)];rfl
 have bad:∀(ad:Addr) (σ1:Bm),(ad=49∨ad=109∨ad=61)->Kp σ σ1->(∀l,X (Dt [D0 R C kt,a,b,c,e]) ⟨l,σ1⟩ ad λs=>s.loc=l/\Kp σ1 s.sto/\C8 s.sto)->W (Ad (bnd (bnd (A0 (A6 4) (A0 (A6 5) Ah)) Dh) (Aj 7)) (Ad Un K)) ⟨Kw ns R C kc kt (some (.tup [a,b,c,e])) (some (.str (zA2 ad))) none,σ1⟩ Q:=λad σ1 had k1 hx=>by
  refine Ag (Af.mpr (Af.mpr (A9 (a:=[D0 R C kt,.tup [a,b,c,e]]) rfl (Ty (st:=⟨Kw ns R C kc kt (some (.tup [a,b,c,e])) (some (.str (zA2 ad))) none,σ1⟩) (T:=D0 R C kt) (a:=a) (b:=b) (c:=c) (e:=e) had hx ?_))))
  intro y σ2 hy k2 t2;obtain rfl:=zBt hy;exact A9 (st7 _ _ _) (zGa rfl rfl (hK _ _ _ (k1.trans k2) t2))
 refine Ag (Af.mpr (Af.mpr (A9 (a:=[.ref kc,.int R,.int C,.tup [a,b,c,e]]) rfl ?_)))
 cases hlie:Iu R C a b c e with
 |false=>
  refine Zx ha hb hc he hlie (A9 (st6 _ _) ?_)
  exact bad 49 σ (.inl rfl) (.refl _) λl=>by
   obtain⟨s,e1,rfl⟩:=Rg (st:=⟨l,σ⟩) (t:=.ref kt) ha hb hc he hlie
   exact⟨_,e1,rfl,.refl _,h0⟩
 |true=>
  refine zDf hlie λp e1 e2 e3 e4 gp=>?_
  subst e1 e2 e3 e4;refine zIX ok gp hR2 hC2 hn h0 gc ?_ ?_ ?_
  ·intro hs σ1 k1 t1;exact A9 (st6 _ _) (bad 109 σ1 (.inr (.inl rfl)) k1 λl=>Rx (st:=⟨l,σ1⟩) ok gp hR2 hC2 t1 (k1.2 _ _ gt) hs)
  ·intro hs hl σ1 k1 t1;exact A9 (st6 _ _) (bad 61 σ1 (.inr (.inr rfl)) k1 λl=>Q3 (st:=⟨l,σ1⟩) ok gp hR2 hC2 t1 (k1.2 _ _ gt) hs hl)
  ·intro hs hl cs1 r σ1 p1 ok1 t1 k1 g1;refine A9 (st6 _ _) (Ag (Af.mpr (Af.mpr (A9 (a:=[D0 R C kt,.tup [.int p.t,.int p.l,.int p.h,.int p.w]]) rfl (Wb (st:=⟨Kw ns R C kc kt (some (.tup [.int p.t,.int p.l,.int p.h,.int p.w])) (some (.ref r)) none,σ1⟩) (T:=D0 R C kt) (a:=.int p.t) (b:=.int p.l) (c:=.int p.h) (e:=.int p.w) ?_)))))
   intro l;refine U1 (st:=⟨l,σ1⟩) ok gp hR2 hC2 t1 (k1.2 _ _ gt) hs hl hn ?_
   intro cs2 kf σ2 p2 ok2 t2 k2 hkf gf;refine A9 (st7 _ _ _) ?_
   obtain rfl:cs2=cs1:=zCU ok2 ok1 (p2.trans p1.symm) hR2 hC2
   have hkf:σ1.length<=kf:=hkf
   unfold Un;refine Ag (Ch (b:=false) (Aa (Aa rfl (by show Gb "str" (.ref r) _=.ok (.bool false) _;unfold Gb;rw[Xi (k2.2 _ _ g1)];rfl)) rfl) rfl ?_)
   refine Ag (Fc.mpr (Af.mpr (Af.mpr (Af.mpr (A9 rfl (zHO ok1.len gf (k2.2 _ _ g1) λj=>A9 rfl (A9 rfl ?_)))))))
   show W _ ⟨Kw ns R C kc kt _ (some (.ref r)) (some (D0 R C kf)),σ2++j⟩ _
   refine Ag (Af.mpr (Af.mpr (A9 (Ab rfl rfl rfl) (zC9 (k:=kf) ((Ft.app σ2 j).get gf) (by rw[lq6];have:=ok1.len;exact Aw λZ=>A8 [_] [A7 (.n 1000) x0,A5 x0 (.n 900)] rT Z this) (A9 rfl (A9 rfl (A9 rfl (hK _ _ _ (((k1.trans k2).trans (.app σ2 j)).setNew (Nat.le_trans k1.1 hkf)) ((t2.ext (.app σ2 j)).set ((Ft.app σ2 j).get gf))))))))))
end
section
open Builtin.Str
theorem zH1{ns:List Int}{R C:Int}{kc kt:Nat}:upd (upd (upd (upd (Cj Bh [0] [.scr ns]) 1 (.int R)) 2 (.int C)) 3 (.ref kc)) 4 (D0 R C kt)=Kw ns R C kc kt none none none:=by
 funext i;rcases i with _|_|_|_|_|_|_|_|i<;>rfl
noncomputable def zAY:Mn Fl:=(Ad (Di (Bc G8 (ix 4 2) (A6 3)) (Ad (Bt (ret1 (.bool false)))
 (ret1 .next)) (ret1 .next))
 (Ad (Bt (Q2 (bnd (A0 (A6 4) (A0 (A6 1) (A0 (A6 2) (A0 (A6 3) (A0 (bnd (A0 (A6 0) (A0 (ret1 (.int 4)) Ah)) Bs) Ah))))) Cv) (Ac Ex (ix 4 2) (A6 3))))
 (ret1 .next)))
theorem V1{ns:List Int}{k:Int}{S:St}(h0:0<=k) (hk:k<2 ^ 63) (hl:ns.length<2 ^ 62):Bs [.scr ns,.int k] S=.ok (.int (ns.getD k.toNat 0)) S:=Bb (zDZ h0 hk hl ⟨rfl,rfl⟩)
theorem zD9{ns:List Int}(hl62:ns.length<2 ^ 62){R C:Int}(hR:1<=R) (hR2:R<=20) (hC:1<=C) (hC2:C<=20){cs:List Ce}(ok:Bq R C cs) (hx:∀c,c∈cs->c.x.length<=200){kc kt:Nat}{p d f:Option D}{σ:Bm}(h0:C8 σ) (gc:σ[kc]? =some (.list (cs.map Av))) (gt:σ[kt]? =some (.list (cs.map Av))){Q:Fl->St->Prop}
  (hQ:∀l σ',C8 σ'->Q (.ret (.bool true)) ⟨l,σ'⟩):W zAY ⟨Kw ns R C kc kt p d f,σ⟩ Q:=by
 unfold zAY;obtain⟨ps,f1,f2,f3⟩:=P0 (cs:=cs) λc m=>(ok.tx c m).1
 have hix:∀σ',ix 4 2 ⟨Kw ns R C kc kt p d f,σ'⟩=.ok (.ref kt) ⟨Kw ns R C kc kt p d f,σ'⟩:=λσ'=>Ab (a:=D0 R C kt) (b:=.int 2) rfl rfl rfl
 have tn:Bc G8 (ix 4 2) (A6 3) ⟨Kw ns R C kc kt p d f,σ⟩=.ok false ⟨Kw ns R C kc kt p d f,σ⟩:=Bd (hix σ) rfl (Bb (W9 (ds:=cs.map Av) gt gc f1 f2 f3 ⟨rfl,rfl⟩)) rfl
 refine Ag (Ch tn rfl (A9 rfl ?_))
 have ar:(A0 (A6 4) (A0 (A6 1) (A0 (A6 2) (A0 (A6 3) (A0 (bnd (A0 (A6 0) (A0 (ret1 (.int 4)) Ah)) Bs) Ah))))) ⟨Kw ns R C kc kt p d f,σ⟩=.ok [D0 R C kt,.int R,.int C,.ref kc,.int (ns.getD 4 0)] ⟨Kw ns R C kc kt p d f,σ⟩:=
  Az rfl (Az rfl (Az rfl (Az rfl (Az (Aa (b:=[.scr ns,.int 4]) rfl (V1 (by decide) (by decide) hl62)) rfl))))
 refine Ag (Af.mpr (zB3.mpr (Af.mpr (A9 ar ?_))))
 refine Pz (st:=⟨Kw ns R C kc kt p d f,σ⟩) hR hR2 hC hC2 ok hx h0 gt gc ?_
 intro σ1 k1 t1;refine A9 rfl ?_
 show W _ _ _
 exact A9 (Ab (hix σ1) rfl (Bb (Vp (ds:=cs.map Av) (k1.2 _ _ gt) (k1.2 _ _ gc) f1 f2 f3 ⟨rfl,rfl⟩))) (A9 rfl (hQ _ _ t1))
theorem zBz{ns:List Int}(hl62:ns.length<2 ^ 62){R C:Int}(hR:1<=R) (hR2:R<=20) (hC:1<=C) (hC2:C<=20){cs:List Ce}(h1:1<=cs.length) (h2:cs.length<=900){kc kt:Nat}{σ:Bm}(h0:C8 σ) (gc:σ[kc]? =some (.list (cs.map Av))){K:Mn Fl}{Q:Fl->St->Prop}
  (hQ:∀ds σ',Se ds->Kp σ σ'->C8 σ'->W K ⟨Kw ns R C kc kt (some (.tup ds)) none none,σ'⟩ Q):W (Ad (bnd (bnd (A0 (A6 3) (A0 (A6 1) (A0 (A6 2) (A0 (Ac Au (bnd (A0 (A6 0) (A0 (ret1 (.int 2)) Ah)) Bs) (Ac Ep (ret1 (.int 4)) (bnd (A0 (A6 0) (A0 (ret1 (.int 3)) Ah)) Bs))) Ah)))) Em) (Aj 5)) K) ⟨Kw ns R C kc kt none none none,σ⟩ Q:=by
 have ar:(A0 (A6 3) (A0 (A6 1) (A0 (A6 2) (A0 (Ac Au (bnd (A0 (A6 0) (A0 (ret1 (.int 2)) Ah)) Bs) (Ac Ep (ret1 (.int 4)) (bnd (A0 (A6 0) (A0 (ret1 (.int 3)) Ah)) Bs))) Ah)))) ⟨Kw ns R C kc kt none none none,σ⟩=.ok [.ref kc,.int R,.int C,.int (ns.getD 2 0+4*ns.getD 3 0)] ⟨Kw ns R C kc kt none none none,σ⟩:=
  Az rfl (Az rfl (Az rfl (Az (Ab (Aa (b:=[.scr ns,.int 2]) rfl (V1 (by decide) (by decide) hl62)) (Ab rfl (Aa (b:=[.scr ns,.int 3]) rfl (V1 (by decide) (by decide) hl62)) (Gc rfl)) rfl) rfl)))
 refine Ag (Af.mpr (Af.mpr (A9 ar ?_)))
 refine zHj (st:=⟨Kw ns R C kc kt none none none,σ⟩) hR hR2 hC hC2 h1 h2 h0 gc ?_
 intro ds σ1 p4 k1 t1;exact A9 (a:=Fl.next) (st1:=⟨Kw ns R C kc kt (some (.tup ds)) none none,σ1⟩) (by rw[←zJI (p:=none) (x:=.tup ds)];rfl) (hQ ds σ1 p4 k1 t1)
theorem zG6:zBk=(Ad (bnd (bnd (A0 (bnd (A0 (A6 0) (A0 (ret1 (.int 0)) Ah)) Bs) Ah) Dv) (Aj 1))
 (Ad (bnd (bnd (A0 (bnd (A0 (A6 0) (A0 (ret1 (.int 1)) Ah)) Bs) Ah) Dv) (Aj 2))
 (Ad (bnd (bnd (A0 (A6 0) (A0 (A6 1) (A0 (A6 2) Ah))) Ey) (Aj 3))
 (Ad (bnd (D7 (A0 (A6 1) (A0 (A6 2) (A0 (bnd (A0 (A6 3) Ah) Fr) Ah)))) (Aj 4))
 (Ad (bnd (bnd (A0 (A6 3) (A0 (A6 1) (A0 (A6 2) (A0 (Ac Au (bnd (A0 (A6 0) (A0 (ret1 (.int 2)) Ah)) Bs) (Ac Ep (ret1 (.int 4)) (bnd (A0 (A6 0) (A0 (ret1 (.int 3)) Ah)) Bs))) Ah)))) Em) (Aj 5))
 (zCF zAY)))))):=rfl
theorem zHZ(ns:List Int) (hn:ns.length<=63):∃σ' k,zBb [.scr ns] ⟨Bh,[.ctab Hm 25 29 qL none]⟩=.ok (.bool true) ⟨Bh,σ'⟩/\σ'[0]? =some (.ctab Hm 25 29 qL k):=by
 suffices h:W (zBb [.scr ns]) ⟨Bh,[.ctab Hm 25 29 qL none]⟩ (λd st'=>d=.bool true/\st'.loc=Bh/\C8 st'.sto)by
  obtain⟨d,⟨l,σ'⟩,e,rfl,hl,k,e2,_⟩:=h
  cases hl;exact⟨σ',k,e,e2⟩
 have hsl:(1000:Nat)<=sizeLine:=by decide
 have hl62:ns.length<2 ^ 62:=by exact Cz λZ=>A8 [_] [A5 (.n 4611686018427387904) x0,A5 x0 (.n 63)] rT Z hn
 refine Cq rfl ?_
 rw[zG6];refine Ag (Af.mpr (Af.mpr (Af.mpr (Af.mpr (A9 rfl (zDZ (by decide) (by decide) hl62 (A9 rfl (zBh λR hR hR2=>A9 rfl ?_))))))))
 refine Ag (Af.mpr (Af.mpr (Af.mpr (Af.mpr (A9 rfl (zDZ (by decide) (by decide) hl62 (A9 rfl (zBh λC hC hC2=>A9 rfl ?_))))))))
 refine Ag (Af.mpr (Af.mpr (A9 rfl (zEF hn hR hR2 hC hC2 λcs j0 ok hx hc1=>A9 rfl ?_))))
 have hlc:cs.length<=400:=by
  have:=Mi hR hR2 hC hC2 ok.til
  rw[lq6]at this;exact this
 have t0:C8 [.ctab Hm 25 29 qL none]:=⟨none,rfl,λm q=>by cases q⟩
 refine Ag (Af.mpr (Af.mpr (Af.mpr (A9 rfl (Af.mpr (Af.mpr (A9 rfl (Af.mpr (Af.mpr (Af.mpr (A9 rfl (zBI (ds:=cs.map Av) lq3 (by rw[lq6];exact Aw λZ=>A8 [_,_] [A7 x0 x1,A5 (.n 1000) x0,A5 x1 (.n 400)] rT Z hsl hlc) (A9 rfl (A9 rfl (A9 rfl (A9 rfl (A9 rfl ?_)))))))))))))))))
 show W _ ⟨upd (upd (upd (upd (Cj Bh [0] [.scr ns]) 1 (.int R)) 2 (.int C)) 3 (.ref ([.ctab Hm 25 29 qL none]++j0:Bm).length)) 4 (.tup [.int R,.int C,.ref ([.ctab Hm 25 29 qL none]++j0++[PO.list (cs.map Av)]:Bm).length]),[.ctab Hm 25 29 qL none]++j0++[PO.list (cs.map Av)]++[PO.list (cs.map Av)]⟩ _
 rw[zH1];have gc:([.ctab Hm 25 29 qL none]++j0++[PO.list (cs.map Av)]++[PO.list (cs.map Av)]:Bm)[([.ctab Hm 25 29 qL none]++j0:Bm).length]? =some (.list (cs.map Av)):=O0
 have gt:([.ctab Hm 25 29 qL none]++j0++[PO.list (cs.map Av)]++[PO.list (cs.map Av)]:Bm)[([.ctab Hm 25 29 qL none]++j0++[PO.list (cs.map Av)]:Bm).length]? =some (.list (cs.map Av)):=lq3
 have t1:C8 ([.ctab Hm 25 29 qL none]++j0++[PO.list (cs.map Av)]++[PO.list (cs.map Av)]):=((t0.ext (.app _ _)).ext (.app _ _)).ext (.app _ _)
 generalize([.ctab Hm 25 29 qL none]++j0:Bm).length=kc at gc ⊢
 generalize([.ctab Hm 25 29 qL none]++j0++[PO.list (cs.map Av)]:Bm).length=kt at gt ⊢
 generalize([.ctab Hm 25 29 qL none]++j0++[PO.list (cs.map Av)]++[PO.list (cs.map Av)]:Bm)=σ at gc gt t1 ⊢
 refine zBz hl62 hR hR2 hC hC2 hc1 (by exact Aw λZ=>A8 [_] [A7 (.n 900) x0,A5 x0 (.n 400)] rT Z hlc) t1 gc ?_
 intro ds σ1 p4 k1 t2;refine zEr hR2 hC2 ok (by exact Aw λZ=>A8 [_] [A7 (.n 850) x0,A5 x0 (.n 400)] rT Z hlc) p4 t2 (k1.2 _ _ gc) (k1.2 _ _ gt) ?_
 intro d f σ2 k2 t3;have k3:=k1.trans k2;exact zD9 hl62 hR hR2 hC hC2 ok hx t3 (k3.2 _ _ gc) (k3.2 _ _ gt) λl σ3 t4=>⟨rfl,rfl,t4⟩
end
section
open W
theorem zL5:PySem.Challenge.rw_uf030034_09.Holds:=hd (by
 intro w s₀ s₁ mg mb G Y fa o pm cd doc dV kV ho hd hcd hD hmg hg args vals as hpre hlay hrd hwl hlo;have KX:=kIn_of Y;refine Ground.open G ?_
 intro T B D TE TW;wrow_args hpre hlay hrd hwl hlo
 have hs:((recsOf (view pw Jg)).find? λe=>e.name==sO "in_order").isSome=true:=by kernel_rfl
 obtain⟨dr,hr⟩:=Option.isSome_iff_exists.mp hs;have hT:TabsAt [(136,132)] s₁.heap:=λq m=>by rw[lq0 m];exact tab_of T KX hr (by kernel_rfl)
 have L:zIk ⟨pw,w,ghostOf s₁.heap [(136,132)],s₁.os,s₁.gens⟩ (hK w.params) 136 132:=⟨⟨ghost_K hT KX (by kernel_rfl),⟨mg,ghost_ns hT T.g⟩,⟨mb,ghost_ns hT T.b,T.builtins⟩,(ghost_top hT T).nolimit⟩,zFL hT T⟩
 have hm:mg (sO "law")=some (.ref 267):=mg_of KX T.g (by kernel_rfl)
 have hn:((defOf (view pw Jg) PySem.Challenge.rw_uf030034_09.name).get hX).1.name=sO "law":=by kernel_rfl
 exact Zl hT (zGW L) (by decide) (by rw[hn,hm]at hmg;cases hmg;rfl) (by assumption) (by assumption) hg (λ_=>rfl) (by kernel_rfl) (zHZ _ (by omega)))
end
end Mine.Internal
set_option maxRecDepth 100000 in
set_option maxHeartbeats 8000000 in
theorem PySem.Challenge.cw_uf030034_09_holds : PySem.Challenge.rw_uf030034_09.Holds := by
  exact Mine.Internal.zL5
