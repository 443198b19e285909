import PyProof.Rows.All
import Wide.All
import OpenK.AllK
import Wide.FinOn
import PyProof.Seq
import PyProof.Methods
import PyProof.TupleIter
import PyProof.SliceList
import PyProof.MeetsStr2
import PyProof.CallStr
import PyProof.Cells
import PyProof.StrWalks
import PyProof.CompFree
import PyProof.PureInt
import PyProof.Conv_int_bool
import PyProof.ListOps
import PyProof.DictKinds
import PyProof.DictTruth
import PyProof.DictRoadsH
import PyProof.EnumFor
import PyProof.Draws
import PyProof.EnumMake
import PyProof.IsRules
import PyProof.P3Eq
import PyProof.NeData
import PyProof.RaisesMany
import PyProof.StrLaws
import PyProof.SliceStr2
import PyProof.StrOps
import PyProof.StrOps2
import PyProof.StrBlock
import PyProof.StrBlockI
import PyProof.StrBlockL
import PyProof.StrLawsChain
import PyProof.WalksMore
import PyProof.RangeFor
import PyProof.IsInstance
import PyProof.IsInstanceH
import PyProof.IsiNone
import PyProof.ListCopy
import PyProof.ListIndexNeg
import PyProof.ListMulRoad
import PyProof.WalkInts
import PyProof.P3In
import PyProof.PvWalk
import PyProof.Rows.TupSub
import PyProof.ZipIter
import PyProof.Truth
import PyProof.StrCalls2
import PyProof.StrLawsOccR
import PyProof.Rows.Chain
import PyProof.Rows.Nodes
import PyProof.Rows.RuleB_floordiv
import PyProof.Rows.RuleB_mod
import PyProof.StrCalls3
import PyProof.Rows.StrTemp
import PyProof.Rows.ListMul
import PyProof.Rows.ListMulCarried
import PyProof.Rows.ListMulR
import PyProof.Rows.RuleC_bool
import PyProof.Rows.RuleN_abs
import PyProof.TupleOps
import PyProof.SeqI3
import PyProof.Rows.TupMore
import PyProof.Rows.StrPins
import PyProof.StrLawsTight
import PyProof.Rows.TupTab
import PyProof.Rows.SeqMore2
import PyProof.Rows.TupAdd
import PyProof.Rows.SortRuns
import PyProof.Rows.Range3
import Wide.BridgeG
import OpenK.TopRead
import OpenK.KWalk
import KE.KItem
import KE.KLam
import KE.KSortTup
import PySem.Challenge.RW_uf030034_10
set_option Elab.async false
set_option linter.all false
set_option genSizeOf false
set_option genInjectivity false
set_option maxRecDepth 100000
set_option maxHeartbeats 8000000
open PySem PyProof.Rows
namespace Mine.Internal
abbrev sO:String->PySem.Str:=PySem.Str.ofString
abbrev rT:true=true:=Eq.refl true
theorem lq0{α:Type _}{a b:α}:a ∈ [b]->a=b:=List.mem_singleton.mp
theorem lq1{α:Type _}{a:α}{l:List α}:a ∈ a::l:=List.mem_cons_self
theorem lq2{α:Type _}{l:List α}{i:Nat}{a:α}:l[i]? =some a->∃h:i<l.length,l[i]=a:=List.getElem?_eq_some_iff.mp
theorem lq3{α:Type _}{l:List α}{a:α}:(l++[a])[l.length]? =some a:=List.getElem?_concat_length
theorem lq4{α:Type _}(a:α){b:α}{l:List α}:b ∈ l->b ∈ a::l:=List.mem_cons_of_mem a
theorem lq5(n:Nat):0<=n:=Nat.zero_le n
theorem lq6{α β:Type _}{l:List α}{f:α->β}:(l.map f).length=l.length:=List.length_map f
theorem lq7{α:Type _}{a b:List α}:(a++b).length=a.length+b.length:=List.length_append
theorem lq8{α:Type _}(a b c:List α):a++b++c=a++(b++c):=List.append_assoc a b c
inductive LX where
 |v (i:Nat)
 |n (k:Nat)
 |a (x y:LX)
 |s (x y:LX)
 |m (k:Nat) (x:LX)
inductive LK where
 |le|lt|eq
structure LC where
 w:Int
 k:LK
 x:LX
 y:LX
noncomputable def zEc:List Int->Nat->Int
 |[],_=>0
 |x::_,0=>x
 |_::r,i+1=>zEc r i
noncomputable def atN:List Nat->Nat->Nat
 |[],_=>0
 |x::_,0=>x
 |_::r,i+1=>atN r i
noncomputable def LX.di (c:List Int):LX->Int
 |.v i=>zEc c i
 |.n k=>k
 |.a x y=>x.di c+y.di c
 |.s x y=>x.di c - y.di c
 |.m k x=>k*x.di c
noncomputable def LX.dn (c:List Nat):LX->Nat
 |.v i=>atN c i
 |.n k=>k
 |.a x y=>x.dn c+y.dn c
 |.s x y=>0
 |.m k x=>k*x.dn c
noncomputable def Ky:List Int->List Int->Int
 |c::cs,x::xs=>c*x+Ky cs xs
 |_,_=>0
noncomputable def Mp:List Int->List Int->List Int
 |[],y=>y
 |x,[]=>x
 |a::x,b::y=>(a+b)::Mp x y
noncomputable def P9 (k:Int):List Int->List Int
 |[]=>[]
 |a::x=>(k*a)::P9 k x
noncomputable def Qo:Nat->List Int
 |0=>[1]
 |i+1=>0::Qo i
noncomputable def LX.lin:LX->List Int
 |.v i=>0::Qo i
 |.n k=>[(k:Int)]
 |.a x y=>Mp x.lin y.lin
 |.s x y=>Mp x.lin (P9 (-1) y.lin)
 |.m k x=>P9 k x.lin
theorem Kr(c:List Int):Ky c []=0:=by cases c<;>rfl
theorem Ij:∀(x y c:List Int),Ky (Mp x y) c=Ky x c+Ky y c
 |[],y,c=>(Int.zero_add _).symm
 |a::x,[],c=>(Int.add_zero _).symm
 |a::x,b::y,[]=>by rw[Kr,Kr,Kr];rfl
 |a::x,b::y,z::c=>by
  show(a+b)*z+Ky (Mp x y) c=(a*z+Ky x c)+(b*z+Ky y c)
  rw[Ij x y c,Int.add_mul,Int.add_assoc,Int.add_left_comm (b*z),←Int.add_assoc]
theorem Kl(k:Int):∀(x c:List Int),Ky (P9 k x) c=k*Ky x c
 |[],c=>(Int.mul_zero k).symm
 |a::x,[]=>by rw[Kr,Kr,Int.mul_zero]
 |a::x,z::c=>by
  show k*a*z+Ky (P9 k x) c=k*(a*z+Ky x c)
  rw[Kl k x c,Int.mul_add,Int.mul_assoc]
theorem Ri:∀(i:Nat) (c:List Int),Ky (Qo i) c=zEc c i
 |0,[]=>rfl
 |0,z::c=>by show 1*z+0=z;rw[Int.one_mul,Int.add_zero]
 |i+1,[]=>rfl
 |i+1,z::c=>by show 0*z+Ky (Qo i) c=zEc c i;rw[Int.zero_mul,Int.zero_add];exact Ri i c
theorem J8(c:List Int):∀x:LX,Ky x.lin (1::c)=x.di c
 |.v i=>by show 0*1+Ky (Qo i) c=zEc c i;rw[Int.zero_mul,Int.zero_add];exact Ri i c
 |.n k=>by show(k:Int)*1+0=k;rw[Int.mul_one,Int.add_zero]
 |.a x y=>by show Ky (Mp x.lin y.lin) _=x.di c+y.di c;rw[Ij,J8 c x,J8 c y]
 |.s x y=>by show Ky (Mp x.lin (P9 (-1) y.lin)) _=x.di c - y.di c;rw[Ij,Kl,J8 c x,J8 c y,Int.neg_mul,Int.one_mul];rfl
 |.m k x=>by show Ky (P9 k x.lin) _=k*x.di c;rw[Kl,J8 c x]
noncomputable def Lv:LX->Bool
 |.a x y=>Lv x&&Lv y
 |.s _ _=>false
 |.m _ x=>Lv x
 |_=>true
theorem Tt:∀(c:List Nat) (i:Nat),zEc (c.map λ(n:Nat)=>(n:Int)) i=(atN c i:Int)
 |[],i=>rfl
 |x::c,0=>rfl
 |x::c,i+1=>Tt c i
theorem Fn(c:List Nat):∀x:LX,Lv x=true->x.di (c.map λ(n:Nat)=>(n:Int))=(x.dn c:Int)
 |.v i,_=>Tt c i
 |.n k,_=>rfl
 |.a x y,h=>by
  have h:=Bool.and_eq_true_iff.mp (show(Lv x&&Lv y)=true from h);show x.di _+y.di _=((x.dn c+y.dn c:Nat):Int)
  rw[Fn c x h.1,Fn c y h.2];rfl
 |.s _ _,h=>by cases h
 |.m k x,h=>by show(k:Int)*x.di _=((k*x.dn c:Nat):Int);rw[Fn c x h];exact(Int.natCast_mul _ _).symm
noncomputable def LC.row (c:LC):List Int:=P9 c.w (Mp (match c.k with
 |.lt=>[-1]
 |_=>[]) (Mp c.y.lin (P9 (-1) c.x.lin)))
noncomputable def zBE:List LC->List Int
 |[]=>[]
 |c::r=>Mp c.row (zBE r)
noncomputable def zGH (c:LC):Bool:=match c.k with
 |.eq=>true
 |_=>decide (0<=c.w)
noncomputable def zCk:List Int->Bool
 |[]=>false
 |a::r=>decide (a<0)&&r.all (λb=>decide (b=0))
noncomputable def zFr (cs:List LC):Bool:=zCk (zBE cs)&&cs.all zGH
noncomputable def zEt (cs:List LC):Bool:=zFr cs&&cs.all λc=>Lv c.x&&Lv c.y
noncomputable def LC.holdsI (l:List Int) (c:LC):Prop:=match c.k with
 |.le=>c.x.di l<=c.y.di l
 |.lt=>c.x.di l<c.y.di l
 |.eq=>c.x.di l=c.y.di l
noncomputable def LC.holdsN (l:List Nat) (c:LC):Prop:=match c.k with
 |.le=>c.x.dn l<=c.y.dn l
 |.lt=>c.x.dn l<c.y.dn l
 |.eq=>c.x.dn l=c.y.dn l
noncomputable def zEX (l:List Int):List LC->Prop
 |[]=>False
 |c::r=>c.holdsI l->zEX l r
noncomputable def zD8 (l:List Nat):List LC->Prop
 |[]=>False
 |c::r=>c.holdsN l->zD8 l r
theorem Uj{r:List Int}(h:zCk r=true) (l:List Int):Ky r (1::l)<0:=by
 cases r with
 |nil=>cases h
 |cons a r=>
  have h:=Bool.and_eq_true_iff.mp (show(decide (a<0)&&r.all (λb=>decide (b=0)))=true from h)
  rw[decide_eq_true_eq,List.all_eq_true]at h;have h:a<0/\∀b,b∈r->b=0:=⟨h.1,λb m=>of_decide_eq_true (h.2 b m)⟩
  have z:∀(r l:List Int),(∀b,b∈r->b=0)->Ky r l=0:=by
   intro r
   induction r with
   |nil=>intro l _;cases l<;>rfl
   |cons b r ih=>
    intro l hb
    cases l with
    |nil=>rfl
    |cons z l=>show b*z+Ky r l=0;rw[hb b lq1,ih l λb m=>hb b (lq4 _ m),Int.zero_mul];rfl
  show a*1+Ky r l<0
  rw[z r l λb m=>h.2 b m,Int.mul_one,Int.add_zero];exact h.1
theorem Sc{l:List Int}{c:LC}(h:c.holdsI l) (w:zGH c=true):0<=Ky c.row (1::l):=by
 obtain⟨k,kd,x,y⟩:=c;unfold LC.row;rw[Kl,Ij,Ij,Kl,J8,J8];dsimp only
 cases kd with
 |le=>
  have h:x.di l<=y.di l:=h
  have w:0<=k:=of_decide_eq_true w
  exact Int.mul_nonneg w (by show 0<=0+(_+ -1*_);omega)
 |lt=>
  have h:x.di l<y.di l:=h
  have w:0<=k:=of_decide_eq_true w
  exact Int.mul_nonneg w (by show 0<=(-1*1+0)+(_+ -1*_);omega)
 |eq=>
  have h:x.di l=y.di l:=h
  have:Ky [] (1::l)+(y.di l+ -1*x.di l)=0:=by show 0+(y.di l+ -1*x.di l)=0;omega
  show 0<=k*(Ky [] (1::l)+(y.di l+ -1*x.di l))
  rw[this];simp
theorem Ub{l:List Int}:∀(cs:List LC),((∀c,c∈cs->c.holdsI l)->False)->zEX l cs
 |[],h=>h λ_ m=>nomatch m
 |c::r,h=>λhc=>Ub r λhr=>h λd m=>by
  rcases List.mem_cons.mp m with rfl|m
  ·exact hc
  ·exact hr d m
theorem J7{l:List Int}:∀(cs:List LC),(∀c,c∈cs->c.holdsI l)->cs.all zGH=true->0<=Ky (zBE cs) (1::l)
 |[],_,_=>Int.le_refl 0
 |c::r,h,w=>by
  simp only[List.all_cons,Bool.and_eq_true]at w;have:=J7 r (λc m=>h c (lq4 _ m)) w.2
  have:=Sc (h c lq1) w.1
  show 0<=Ky (Mp c.row (zBE r)) _
  rw[Ij];omega
theorem Ac(l:List Int) (cs:List LC) (h:zFr cs=true):zEX l cs:=Ub cs λhs=>by
 have h:=Bool.and_eq_true_iff.mp h;exact Int.lt_irrefl _ (Int.lt_of_le_of_lt (J7 cs hs h.2) (Uj h.1 l))
theorem Um{l:List Nat}:∀(cs:List LC),((∀c,c∈cs->c.holdsN l)->False)->zD8 l cs
 |[],h=>h λ_ m=>nomatch m
 |c::r,h=>λhc=>Um r λhr=>h λd m=>by
  rcases List.mem_cons.mp m with rfl|m
  ·exact hc
  ·exact hr d m
theorem A5(l:List Nat) (cs:List LC) (h:zEt cs=true):zD8 l cs:=Um cs λhs=>by
 simp only[zEt,zFr,Bool.and_eq_true,List.all_eq_true]at h;refine Int.lt_irrefl _ (Int.lt_of_le_of_lt (J7 (l:=l.map λ(n:Nat)=>(n:Int)) cs (λc m=>?_) (List.all_eq_true.mpr h.1.2)) (Uj h.1.1 _))
 have q:=hs c m;have n:=h.2 c m;obtain⟨k,kd,x,y⟩:=c
 cases kd with
 |le=>
  have q:x.dn l<=y.dn l:=q
  show x.di _<=y.di _
  rw[Fn l x n.1,Fn l y n.2];omega
 |lt=>
  have q:x.dn l<y.dn l:=q
  show x.di _<y.di _
  rw[Fn l x n.1,Fn l y n.2];omega
 |eq=>
  have q:x.dn l=y.dn l:=q
  show x.di _=y.di _
  rw[Fn l x n.1,Fn l y n.2];omega
theorem Ar{a b:Nat}(h:b<a->False):a<=b:=Nat.le_of_not_lt h
theorem Bw{a b:Nat}(h:b<=a->False):a<b:=Nat.lt_of_not_le h
theorem Gw{a b:Nat}(h1:a<b->False) (h2:b<a->False):a=b:=Nat.le_antisymm (Ar h2) (Ar h1)
theorem Bi{a b:Int}(h:b<a->False):a<=b:=Int.not_lt.mp h
theorem Dq{a b:Int}(h:b<=a->False):a<b:=Int.not_le.mp h
theorem Gh{a b:Int}(h1:a<b->False) (h2:b<a->False):a=b:=Int.le_antisymm (Bi h2) (Bi h1)
theorem L5(a b:Nat):a - b<=a:=Nat.sub_le a b
theorem Bh(a b:Nat):a<=(a - b)+b:=by omega
theorem B8{a b:Nat}(h:b<=a):(a - b)+b=a:=Nat.sub_add_cancel h
noncomputable abbrev x0:LX:=.v 0
noncomputable abbrev x1:LX:=.v 1
noncomputable abbrev x2:LX:=.v 2
noncomputable abbrev x3:LX:=.v 3
noncomputable abbrev x4:LX:=.v 4
noncomputable abbrev x5:LX:=.v 5
noncomputable abbrev x6:LX:=.v 6
noncomputable abbrev A9 (x y:LX):LC:=⟨1,.le,x,y⟩
noncomputable abbrev A7 (x y:LX):LC:=⟨1,.lt,x,y⟩
noncomputable abbrev B0 (x y:LX):LC:=⟨1,.eq,x,y⟩
noncomputable abbrev Cg (x y:LX):LC:=⟨-1,.eq,x,y⟩
noncomputable abbrev Rx (w:Int) (x y:LX):LC:=⟨w,.le,x,y⟩
noncomputable abbrev zEY (w:Int) (x y:LX):LC:=⟨w,.lt,x,y⟩
noncomputable abbrev zG8 (w:Int) (x y:LX):LC:=⟨w,.eq,x,y⟩
theorem C5{a b:Nat}(h:a<=b):(a:Int)<=(b:Int):=Int.ofNat_le.mpr h
theorem Gi{a b:Nat}(h:a<b):(a:Int)<(b:Int):=Int.ofNat_lt.mpr h
theorem Kj{a b:Nat}(h:a=b):(a:Int)=(b:Int):=congrArg _ h
theorem Hj{a b:Nat}(h:(a:Int)<=(b:Int)):a<=b:=Int.ofNat_le.mp h
theorem Ja{a b:Nat}(h:(a:Int)<(b:Int)):a<b:=Int.ofNat_lt.mp h
theorem Iq{a b:Nat}(h:(a:Int)=(b:Int)):a=b:=Int.ofNat.inj h
theorem G6(x:Int):x<=(x.toNat:Int):=Int.self_le_toNat x
theorem Ch{x:Int}(h:0<=x):(x.toNat:Int)=x:=Int.toNat_of_nonneg h
theorem J5{a b:Nat}(h:(b:Int)<=(a:Int)):((a - b:Nat):Int)+(b:Int)=(a:Int):=by omega
theorem Az(n:Nat):(0:Int)<=(n:Int):=Int.natCast_nonneg n
theorem yo{B:Prop}(h:∀G:Prop,(B->G)->G):B:=h B id
theorem size_runs{M:Model}{Γ:Ctx}{p:Pos}{t:Sem Fin}{fs:List Frame}{s s':Shared}{e:End}(h:Runs M Γ p t fs s e s'):s.heap.objs.size<=s'.heap.objs.size:=by
 induction h<;>(try simp only[Shared.setGen,Heap.size_push,Heap.size_after_update]at*)<;>omega
theorem S8{M:Model}{Γ:Ctx}{p:Pos}{g:Nat}{r:Resume}{s s':Shared}{res:GenResult}(h:Wakes M Γ p g r s res s'):s.heap.objs.size<=s'.heap.objs.size:=by
 unfold Wakes at h;split at h
 ·exact h.elim
 ·split at h
  ·obtain⟨e₁,s₁,hr,_,_,rfl⟩:=h;exact(size_runs hr:(s.setGen g .running).heap.objs.size<=s₁.heap.objs.size)
  ·rw[h.2];exact Nat.le_refl _
  ·rw[h.2];exact Nat.le_refl _
 ·obtain⟨e₁,s₁,hr,_,_,rfl⟩:=h;exact(size_runs hr:(s.setGen g .running).heap.objs.size<=s₁.heap.objs.size)
 ·rw[h.2];exact Nat.le_refl _
 ·rw[h.2];exact Nat.le_refl _
theorem zB4{α:Type}(M:Model) (Γ:Ctx) (n:Nat) (t:Sem α):∀(Q:α->Pos->Shared->Prop) (E:Value->Pos->Shared->Prop) (p:Pos) (s:Shared),n<=s.heap.objs.size->Sem.wp M Γ t Q E p s->
  Sem.wp M Γ t (λa p' s'=>n<=s'.heap.objs.size/\Q a p' s') (λe p' s'=>n<=s'.heap.objs.size/\E e p' s') p s:=by
 induction t with
 |pure a=>intro Q E p s hn h;exact⟨hn,h⟩
 |raise e=>intro Q E p s hn h;exact⟨hn,h⟩
 |unsupported _=>intro Q E p s _ h;exact h
 |finish _=>intro Q E p s _ h;exact h
 |rule _ k ih=>intro Q E p s hn h;exact ih () Q E p s hn h
 | «at» p' k ih=>intro Q E p s hn h;exact ih () Q E p' s hn h
 |load a _ k ih=>intro Q E p s hn h;obtain⟨o,ho,h⟩:=h;exact⟨o,ho,ih o Q E p s hn h⟩
 |update a _ f k ih=>intro Q E p s hn h;exact⟨h.1,ih () Q E p _ (by rw[Heap.size_after_update];exact hn) h.2⟩
 |loadIfAlive a k ih=>intro Q E p s hn h;exact ih _ Q E p s hn h
 |point _ k ih=>intro Q E p s hn h;exact ih () Q E p s hn h
 |register _ _=>intro Q E p s _ h;exact h
 |alloc o k ih=>intro Q E p s hn h;exact ih _ Q E p _ (by rw[Heap.size_push];exact Ar λZ=>A5 [_,_] [A7 (.a x1 (.n 1)) x0,A9 x0 x1] rT Z hn) h
 |fresh k ih=>intro Q E p s hn h;exact ih _ Q E p _ hn h
 |ask k ih=>intro Q E p s hn h;exact ih _ Q E p s hn h
 |choose src m k ih=>intro Q E p s hn h;exact⟨h.1,ih _ Q E p _ hn h.2⟩
 |os q _ k ih=>intro Q E p s hn h;exact ih _ Q E p _ hn h
 |call c hd _ _ k ih=>intro Q E p s hn h;obtain⟨r,s',hr,h⟩:=h;exact⟨r,s',hr,ih r Q E p s' (Nat.le_trans hn (size_runs hr)) h⟩
 |handled own k ih=>intro Q E p s hn h;exact ih _ Q E p s hn h
 |genState g k ih=>intro Q E p s hn h;obtain⟨st,hs,h⟩:=h;exact⟨st,hs,ih _ Q E p s hn h⟩
 |newGen c k ih=>intro Q E p s hn h;exact ih _ Q E p _ hn h
 |resume g r _ k ih=>intro Q E p s hn h;obtain⟨res,s',hw,h⟩:=h;exact⟨res,s',hw,ih res Q E p s' (Nat.le_trans hn (S8 hw)) h⟩
 |yield _ _ _ _=>intro Q E p s _ h;exact h
 |stack k ih=>intro Q E p s hn h;exact ih _ Q E p s hn h
 |fork _ _=>intro Q E p s _ h;exact h
 |thread k ih=>intro Q E p s hn h;exact ih _ Q E p s hn h
 |await _ _ _ _ _=>intro Q E p s _ h;exact h
theorem Nv{α:Type}{M:Model}{A:Around}{s:Shared}{t:Sem α}{Q:α->Shared->Prop}{E:Value->Shared->Prop}(h:wpAny M A t Q E s):
  wpAny M A t (λa s'=>s.heap.objs.size<=s'.heap.objs.size/\Q a s') (λe s'=>s.heap.objs.size<=s'.heap.objs.size/\E e s') s:=
 fun Γ p hΓ=>zB4 M Γ _ t _ _ p s (Nat.le_refl _) (h Γ p hΓ)
inductive D where
 |none
 |bool (b:Bool)
 |int (i:Int)
 |str (s:Str)
 |tup (ds:List D)
 |ref (k:Nat)
 |scr (ns:List Int)
 |exc (c:Addr)
inductive PO where
 |list (ds:List D)
 |dict (ks:List (List Int))
 |priv
 |ctab (P:Addr) (l c:Nat) (q:Str) (k:Option Nat)
 |code (q:Str)
noncomputable abbrev Bp:=List PO
noncomputable abbrev Be:=Nat->Option D
structure St where
 loc:Be
 sto:Bp
inductive Gq (α:Type) where
 |ok (a:α) (st:St)
 |exc (c:Addr) (st:St)
 |bot
noncomputable abbrev Mn (α:Type):=St->Gq α
noncomputable def ret1 {α:Type}(a:α):Mn α:=λst=>.ok a st
noncomputable def bnd {α β:Type}(m:Mn α) (f:α->Mn β):Mn β:=λst=>match m st with
 |.ok a st'=>f a st'
 |.exc c st'=>.exc c st'
 |.bot=>.bot
noncomputable def botM {α:Type}:Mn α:=λ_=>.bot
inductive Fl where
 |next|brk|cont
 |ret (d:D)
inductive Bs {α β:Type}(R:α->β->Prop):List α->List β->Prop
 |nil:Bs R [] []
 |cons {a b l l'}:R a b->Bs R l l'->Bs R (a::l) (b::l')
theorem Bs.length{α β:Type}{R:α->β->Prop}{l:List α}{l':List β}(h:Bs R l l'):l.length=l'.length:=by
 induction h with
 |nil=>rfl
 |cons _ _ ih=>simp[ih]
theorem Bs.append{α β:Type}{R:α->β->Prop}{l₁ l₂:List α}{l₁' l₂':List β}(h:Bs R l₁ l₁') (g:Bs R l₂ l₂'):Bs R (l₁++l₂) (l₁'++l₂'):=by
 induction h with
 |nil=>exact g
 |cons x _ ih=>exact .cons x ih
theorem Bs.get{α β:Type}{R:α->β->Prop}{l:List α}{l':List β}(h:Bs R l l'):∀(i:Nat) (b:β),l'[i]? =some b->∃a,l[i]? =some a/\R a b:=by
 induction h with
 |nil=>intro i b e;simp at e
 |cons x _ ih=>
  intro i b e
  cases i with
  |zero=>simp at e;subst e;exact⟨_,by simp,x⟩
  |succ i=>simp at e;obtain⟨a,ha,r⟩:=ih i b e;exact⟨a,by simpa using ha,r⟩
theorem Bs.take{α β:Type}{R:α->β->Prop}{l:List α}{l':List β}(h:Bs R l l'):∀n,Bs R (l.take n) (l'.take n):=by
 induction h with
 |nil=>intro n;simp;exact .nil
 |cons x _ ih=>intro n;cases n with
  |zero=>simp;exact .nil
  |succ n=>simp;exact .cons x (ih n)
theorem Bs.drop{α β:Type}{R:α->β->Prop}{l:List α}{l':List β}(h:Bs R l l'):∀n,Bs R (l.drop n) (l'.drop n):=by
 induction h with
 |nil=>intro n;simp;exact .nil
 |cons x h ih=>intro n;cases n with
  |zero=>simp;exact .cons x h
  |succ n=>simpa using ih n
theorem Bs.set{α β:Type}{R:α->β->Prop}{l:List α}{l':List β}(h:Bs R l l'){a:α}{b:β}(r:R a b):∀i,Bs R (l.set i a) (l'.set i b):=by
 induction h with
 |nil=>intro i;simp;exact .nil
 |cons x h ih=>intro i;cases i with
  |zero=>simp;exact .cons r h
  |succ i=>simp;exact .cons x (ih i)
structure Gd where
 prog:Program
 w:World
 h0:Heap
 os0:OsState
 gens0:Array GenState
noncomputable abbrev F6 (vs:Array Value) (n:Nat):Obj:={cls:=.type "list",dict:=none,data:=.seq vs n,slots:= #[]}
noncomputable abbrev Sf (vs:Array Value) (n:Nat):Obj:={cls:=.type "tuple",dict:=none,data:=.seq vs n,slots:= #[]}
noncomputable def L0 (h:Heap) (a:Addr) (items:Array Value):Prop:=∃n,h.get? a=some (Sf items n)
noncomputable def Hp (h:Heap) (a:Addr) (items:Array Value):Prop:=∃n,h.get? a=some (F6 items n)
theorem He{vs vs':Array Value}{n n':Nat}:Sf vs n≠F6 vs' n':=λh=>by
 have:=congrArg Obj.cls h
 simp at this
theorem Hp.list{h:Heap}{a:Addr}{vs:Array Value}(x:Hp h a vs):h.IsList a vs:=let⟨n,e⟩:=x;⟨_,e,rfl,n,rfl⟩
noncomputable def zBQ (o:Obj) (c:Addr):Prop:=o.cls=.ref c/\o.dict=none
noncomputable def Xv (h:Heap) (a:Addr) (c:Addr):Prop:=∃o,h.get? a=some o/\zBQ o c/\∃vs,o.data=.fields vs
noncomputable def Jm (vs:List Value) (ns:List Int):Prop:=Bs (λv n=>∃t,v=Value.int n t) vs ns
inductive zFs (h:Heap) (ρ:List Addr) (P:List Value->Prop) (v:Value):Prop
 |mk (a:Addr) (vs:Array Value) (e:v=.ref a) (n:a∉ρ) (t:L0 h a vs) (r:P vs.toList)
inductive zGB (G:Gd) (ns:List Int) (v:Value):Prop
 |mk (a:Addr) (vs:Array Value) (e:v=.ref a) (l:G.h0.IsList a vs) (i:Jm vs.toList ns)
inductive zFw (h:Heap) (ρ:List Addr) (c:Addr) (v:Value):Prop
 |mk (a:Addr) (e:v=.ref a) (n:a∉ρ) (x:Xv h a c)
inductive zEl (P:Value->Prop) (Q:List Value->Prop) (vs:List Value):Prop
 |mk (v:Value) (r:List Value) (e:vs=v::r) (p:P v) (q:Q r)
mutual
noncomputable def C9 (G:Gd) (h:Heap) (ρ:List Addr):D->Value->Prop
 |.none,v=>v=.none
 |.bool b,v=>v=.bool b
 |.int i,v=>∃t,v=.int i t
 |.str s,v=>∃t,v=.str s t
 |.tup ds,v=>zFs h ρ (λvs=>Au G h ρ ds vs) v
 |.ref k,v=>∃a,v=.ref a/\ρ[k]? =some a
 |.scr ns,v=>zGB G ns v
 |.exc c,v=>zFw h ρ c v
noncomputable def Au (G:Gd) (h:Heap) (ρ:List Addr):List D->List Value->Prop
 |[],vs=>vs=[]
 |d::ds,vs=>zEl (λv=>C9 G h ρ d v) (λr=>Au G h ρ ds r) vs
end
theorem Au.all2{G:Gd}{h:Heap}{ρ:List Addr}:∀{ds:List D}{vs:List Value},Au G h ρ ds vs->Bs (λv d=>C9 G h ρ d v) vs ds
 |[],vs,e=>by subst e;exact .nil
 |d::ds,vs,e=>by
  obtain⟨v,r,rfl,h1,h2⟩:=e;exact .cons h1 (Au.all2 h2)
theorem Au.of_all2{G:Gd}{h:Heap}{ρ:List Addr}{ds:List D}{vs:List Value}(x:Bs (λv d=>C9 G h ρ d v) vs ds):Au G h ρ ds vs:=by
 induction x with
 |nil=>exact rfl
 |cons a _ ih=>exact⟨_,_,rfl,a,ih⟩
structure Jg (h:Heap) (ρ:List Addr) (h':Heap) (ρ':List Addr):Prop where
 pre:∀(k:Nat) (a:Addr),ρ[k]? =some a->ρ'[k]? =some a
 tup:∀a items,a∉ρ->L0 h a items->a∉ρ'/\L0 h' a items
 exc:∀a c,a∉ρ->Xv h a c->a∉ρ'/\Xv h' a c
mutual
theorem C9.mono{G:Gd}{h h':Heap}{ρ ρ':List Addr}(S:Jg h ρ h' ρ'):∀(d:D) (v:Value),C9 G h ρ d v->C9 G h' ρ' d v
 |.none,_,e=>e
 |.bool _,_,e=>e
 |.int _,_,e=>e
 |.str _,_,e=>e
 |.tup ds,v,e=>by
  obtain⟨a,vs,e1,n,e2,e3⟩:=e;obtain⟨n',e2'⟩:=S.tup _ _ n e2;exact⟨a,vs,e1,n',e2',Au.mono S ds _ e3⟩
 |.ref k,v,e=>by
  obtain⟨a,e1,e2⟩:=e;exact⟨a,e1,S.pre _ _ e2⟩
 |.scr _,_,e=>e
 |.exc c,v,e=>by
  obtain⟨a,e1,n,e2⟩:=e;exact⟨a,e1,(S.exc _ _ n e2).1,(S.exc _ _ n e2).2⟩
theorem Au.mono{G:Gd}{h h':Heap}{ρ ρ':List Addr}(S:Jg h ρ h' ρ'):∀(ds:List D) (vs:List Value),Au G h ρ ds vs->Au G h' ρ' ds vs
 |[],_,e=>e
 |d::ds,vs,e=>by
  obtain⟨v,r,e1,e2,e3⟩:=e;exact⟨v,r,e1,C9.mono S d v e2,Au.mono S ds r e3⟩
end
noncomputable def Vx (h:Heap) (a:Addr) (k:List Int):Prop:=∃vs,L0 h a vs/\Jm vs.toList k
noncomputable abbrev zCq (G:Gd):HeapKind G.prog G.w (List Int):=tupleKind (intKind G.prog G.w)
noncomputable abbrev zFJ (ps:Array Value):Obj:={cls:=.none,data:=.fields ps}
noncomputable def zDN (h:Heap) (ρ:List Addr) (a:Addr) (l c:Nat):Option Nat->Prop
 |none=>h.get? a=some (zFJ #[])
 |some k=>∃c',ρ[k]? =some c'/\h.get? a=some (zFJ #[rawInt l,rawInt c,.ref c'])
noncomputable def Uk (h:Heap) (a:Addr) (q:Str):Prop:=∃o vs t,h.get? a=some o∧o.cls=.type "code"∧o.data=.fields vs∧vs[1]? =some (.str q t)
noncomputable def Wu (h:Heap) (a:Addr):Prop:=∃x y,h.get? a=some (Sf #[x,y] 0)
noncomputable def Ji (G:Gd) (h:Heap) (ρ:List Addr) (a:Addr):PO->Prop
 |.list ds=>∃vs,Hp h a vs/\Au G h ρ ds vs.toList
 |.dict ks=>∃xs,h.DictOfH (zCq G) a xs/\(a==sysModules)=false/\xs.map (·.1)=ks/\∀x,x∈xs->x.2.1∉ρ/\Vx h x.2.1 x.1
 |.priv=>Wu h a
 |.ctab P l c _ k=>a=P/\zDN h ρ a l c k
 |.code q=>Uk h a q
structure Ci (G:Gd) (s:Shared) (ρ:List Addr) (σ:Bp):Prop where
 base:∀b o,G.h0.get? b=some o->s.heap.get? b=some o
 new:∀a,a∈ρ->G.h0.get? a=none
 nodup:ρ.Nodup
 len:ρ.length=σ.length
 sto:∀(k:Nat) (a:Addr) (o:PO),ρ[k]? =some a->σ[k]? =some o->Ji G s.heap ρ a o
 os:s.os=G.os0
 gens:s.gens=G.gens0
noncomputable def Ez (o o':Obj):Prop:=o'.cls=o.cls/\o'.data=o.data/\o'.dict=o.dict/\((∃es n,o.data=.dict es n)∨o'.slots=o.slots)
theorem Ez.refl(o:Obj):Ez o o:=⟨rfl,rfl,rfl,.inr rfl⟩
theorem Ez.trans{a b c:Obj}(x:Ez a b) (y:Ez b c):Ez a c:=
 ⟨y.1.trans x.1,y.2.1.trans x.2.1,y.2.2.1.trans x.2.2.1,x.2.2.2.elim .inl λe=>y.2.2.2.elim (λ⟨es,n,z⟩=>.inl ⟨es,n,x.2.1▸z⟩) λe'=>.inr (e'.trans e)⟩
theorem Ez.eq{o o':Obj}(x:Ez o o') (h:∀es n,o.data≠.dict es n):o'=o:=by
 obtain⟨c,d,dt,sl⟩:=o;obtain⟨c',d',dt',sl'⟩:=o';obtain⟨h1,h2,h3,h4⟩:=x;simp only at h1 h2 h3 h4
 rcases h4 with⟨es,n,z⟩|h4
 ·exact absurd z (h es n)
 ·subst h1 h2 h3 h4;rfl
structure Ev (P:List Addr) (h:Heap) (ρ:List Addr) (h':Heap) (ρ':List Addr):Prop where
 pre:∀(k:Nat) (a:Addr),ρ[k]? =some a->ρ'[k]? =some a
 keep:∀b o,h.get? b=some o->b∉ρ->b∉P->∃o',h'.get? b=some o'/\Ez o o'
 newp:∀a,a∈ρ'->a∈ρ∨h.objs.size<=a
 size:h.objs.size<=h'.objs.size
theorem Ev.refl{P:List Addr}{h:Heap}{ρ:List Addr}:Ev P h ρ h ρ:=⟨λ_ _ e=>e,λ_ o e _ _=>⟨o,e,.refl o⟩,λ_ e=>.inl e,Nat.le_refl _⟩
theorem Ev.notin'{P:List Addr}{h h':Heap}{ρ ρ':List Addr}(x:Ev P h ρ h' ρ'){b:Addr}(e:b<h.objs.size) (n:b∉ρ):b∉ρ':=
 λm=>(x.newp b m).elim n λz=>Nat.lt_irrefl _ (Nat.lt_of_lt_of_le e z)
theorem Ev.notin{P:List Addr}{h h':Heap}{ρ ρ':List Addr}(x:Ev P h ρ h' ρ'){b:Addr}{o:Obj}(e:h.get? b=some o) (n:b∉ρ):b∉ρ':=x.notin' (Heap.lt_size e) n
theorem Ev.trans{P:List Addr}{h h₁ h₂:Heap}{ρ ρ₁ ρ₂:List Addr}(x:Ev P h ρ h₁ ρ₁) (y:Ev P h₁ ρ₁ h₂ ρ₂):Ev P h ρ h₂ ρ₂ where
 pre k a e:=y.pre k a (x.pre k a e)
 keep b o e n1 n2:=by
  obtain⟨o',e',q⟩:=x.keep b o e n1 n2;obtain⟨o'',e'',q'⟩:=y.keep b o' e' (x.notin e n1) n2;exact⟨o'',e'',q.trans q'⟩
 newp a m:=(y.newp a m).elim (λm'=>x.newp a m') λz=>.inr (Nat.le_trans x.size z)
 size:=Nat.le_trans x.size y.size
theorem Ev.more{P P':List Addr}{h h':Heap}{ρ ρ':List Addr}(x:Ev P h ρ h' ρ') (hs:∀p,p∈P->p∈P'):Ev P' h ρ h' ρ':=
 ⟨x.pre,λb o e n1 n2=>x.keep b o e n1 λm=>n2 (hs b m),x.newp,x.size⟩
theorem Ev.nil{P:List Addr}{h h':Heap}{ρ ρ':List Addr}(x:Ev [] h ρ h' ρ'):Ev P h ρ h' ρ':=x.more λ_ m=>nomatch m
theorem Ev.less{P P':List Addr}{h h':Heap}{ρ ρ':List Addr}(x:Ev P' h ρ h' ρ') (hs:∀p,p∈P'->p∈P∨h.objs.size<=p):Ev P h ρ h' ρ':=
 ⟨x.pre,λb o e n1 n2=>x.keep b o e n1 λm=>(hs b m).elim n2 λz=>Nat.lt_irrefl _ (Nat.lt_of_lt_of_le (Heap.lt_size e) z),x.newp,x.size⟩
noncomputable def NT (h:Heap) (P:List Addr):Prop:=∀p,p∈P->∃o,h.get? p=some o/\((∃es n,o.data=.dict es n)∨(∃v,o.data=.cell v)∨∃vs n,o=F6 vs n)
theorem NT.nil{h:Heap}:NT h []:=λ_ m=>nomatch m
theorem Bj{α:Type}{l:List α}(hn:l.Nodup){i j:Nat}{a:α}(h1:l[i]? =some a) (h2:l[j]? =some a):i=j:=by
 obtain⟨hi,e1⟩:=lq2 h1;obtain⟨hj,e2⟩:=lq2 h2;rcases Nat.lt_trichotomy i j with q|q|q
 ·exact absurd (e1.trans e2.symm) ((List.pairwise_iff_getElem.mp hn) i j hi hj q)
 ·exact q
 ·exact absurd (e2.trans e1.symm) ((List.pairwise_iff_getElem.mp hn) j i hj hi q)
theorem Ci.mem_lt{G:Gd}{s:Shared}{ρ:List Addr}{σ:Bp}(I:Ci G s ρ σ){a:Addr}(m:a∈ρ):a<s.heap.objs.size:=by
 obtain⟨k,hk,e⟩:=List.getElem_of_mem m;have hk':k<σ.length:=by rw[←I.len];exact hk
 have e1:ρ[k]? =some a:=by rw[List.getElem?_eq_getElem hk,e]
 have r:=I.sto k a σ[k] e1 (List.getElem?_eq_getElem hk')
 cases q:σ[k]with
 |list ds=>
  rw[q]at r;obtain⟨vs,⟨n,ho⟩,_⟩:=r;exact Heap.lt_size ho
 |dict kvs=>
  rw[q]at r;obtain⟨xs,⟨o,es,ep,ho,_⟩,_⟩:=r;exact Heap.lt_size ho
 |priv=>
  rw[q]at r;obtain⟨x,y,ho⟩:=r;exact Heap.lt_size ho
 |ctab PP l c qq kk=>
  rw[q]at r
  cases kk with
  |none=>exact Heap.lt_size r.2
  |some kk=>obtain⟨_,c',_,ho⟩:=r;exact Heap.lt_size ho
 |code qq=>
  rw[q]at r;obtain⟨o,vs,t,ho,_⟩:=r;exact Heap.lt_size ho
theorem Ev.stb{G:Gd}{s:Shared}{P:List Addr}{ρ:List Addr}{σ:Bp}{h':Heap}{ρ':List Addr}(x:Ev P s.heap ρ h' ρ') (_I:Ci G s ρ σ) (N:NT s.heap P):Jg s.heap ρ h' ρ' where
 pre:=x.pre
 tup a items n1 t:=by
  obtain⟨n,ho⟩:=t;have n2:a∉P:=λm=>by
   obtain⟨o',ho',z⟩:=N a m;rw[ho]at ho';cases ho';rcases z with⟨_,_,z⟩|⟨_,z⟩|⟨_,_,z⟩
   ·cases z
   ·cases z
   ·exact He z
  obtain⟨o',ho',q⟩:=x.keep a _ ho n1 n2;rw[q.eq (λ_ _ z=>by cases z)]at ho'
  exact⟨x.notin ho n1,n,ho'⟩
 exc a c n1 t:=by
  obtain⟨o,ho,hc,vs,hd⟩:=t;have n2:a∉P:=λm=>by
   obtain⟨o',ho',z⟩:=N a m;rw[ho]at ho';cases ho';rcases z with⟨_,_,z⟩|⟨_,z⟩|⟨_,_,z⟩
   ·rw[hd]at z;cases z
   ·rw[hd]at z;cases z
   ·rw[z]at hd;cases hd
  obtain⟨o',ho',q⟩:=x.keep a o ho n1 n2;exact⟨x.notin ho n1,o',ho',⟨q.1.trans hc.1,q.2.2.1.trans hc.2⟩,vs,q.2.1.trans hd⟩
structure Hg (G:Gd) (tbl:List Str) (P:List Addr) (env:Env) (h:Heap) (ρ:List Addr) (loc:Be):Prop where
 kind:env.scope.kind=.function
 glob:env.globals=mainGlobals
 bi:env.builtins=builtinsNs
 ns:∃m,h.Ns env.locals m/\∀(i:Nat) (x:Str),tbl[i]? =some x->env.kindOf x=some .local->∀d,loc i=some d->∃v,m x=some v/\C9 G h ρ d v
 cell:∀(i:Nat) (x:Str),tbl[i]? =some x->(env.kindOf x=some .cell∨env.kindOf x=some .free)->∃c,env.cells.lookup x=some c/\∃ov,h.IsCell c ov/\∀d,loc i=some d->∃v,ov=some v/\C9 G h ρ d v
 cok:∀x c,env.cells.lookup x=some c->c∉ρ/\∃ov,h.IsCell c ov
 cinj:∀x y c,env.cells.lookup x=some c->env.cells.lookup y=some c->x=y
 lrho:env.locals∉ρ
 lP:env.locals∈P
 own:∀p,p∈P->G.h0.get? p=none/\(p=env.locals∨∃x,env.cells.lookup x=some p)
 tnd:tbl.Nodup
theorem Hg.nt{G:Gd}{tbl:List Str}{P:List Addr}{env:Env}{h:Heap}{ρ:List Addr}{loc:Be}(F:Hg G tbl P env h ρ loc):NT h P:=by
 intro p m;rcases(F.own p m).2 with rfl|⟨x,e⟩
 ·obtain⟨mm,⟨o,es,ep,ho,hd,_⟩,_⟩:=F.ns;exact⟨o,ho,.inl ⟨es,ep,hd⟩⟩
 ·obtain⟨_,ov,o,ho,hd⟩:=F.cok x p e;exact⟨o,ho,.inr (.inl ⟨ov,hd⟩)⟩
theorem Q0{P:List Addr}{h h':Heap}{ρ ρ':List Addr}(x:Ev P h ρ h' ρ'){L:Addr}{m:Str->Option Value}(n:h.Ns L m) (h1:L∉ρ) (h2:L∉P):h'.Ns L m:=by
 obtain⟨o,es,ep,ho,hd,r⟩:=n;obtain⟨o',ho',q⟩:=x.keep L o ho h1 h2;exact⟨o',es,ep,ho',q.2.1.trans hd,r⟩
theorem Oh{P:List Addr}{h h':Heap}{ρ ρ':List Addr}(x:Ev P h ρ h' ρ'){c:Addr}{ov:Option Value}(n:h.IsCell c ov) (h1:c∉ρ) (h2:c∉P):h'.IsCell c ov:=by
 obtain⟨o,ho,hd⟩:=n;obtain⟨o',ho',q⟩:=x.keep c o ho h1 h2;exact⟨o',ho',q.2.1.trans hd⟩
theorem Hg.keep{G:Gd}{tbl:List Str}{P:List Addr}{env:Env}{s:Shared}{ρ:List Addr}{σ:Bp}{loc:Be}{h':Heap}{ρ':List Addr}(F:Hg G tbl P env s.heap ρ loc) (I:Ci G s ρ σ) (x:Ev [] s.heap ρ h' ρ'):
  Hg G tbl P env h' ρ' loc where
 kind:=F.kind
 glob:=F.glob
 bi:=F.bi
 ns:=by
  obtain⟨m,n,q⟩:=F.ns;exact⟨m,Q0 x n F.lrho (λm=>nomatch m),λi y e k d hd=>let⟨v,e1,e2⟩:=q i y e k d hd;⟨v,e1,C9.mono (x.stb I .nil) d v e2⟩⟩
 cell i y e k:=by
  obtain⟨c,e1,ov,n,q⟩:=F.cell i y e k;exact⟨c,e1,ov,Oh x n (F.cok y c e1).1 (λm=>nomatch m),λd hd=>let⟨v,e1,e2⟩:=q d hd;⟨v,e1,C9.mono (x.stb I .nil) d v e2⟩⟩
 cok y c e:=by
  obtain⟨n,ov,o,ho,hd⟩:=F.cok y c e;exact⟨x.notin ho n,ov,Oh x ⟨o,ho,hd⟩ n (λm=>nomatch m)⟩
 cinj:=F.cinj
 lrho:=by
  obtain⟨m,⟨o,es,ep,ho,r⟩,q⟩:=F.ns;exact x.notin ho F.lrho
 lP:=F.lP
 own:=F.own
 tnd:=F.tnd
structure Nf (n:Nat) (A:Around):Prop where
 hd:A.handled=none
 depth:A.depth+n<=900
 units:A.units+10*n<=9000
theorem Nf.le{n n':Nat}{A:Around}(R:Nf n A) (h:n'<=n):Nf n' A:=⟨R.hd,by have:=R.depth;exact Ar λZ=>A5 [_,_,_] [A7 (.n 900) (.a x1 x0),A9 x0 x2,A9 (.a x1 x2) (.n 900)] rT Z h this,by have:=R.units;exact Ar λZ=>A5 [_,_,_] [A7 (.n 9000) (.a x1 (.m 10 x0)),Rx 10 x0 x2,A9 (.a x1 (.m 10 x2)) (.n 9000)] rT Z h this⟩
inductive zG7 (G:Gd) (h:Heap) (ρ:List Addr) (e:Env):Prop
 |mk (k:e.scope.kind≠.module) (L:Addr) (o:Obj) (es:Array DictEntry) (n:Nat) (f:e.frame=some L) (h0:G.h0.get? L=none) (hr:L∉ρ) (ho:h.get? L=some o) (hd:o.data=.dict es n)
noncomputable def FF (G:Gd) (h:Heap) (ρ:List Addr) (fs:List Env):Prop:=∀e,e∈fs->zG7 G h ρ e
theorem FF.fun{G:Gd}{h:Heap}{ρ:List Addr}:∀{fs:List Env},FF G h ρ fs->h.FunFrames G.h0 fs
 |[],_=>trivial
 |e::r,x=>by
  obtain⟨hk,L,o,es,n,hf,h0,_,ho,hd⟩:=x e lq1;exact⟨hk,⟨L,o,hf,h0,ho,λvs z=>by rw[hd]at z;cases z⟩,FF.fun λe' m=>x e' (lq4 _ m)⟩
structure Qu (G:Gd) (A:Around) (env:Env) (h:Heap) (ρ:List Addr):Prop where
 fr:∃fenv outer L,A.frames=some (fenv::outer)/\fenv.frame=some L/\env.frame=some L
 ff:∀fs,A.frames=some fs->FF G h ρ fs
theorem FF.keep{G:Gd}{h h':Heap}{ρ ρ':List Addr}(x:Ev [] h ρ h' ρ'){fs:List Env}(f:FF G h ρ fs):FF G h' ρ' fs:=λe m=>by
 obtain⟨hk,L,o,es,n,hf,h0,hr,ho,hd⟩:=f e m;obtain⟨o',ho',q⟩:=x.keep L o ho hr (λm=>nomatch m)
 exact⟨hk,L,o',es,n,hf,h0,x.notin ho hr,ho',q.2.1.trans hd⟩
theorem FF.keepF{G:Gd}{h h':Heap}{ρ ρ':List Addr}{tbl:List Str}{P:List Addr}{env:Env}{loc loc':Be}(x:Ev P h ρ h' ρ') (F:Hg G tbl P env h ρ loc) (F':Hg G tbl P env h' ρ' loc'){fs:List Env}(f:FF G h ρ fs):FF G h' ρ' fs:=λe m=>by
 obtain⟨hk,L,o,es,n,hf,h0,hr,ho,hd⟩:=f e m;by_cases mp:L∈P
 ·rcases(F.own L mp).2 with rfl|⟨y,e'⟩
  ·obtain⟨mm,⟨o',es',ep',ho',hd',_⟩,_⟩:=F'.ns;exact⟨hk,env.locals,o',es',ep',hf,h0,F'.lrho,ho',hd'⟩
  ·obtain⟨_,ov,o',ho',hd'⟩:=F.cok y L e';rw[ho]at ho';cases ho';rw[hd]at hd';cases hd'
 ·obtain⟨o',ho',q⟩:=x.keep L o ho hr mp;exact⟨hk,L,o',es,n,hf,h0,x.notin ho hr,ho',q.2.1.trans hd⟩
inductive zFE (n:Nat) (h:Heap) (a:Addr) (vs:Array Value):Prop
 |mk (T:Addr) (oT:Obj) (ts:Array Value):vs[1]? =some (.ref T)→T≠a→n≤T→h.get? T=some oT→oT.cls=.type "traceback"→oT.data=.fields ts→(x:Value)→ts[3]? =some x→zFE n h a vs
inductive Wb (n:Nat) (h:Heap) (_f:Option Addr) (a c:Addr):Prop
 |mk:n<=a->(o:Obj)->(vs:Array Value)->h.get? a=some o->zBQ o c->o.data=.fields vs->5<vs.size->(vs[1]? =some .none∨zFE n h a vs)->Wb n h _f a c
structure Cx where
 names:List (Str×NameKind)
 tbl:List Str
 lvl:Nat
 inh:Bool
 code:Value
 qual:Str
structure Yz (C:Cx) (A:Around):Prop where
 hd:C.inh=false->A.handled=none
 depth:A.depth+C.lvl<=900
 units:A.units+10*C.lvl<=9000
theorem Yz.room{C:Cx}{A:Around}(R:Yz C A) (h:C.inh=false):Nf C.lvl A:=⟨R.hd h,R.depth,R.units⟩
structure zFu (names:List (Str×NameKind)) (env:Env):Prop where
 loc:∀x,names.lookup x=some .local->env.kindOf x=some .local
 cell:∀x,names.lookup x=some .cell->env.kindOf x=some .cell
 free:∀x,names.lookup x=some .free->env.kindOf x=some .cell∨env.kindOf x=some .free
 glob:∀x,names.lookup x=some .globalImplicit->env.kindOf x=some .globalImplicit
structure Ok (G:Gd) (C:Cx) (A:Around) (P:List Addr) (env:Env) (s:Shared) (ρ:List Addr) (st:St):Prop where
 room:Yz C A
 sees:zFu C.names env
 inv:Ci G s ρ st.sto
 frm:Hg G C.tbl P env s.heap ρ st.loc
 stk:Qu G A env s.heap ρ
 code:C.code=.none∨env.code=C.code
 qual:C.code=.none∨env.qual=C.qual
inductive Bc {α:Type}(G:Gd) (env:Env) (s:Shared) (ρ:List Addr) (st:St) (r:Gq α) (x:Value) (s':Shared):Prop
 |mk (ρ':List Addr) (c:Addr) (σ':Bp) (a:Addr):r=.exc c ⟨st.loc,σ'⟩->Ci G s' ρ' σ'->Ev [] s.heap ρ s'.heap ρ'->x=.ref a->Wb s.heap.objs.size s'.heap env.frame a c->Bc G env s ρ st r x s'
noncomputable abbrev Gd.M (G:Gd):Model:=model G.prog G.w
theorem Qu.step{G:Gd}{A:Around}{env:Env}{h h':Heap}{ρ ρ':List Addr}(S:Qu G A env h ρ) (x:Ev [] h ρ h' ρ'):Qu G A env h' ρ':=⟨S.fr,λfs e=>(S.ff fs e).keep x⟩
theorem Ok.step{G:Gd}{C:Cx}{A:Around}{P:List Addr}{env:Env}{s:Shared}{ρ:List Addr}{st:St}(K:Ok G C A P env s ρ st){s':Shared}{ρ':List Addr}{σ':Bp}
  (I':Ci G s' ρ' σ') (x:Ev [] s.heap ρ s'.heap ρ'):Ok G C A P env s' ρ' ⟨st.loc,σ'⟩:=
 ⟨K.room,K.sees,I',K.frm.keep K.inv x,K.stk.step x,K.code,K.qual⟩
theorem Wb.from{n₀ n₁:Nat}{h₂:Heap}{f:Option Addr}{a c:Addr}(F:Wb n₁ h₂ f a c) (hk:n₀<=n₁):Wb n₀ h₂ f a c:=by
 obtain⟨h1,o,vs,e1,e2,e3,e4,e5⟩:=F;exact⟨Nat.le_trans hk h1,o,vs,e1,e2,e3,e4,e5.imp id λ⟨T,oT,ts,q1,q2,q3,q4,q5,q6,q7,q8⟩=>⟨T,oT,ts,q1,q2,Nat.le_trans hk q3,q4,q5,q6,q7,q8⟩⟩
theorem An{α β:Type}{m:Mn α}{f:α->Mn β}{st:St}(h:bnd m f st≠.bot):m st≠.bot:=λe=>h (by simp only[bnd,e])
section
variable {G:Gd}{C:Cx}{A:Around}{P:List Addr}{env:Env}{s:Shared}{ρ:List Addr}{σ:Bp}{st:St}
noncomputable def Av (h h':Heap):Prop:=∀b o,h.get? b=some o->h'.get? b=some o
theorem Av.refl(h:Heap):Av h h:=λ_ _ e=>e
theorem Av.push(h:Heap) (o:Obj):Av h (h.push o):=λ_ _ e=>Heap.get?_push_of_some o e
theorem Am{h:Heap}{o:Obj}:h.objs.size<=(h.push o).objs.size:=by rw[Heap.size_push];omega
theorem Av.ev{h h':Heap}(g:Av h h') (z:h.objs.size<=h'.objs.size):Ev P h ρ h' ρ:=⟨λ_ _ e=>e,λb o e _ _=>⟨o,g b o e,.refl o⟩,λ_ m=>.inl m,z⟩
theorem Av.stb{h h':Heap}(g:Av h h'):Jg h ρ h' ρ:=
 ⟨λ_ _ e=>e,λa _ n1 t=>let⟨n,ho⟩:=t;⟨n1,n,g a _ ho⟩,λa _ n1 t=>let⟨o,ho,r⟩:=t;⟨n1,o,g a o ho,r⟩⟩
theorem Av.ext{h h':Heap}(g:Av h h'){ρ':List Addr}(hp:∀(k:Nat) (a:Addr),ρ[k]? =some a→ρ'[k]? =some a) (hn:∀a o,a∉ρ→h.get? a=some o→(o.cls=.type "tuple"∨∃c,o.cls=.ref c)→a∉ρ'):Jg h ρ h' ρ':=
 ⟨hp,λa _ n1 t=>let⟨n,ho⟩:=t;⟨hn a _ n1 ho (.inl rfl),n,g a _ ho⟩,λa _ n1 t=>let⟨o,ho,hc,r⟩:=t;⟨hn a o n1 ho (.inr ⟨_,hc.1⟩),o,g a o ho,hc,r⟩⟩
theorem Av.list{h h':Heap}(g:Av h h'){a:Addr}{vs:Array Value}(x:h.IsList a vs):h'.IsList a vs:=let⟨o,ho,r⟩:=x;⟨o,g a o ho,r⟩
theorem Vd{G:Gd}{vs:List Value}{k:List Int}(h:Jm vs k):ItemsAre (intKind G.prog G.w) k vs:=by
 induction h with
 |nil=>exact .nil
 |cons h _ ih=>obtain⟨t,rfl⟩:=h;exact .cons (by simp[intKind,Value.isInt]) ih
theorem Vx.is{G:Gd}{h:Heap}{a:Addr}{k:List Int}(x:Vx h a k):(zCq G).is h k a:=let⟨vs,⟨n,e⟩,r⟩:=x;⟨_,vs,n,e,rfl,rfl,Vd r⟩
theorem Vx.mono{h h':Heap}{ρ ρ':List Addr}(S:Jg h ρ h' ρ'){a:Addr}{k:List Int}(n:a∉ρ) (x:Vx h a k):a∉ρ'/\Vx h' a k:=let⟨vs,t,r⟩:=x;let⟨n',t'⟩:=S.tup a vs n t;⟨n',vs,t',r⟩
theorem Ji.mono{h h':Heap}{ρ ρ':List Addr}(S:Jg h ρ h' ρ'){a:Addr}(hk:∀o,h.get? a=some o->h'.get? a=some o) (hz:h.objs.size<=h'.objs.size){o:PO}(x:Ji G h ρ a o):Ji G h' ρ' a o:=by
 cases o with
 |list ds=>
  obtain⟨vs,⟨n,ho⟩,r⟩:=x;exact⟨vs,⟨n,hk _ ho⟩,Au.mono S _ _ r⟩
 |dict kvs=>
  apply yo;intro _ k0
  obtain⟨xs,⟨o,es,ep,ho,hx,hd,he,hi,hn⟩,hs,e,r⟩:=x;apply k0
  have r':=λx m=>(r x m).2.mono S (r x m).1
  exact⟨xs,⟨o,es,ep,hk _ ho,hx,hd,he,λx m=>(r' x m).2.is,hn⟩,hs,e,r'⟩
 |priv=>
  obtain⟨u,v,ho⟩:=x;exact⟨u,v,hk _ ho⟩
 |ctab PP l c q k=>
  cases k with
  |none=>exact⟨x.1,hk _ x.2⟩
  |some k=>obtain⟨e0,c',e,ho⟩:=x;exact⟨e0,c',S.pre _ _ e,hk _ ho⟩
 |code q=>obtain⟨o,vs,t,ho,r⟩:=x;exact⟨o,vs,t,hk _ ho,r⟩
theorem Ci.grow(I:Ci G s ρ σ){h':Heap}(g:Av s.heap h') (z:s.heap.objs.size<=h'.objs.size) (t:Nat):Ci G {s with heap:=h',toks:=t} ρ σ where
 base b o e:=g b o (I.base b o e)
 new:=I.new
 nodup:=I.nodup
 len:=I.len
 sto k a o e1 e2:=(I.sto k a o e1 e2).mono g.stb (λo ho=>g a o ho) z
 os:=I.os
 gens:=I.gens
theorem Ci.tok(I:Ci G s ρ σ) (t:Nat):Ci G {s with toks:=t} ρ σ:=I.grow (Av.refl _) (Nat.le_refl _) t
theorem Ci.size_notin(I:Ci G s ρ σ):s.heap.objs.size∉ρ:=λm=>Nat.lt_irrefl _ (I.mem_lt m)
theorem Ci.h0_le(I:Ci G s ρ σ){a:Addr}(h:s.heap.objs.size<=a):G.h0.get? a=none:=by
 cases q:G.h0.get? a with
 |none=>rfl
 |some o=>exact absurd (Heap.lt_size (I.base _ _ q)) (Nat.not_lt.mpr h)
theorem Ci.h0_size(I:Ci G s ρ σ):G.h0.get? s.heap.objs.size=none:=I.h0_le (Nat.le_refl _)
theorem E6{α:Type}{ρ:List α}{a:α}:∀(k:Nat) (b:α),ρ[k]? =some b->(ρ++[a])[k]? =some b:=λk b e=>by
 rw[List.getElem?_append_left (lq2 e).1];exact e
theorem Ci.adopt(I:Ci G s ρ σ){q:Addr}{p:PO}(h0:G.h0.get? q=none) (hq:q∉ρ) (hnt:∀o,s.heap.get? q=some o→o.cls≠.type "tuple"∧∀c,o.cls≠.ref c)
  (hr:Jg s.heap ρ s.heap (ρ++[q])->Ji G s.heap (ρ++[q]) q p) (t:Nat):Ci G {s with toks:=t} (ρ++[q]) (σ++[p])/\Jg s.heap ρ s.heap (ρ++[q]):=by
 have S:Jg s.heap ρ s.heap (ρ++[q]):=(Av.refl s.heap).ext E6 λa o n1 ho hc m=>by
  rcases List.mem_append.mp m with m|m
  ·exact n1 m
  ·rw[lq0 m]at ho;rcases hc with hc|⟨c,hc⟩
   ·exact(hnt o ho).1 hc
   ·exact(hnt o ho).2 c hc
 refine⟨⟨I.base,λa m=>?_,?_,by simp[I.len],λk a p' e1 e2=>?_,I.os,I.gens⟩,S⟩
 ·rcases List.mem_append.mp m with m|m
  ·exact I.new a m
  ·rw[lq0 m];exact h0
 ·refine List.nodup_append.mpr ⟨I.nodup,by simp,λa m b m' e=>?_⟩
  rw[lq0 m']at e;exact hq (e▸m)
 ·by_cases hk:k<ρ.length
  ·rw[List.getElem?_append_left hk]at e1;rw[List.getElem?_append_left (by rw[←I.len];exact hk)]at e2
   exact(I.sto k a p' e1 e2).mono S (λo' ho'=>ho') (Nat.le_refl _)
  ·have:k=ρ.length:=by
    have:=(lq2 e1).1
    simp at this
    omega
   subst this;simp at e1
   rw[I.len]at e2;simp at e2
   subst e1 e2;exact hr S
theorem Hw{h h':Heap}{ρ':List Addr}{q:Addr}(x:Ev P h ρ h' ρ') (hq:h.objs.size<=q):Ev P h ρ h' (ρ'++[q]) where
 pre k a e:=E6 k a (x.pre k a e)
 keep:=x.keep
 newp a m:=by
  rcases List.mem_append.mp m with m|m
  ·exact x.newp a m
  ·rw[lq0 m];exact .inr hq
 size:=x.size
theorem Ci.alloc(I:Ci G s ρ σ){o:Obj}{p:PO}(hnt:o.cls≠.type "tuple"∧∀c,o.cls≠.ref c) (hf:o.isFreed=false)
  (hr:Jg s.heap ρ (s.heap.push o) (ρ++[s.heap.objs.size])->Ji G (s.heap.push o) (ρ++[s.heap.objs.size]) s.heap.objs.size p) (t:Nat):
  Ci G {s with heap:=s.heap.push o,toks:=t} (ρ++[s.heap.objs.size]) (σ++[p])/\(∀P,Ev P s.heap ρ (s.heap.push o) (ρ++[s.heap.objs.size])):=by
 have g:=Av.push s.heap o;have I1:=I.grow g Am t;have x1:∀P,Ev P s.heap ρ (s.heap.push o) ρ:=λP=>g.ev Am
 have S0:Jg s.heap ρ (s.heap.push o) ρ:=g.stb
 have:=I1.adopt (q:=s.heap.objs.size) (p:=p) I.h0_size I.size_notin (λo' ho'=>by
  have ho'':(s.heap.push o).get? s.heap.objs.size=some o':=ho'
  rw[Heap.get?_push_size _ hf]at ho'';cases ho'';exact hnt) (λS=>hr ⟨S.pre,λa vs n1 t=>let⟨n2,t2⟩:=S0.tup a vs n1 t;S.tup a vs n2 t2,λa c n1 t=>let⟨n2,t2⟩:=S0.exc a c n1 t;S.exc a c n2 t2⟩) t
 exact⟨this.1,λP=>Hw (x1 P) (Nat.le_refl _)⟩
theorem Ci.put(I:Ci G s ρ σ){k:Nat}{a:Addr}{p:PO}{h':Heap}(hk:ρ[k]? =some a) (hs:Heap.SameBut a s.heap h')
  (hr:Jg s.heap ρ h' ρ->Ji G h' ρ a p) (t:Nat):Ci G {s with heap:=h',toks:=t} ρ (σ.set k p)/\∀P,Ev P s.heap ρ h' ρ:=by
 have ha:a∈ρ:=List.mem_of_getElem? hk
 have keep:∀b o,b≠a->s.heap.get? b=some o->h'.get? b=some o:=λb o n e=>(hs.2 b n).trans e
 have hz:s.heap.objs.size<=h'.objs.size:=Nat.le_of_eq hs.1.symm
 have S:Jg s.heap ρ h' ρ:=⟨λ_ _ e=>e,λb items n1 t=>by
   obtain⟨n,ho⟩:=t;exact⟨n1,n,keep b _ (λe=>n1 (e▸ha)) ho⟩,λb c n1 t=>by
   apply yo;intro _ k0
   obtain⟨o,ho,hc,vs,hd⟩:=t;apply k0
   exact⟨n1,o,keep b o (λe=>n1 (e▸ha)) ho,hc,vs,hd⟩⟩
 refine⟨⟨λb o e=>keep b o (λq=>?_) (I.base b o e),I.new,I.nodup,by simp[I.len],λj b p' e1 e2=>?_,I.os,I.gens⟩,
  λP=>⟨λ_ _ e=>e,λb o e n _=>⟨o,keep b o (λq=>n (q▸ha)) e,.refl o⟩,λ_ m=>.inl m,hz⟩⟩
 ·rw[q,I.new a ha]at e;cases e
 ·by_cases hj:j=k
  ·subst hj;rw[hk]at e1;cases e1;rw[List.getElem?_set_self (by rw[←I.len];exact(lq2 hk).1)]at e2
   cases e2;exact hr S
  ·rw[List.getElem?_set_ne (Ne.symm hj)]at e2;have hb:b≠a:=λq=>hj (Bj I.nodup (q▸e1) hk)
   exact(I.sto j b p' e1 e2).mono S (λo ho=>keep b o hb ho) hz
noncomputable def O1 (G:Gd) (h:Heap) (ρ:List Addr) (q:Addr):Prop:=G.h0.get? q=none∧q∉ρ∧∃o T vs,h.get? q=some o∧o.cls=.type T∧T≠"tuple"∧o.data=.fields vs
noncomputable def Gg (S:List Addr) (h h':Heap):Prop:=(∀b o,b∉S->h.get? b=some o->h'.get? b=some o)/\h.objs.size<=h'.objs.size/\∀q,q∈S->Wu h q->Wu h' q
theorem Iy{I:Addr}{h h':Heap}(k:∀b o,b≠I->h.get? b=some o->h'.get? b=some o) (z:h.objs.size<=h'.objs.size) (np:¬Wu h I):Gg [I] h h':=
 ⟨λb o n e=>k b o (λq=>n (by simp[q])) e,z,λq m p=>absurd (lq0 m▸p) np⟩
theorem Im{S:List Addr}{h:Heap}:Gg S h h:=⟨λ_ _ _ e=>e,Nat.le_refl _,λ_ _ p=>p⟩
theorem O1.notPrv{h:Heap}{q:Addr}(i:O1 G h ρ q):¬Wu h q:=λ⟨x,y,e⟩=>by
 obtain⟨_,_,o,T,vs,ho,_,_,hd⟩:=i;rw[e]at ho;cases ho;cases hd
noncomputable def R5 (G:Gd) (h:Heap) (ρ:List Addr) (σ:Bp) (q:Addr):Prop:=(O1 G h ρ q∨(G.h0.get? q=none/\q∉ρ/\∃vs,Hp h q vs))∨∃k:Nat,ρ[k]? =some q/\σ[k]? =some .priv
theorem Gg.stb{S:List Addr}{h h':Heap}(x:Gg S h h') (i:∀q,q∈S->R5 G h ρ σ q):Jg h ρ h' ρ:=
 ⟨λ_ _ e=>e,λb items n1 t=>by
   apply yo;intro _ k0
   obtain⟨n,ho⟩:=t;apply k0
   refine⟨n1,n,x.1 b _ (λm=>?_) ho⟩
   rcases i b m with(⟨_,_,o',T,vs,ho',hc',hT,_⟩|⟨_,_,vs,nn,ho'⟩)|⟨k,e,_⟩
   ·rw[ho]at ho';cases ho'
    cases hc';exact hT rfl
   ·rw[ho]at ho';exact He (Option.some.inj ho')
   ·exact n1 (List.mem_of_getElem? e),λb c n1 t=>by
   obtain⟨o,ho,hc,vs,hd⟩:=t;refine⟨n1,o,x.1 b o (λm=>?_) ho,hc,vs,hd⟩
   rcases i b m with(⟨_,_,o',T,vs,ho',hc',hT,_⟩|⟨_,_,vs,nn,ho'⟩)|⟨k,e,_⟩
   ·rw[ho]at ho';cases ho';rw[hc.1]at hc';cases hc'
   ·rw[ho]at ho';cases ho'
    cases hc.1
   ·exact n1 (List.mem_of_getElem? e)⟩
theorem Ci.only(I:Ci G s ρ σ){S:List Addr}{h':Heap}(x:Gg S s.heap h') (i:∀q,q∈S->R5 G s.heap ρ σ q) (t:Nat):Ci G {s with heap:=h',toks:=t} ρ σ where
 base b o e:=x.1 b o (λm=>by
  rcases i b m with(z|z)|⟨k,z,_⟩
  ·rw[z.1]at e;cases e
  ·rw[z.1]at e;cases e
  ·rw[I.new b (List.mem_of_getElem? z)]at e;cases e) (I.base b o e)
 new:=I.new
 nodup:=I.nodup
 len:=I.len
 sto k a o e1 e2:=by
  by_cases m:a∈S
  ·rcases i a m with(z|z)|⟨k',z1,z2⟩
   ·exact absurd (List.mem_of_getElem? e1) z.2.1
   ·exact absurd (List.mem_of_getElem? e1) z.2.1
   ·have:=Bj I.nodup e1 z1
    subst this;rw[z2]at e2;cases e2;exact x.2.2 a m (I.sto k a .priv e1 z2)
  ·exact(I.sto k a o e1 e2).mono (x.stb i) (λo ho=>x.1 a o m ho) x.2.1
 os:=I.os
 gens:=I.gens
theorem R5.ne_dict{h:Heap}{q:Addr}(z:R5 G h ρ σ q) (hr:q∉ρ){o:Obj}(ho:h.get? q=some o):(∀es n,o.data≠.dict es n)/\∀v,o.data≠.cell v:=by
 rcases z with(⟨_,_,o',T,vs,ho',_,_,hd'⟩|⟨_,_,vs,nn,ho'⟩)|⟨k,e,_⟩
 ·rw[ho]at ho';cases ho';rw[hd'];exact⟨λ_ _ z=>(by cases z),λ_ z=>by cases z⟩
 ·rw[ho]at ho';cases ho';exact⟨λ_ _ z=>(by cases z),λ_ z=>by cases z⟩
 ·exact absurd (List.mem_of_getElem? e) hr
theorem Hg.only{tbl:List Str}{loc:Be}(F:Hg G tbl P env s.heap ρ loc){S:List Addr}{h':Heap}(x:Gg S s.heap h') (i:∀q,q∈S->R5 G s.heap ρ σ q):Hg G tbl P env h' ρ loc where
 kind:=F.kind
 glob:=F.glob
 bi:=F.bi
 ns:=by
  apply yo;intro _ k0
  obtain⟨m,⟨o,es,ep,ho,hd,r⟩,q⟩:=F.ns;apply k0
  refine⟨m,⟨o,es,ep,x.1 _ o (λmm=>?_) ho,hd,r⟩,λi' y e k d hd=>let⟨v,e1,e2⟩:=q i' y e k d hd;⟨v,e1,C9.mono (x.stb i) d v e2⟩⟩
  exact((i _ mm).ne_dict F.lrho ho).1 _ _ hd
 cell i' y e k:=by
  apply yo;intro _ k0
  obtain⟨c,e1,ov,⟨o,ho,hd⟩,q⟩:=F.cell i' y e k;apply k0
  refine⟨c,e1,ov,⟨o,x.1 c o (λmm=>?_) ho,hd⟩,λd hd=>let⟨v,e1,e2⟩:=q d hd;⟨v,e1,C9.mono (x.stb i) d v e2⟩⟩
  exact((i _ mm).ne_dict (F.cok y c e1).1 ho).2 _ hd
 cok y c e:=by
  apply yo;intro _ k0
  obtain⟨n,ov,o,ho,hd⟩:=F.cok y c e;apply k0
  refine⟨n,ov,o,x.1 c o (λmm=>?_) ho,hd⟩
  exact((i _ mm).ne_dict n ho).2 _ hd
 cinj:=F.cinj
 lrho:=F.lrho
 lP:=F.lP
 own:=F.own
 tnd:=F.tnd
theorem Qu.only(K:Qu G A env s.heap ρ){S:List Addr}{h':Heap}(x:Gg S s.heap h') (i:∀q,q∈S->R5 G s.heap ρ σ q):Qu G A env h' ρ:=
 ⟨K.fr,λfs e en m=>by
  apply yo;intro _ k0
  obtain⟨hk,L,o,es,n,hf,h0,hr,ho,hd⟩:=K.ff fs e en m;apply k0
  refine⟨hk,L,o,es,n,hf,h0,hr,x.1 L o (λmm=>?_) ho,hd⟩
  exact((i _ mm).ne_dict hr ho).1 _ _ hd⟩
theorem Ok.only(K:Ok G C A P env s ρ st){S:List Addr}{h':Heap}(x:Gg S s.heap h') (i:∀q,q∈S->R5 G s.heap ρ st.sto q) (t:Nat):Ok G C A P env {s with heap:=h',toks:=t} ρ st:=
 ⟨K.room,K.sees,K.inv.only x i t,K.frm.only x i,K.stk.only x i,K.code,K.qual⟩
theorem Ok.grow(K:Ok G C A P env s ρ st){h':Heap}(g:Av s.heap h') (z:s.heap.objs.size<=h'.objs.size) (t:Nat):Ok G C A P env {s with heap:=h',toks:=t} ρ st:=by
 have:=K.step (K.inv.grow g z t) (Av.ev (P:=[]) (ρ:=ρ) g z)
 exact this
theorem Ev.only{hs h h':Heap}{ρs:List Addr}(x:Ev P hs ρs h ρ){S:List Addr}(y:Gg S h h') (n:∀q,q∈S->hs.objs.size<=q∨q∈ρs):Ev P hs ρs h' ρ where
 pre:=x.pre
 keep b o e n1 n2:=by
  obtain⟨o',e',q⟩:=x.keep b o e n1 n2;exact⟨o',y.1 b o' (λm=>(n b m).elim (λz=>Nat.lt_irrefl _ (Nat.lt_of_lt_of_le (Heap.lt_size e) z)) n1) e',q⟩
 newp:=x.newp
 size:=Nat.le_trans x.size y.2.1
theorem O1.keep{h':Heap}{ρ':List Addr}{q:Addr}(i:O1 G s.heap ρ q) (x:Ev P s.heap ρ h' ρ') (F:NT s.heap P):O1 G h' ρ' q/\h'.get? q=s.heap.get? q:=by
 apply yo;intro _ k0
 obtain⟨h1,h2,o,T,vs,ho,hc,hT,hd⟩:=i;obtain⟨o',ho',e⟩:=x.keep q o ho h2 (λm=>by
  obtain⟨o',ho',z⟩:=F q m;rw[ho]at ho';cases ho';rcases z with⟨_,_,z⟩|⟨_,z⟩|⟨_,_,z⟩
  ·rw[hd]at z;cases z
  ·rw[hd]at z;cases z
  ·rw[z]at hd;cases hd)
 have e':=e.eq (λes n z=>by rw[hd]at z;cases z)
 subst e';apply k0
 exact⟨⟨h1,x.notin ho h2,o',T,vs,ho',hc,hT,hd⟩,ho'.trans ho.symm⟩
end
inductive Yl (s s':Shared):Prop
 |mk (h':Heap) (tk:Nat) (e:s'={s with heap:=h',toks:=tk}) (g:Av s.heap h')
inductive zEg {α β:Type}(o:Gq β) (st:St) (s:Shared) (ρ:List Addr) (R:Heap->List Addr->β->α->Prop) (v:α) (s':Shared):Prop
 |mk (d:β) (e:o=.ok d st) (g:Yl s s') (r:R s'.heap ρ d v)
inductive Fh {α β:Type}(G:Gd) (s:Shared) (ρ:List Addr) (st:St) (R:Heap->List Addr->β->α->Prop) (r:Gq β) (v:α) (s':Shared):Prop
 |mk (ρ':List Addr) (d:β) (σ':Bp):r=.ok d ⟨st.loc,σ'⟩->Ci G s' ρ' σ'->Ev [] s.heap ρ s'.heap ρ'->R s'.heap ρ' d v->Fh G s ρ st R r v s'
theorem Fh.elim{α β:Type}{G:Gd}{s s':Shared}{ρ:List Addr}{st:St}{R:Heap->List Addr->β->α->Prop}{r:Gq β}{v:α}{P:Prop}(q:Fh G s ρ st R r v s') (h:∀ρ' d σ',r=.ok d ⟨st.loc,σ'⟩->Ci G s' ρ' σ'->Ev [] s.heap ρ s'.heap ρ'->R s'.heap ρ' d v->P):P:=
 let⟨ρ',d,σ',e,I,x,rr⟩:=q;h ρ' d σ' e I x rr
theorem Fh.tr{α β:Type}{G:Gd}{s s1 s':Shared}{ρ ρ1:List Addr}{st:St}{σ1:Bp}{R:Heap->List Addr->β->α->Prop}{r:Gq β}{v:α}(q:Fh G s1 ρ1 ⟨st.loc,σ1⟩ R r v s') (x:Ev [] s.heap ρ s1.heap ρ1):Fh G s ρ st R r v s':=
 let⟨ρ',d,σ',e,I,x2,rr⟩:=q;⟨ρ',d,σ',e,I,x.trans x2,rr⟩
theorem Bc.imp{α β:Type}{G:Gd}{env:Env}{s s':Shared}{ρ:List Addr}{st:St}{r:Gq α}{r':Gq β}{x:Value}(q:Bc G env s ρ st r x s') (h:∀c st',r=.exc c st'->r'=.exc c st'):Bc G env s ρ st r' x s':=
 let⟨ρ',c,σ',a,e,q1,q2,q3,q4⟩:=q;⟨ρ',c,σ',a,h _ _ e,q1,q2,q3,q4⟩
theorem Bc.bnd{α β:Type}{G:Gd}{env:Env}{s s':Shared}{ρ:List Addr}{st:St}{m:Mn α}{f:α->Mn β}{x:Value}(q:Bc G env s ρ st (m st) x s'):Bc G env s ρ st (bnd m f st) x s':=q.imp λ_ _ e=>by simp only[Mine.Internal.bnd,e]
theorem Bc.tr{α:Type}{G:Gd}{env:Env}{s s1 s':Shared}{ρ ρ1:List Addr}{st:St}{σ1:Bp}{r:Gq α}{x:Value}(q:Bc G env s1 ρ1 ⟨st.loc,σ1⟩ r x s') (y:Ev [] s.heap ρ s1.heap ρ1):Bc G env s ρ st r x s':=
 let⟨ρ',c,σ',a,e,I,x2,ex,fl⟩:=q;⟨ρ',c,σ',a,e,I,y.trans x2,ex,fl.from y.size⟩
noncomputable def At {α β:Type}(G:Gd) (A:Around) (env:Env) (s:Shared) (ρ:List Addr) (st:St) (R:Heap->List Addr->β->α->Prop) (t:Sem α) (m:Mn β):Prop:=
 m st≠.bot->wpAny G.M A t (Fh G s ρ st R (m st)) (Bc G env s ρ st (m st)) s
noncomputable abbrev RV (G:Gd):Heap->List Addr->D->Value->Prop:=λh ρ d v=>C9 G h ρ d v
noncomputable abbrev RB:Heap->List Addr->Bool->Bool->Prop:=λ_ _ b c=>b=c
noncomputable abbrev zGQ (G:Gd):Heap->List Addr->List D->List Value->Prop:=λh ρ ds vs=>Au G h ρ ds vs
structure SE (G:Gd) (C:Cx) (e:Expr) (m:Mn D):Prop where
 run:∀A P env s ρ st,Ok G C A P env s ρ st->At G A env s ρ st (RV G) (eval e env) m
structure SB (G:Gd) (C:Cx) (e:Expr) (m:Mn Bool):Prop where
 run:∀A P env s ρ st,Ok G C A P env s ρ st->At G A env s ρ st RB (isTrue e env (eval e env)) m
structure SA (G:Gd) (C:Cx) (es:List Expr) (m:Mn (List D)):Prop where
 run:∀A P env s ρ st pos,Ok G C A P env s ρ st->At G A env s ρ st (zGQ G) (spliced (backTo pos (starEach es env))) m
section
variable {α β γ δ:Type}{G:Gd}{C:Cx}{A:Around}{P:List Addr}{env:Env}{s:Shared}{ρ:List Addr}{st:St}
theorem At.bind{R:Heap->List Addr->β->α->Prop}{R':Heap->List Addr->δ->γ->Prop}{t:Sem α}{m:Mn β}{k:α->Sem γ}{f:β->Mn δ}(K:Ok G C A P env s ρ st) (h1:At G A env s ρ st R t m)
  (h2:∀v s' ρ' d σ',Ok G C A P env s' ρ' ⟨st.loc,σ'⟩->Ev [] s.heap ρ s'.heap ρ'->R s'.heap ρ' d v->At G A env s' ρ' ⟨st.loc,σ'⟩ R' (k v) (f d)):
  At G A env s ρ st R' (t >>= k) (bnd m f):=λhb=>by
 refine wpAny_bind (wpAny_mono (h1 (An hb)) (λv s' q=>?_) λx s' q=>?_)
 ·refine Fh.elim q λρ' d σ' e I' x r=>?_
  have e':bnd m f st=f d ⟨st.loc,σ'⟩:=by simp only[bnd,e]
  rw[e']at hb ⊢;refine wpAny_mono (h2 v s' ρ' d σ' (K.step I' x) x r hb) (λw s'' q=>?_) λw s'' q=>?_
  ·exact Fh.tr q x
  ·exact Bc.tr q x
 ·exact Bc.bnd q
theorem At.hold{R:Heap->List Addr->β->α->Prop}{t:Sem α}{m:Mn β}{vs:List Value}(h:At G A env s ρ st R t m):At G A env s ρ st R (holding vs t) m:=λhb=>wpAny_holding (h hb)
theorem At.stand{R:Heap->List Addr->β->α->Prop}{t:Sem α}{m:Mn β}{p:Pos}(h:At G A env s ρ st R t m):At G A env s ρ st R (standAt p >>= λ_=>t) m:=λhb=>wpAny_bind (wpAny_standAt (h hb))
theorem At.ofEq{R:Heap->List Addr->β->α->Prop}{t t':Sem α}{m:Mn β}(e:t=t') (h:At G A env s ρ st R t' m):At G A env s ρ st R t m:=e▸h
theorem At.pure{R:Heap->List Addr->β->α->Prop}{d:β}{v:α}(K:Ok G C A P env s ρ st) (h:R s.heap ρ d v):At G A env s ρ st R (pure v) (ret1 d):=λ_=>wpAny_pure ⟨ρ,d,st.sto,rfl,K.inv,Ev.refl,h⟩
theorem At.leaf{R:Heap->List Addr->β->α->Prop}{t:Sem α}{m:Mn β}(h:m st≠.bot->wpAny G.M A t (zEg (m st) st s ρ R) (λ_ _=>False) s)
  (K:Ok G C A P env s ρ st):At G A env s ρ st R t m:=λhb=>by
 refine wpAny_mono (Nv (h hb)) (λv s' q=>?_) λ_ _ q=>q.2.elim
 obtain⟨z,d,e,⟨h',tk,rfl,g⟩,r⟩:=q;exact⟨ρ,d,st.sto,e,K.inv.grow g z tk,g.ev z,r⟩
theorem Av.same{s:Shared}{t:Nat}:Yl s {s with toks:=t}:=⟨s.heap,t,rfl,.refl _⟩
theorem Av.same0{s:Shared}:Yl s s:=⟨s.heap,s.toks,rfl,.refl _⟩
theorem At.map{R:Heap->List Addr->β->α->Prop}{R':Heap->List Addr->δ->γ->Prop}{t:Sem α}{m:Mn β}{f:β->δ}{g:α->γ}(h:At G A env s ρ st R t m)
  (hr:∀h ρ d v,R h ρ d v->R' h ρ (f d) (g v)):At G A env s ρ st R' (t >>= λv=>Pure.pure (g v)) (bnd m λd=>ret1 (f d)):=λhb=>by
 refine wpAny_bind (wpAny_mono (h (An hb)) (λv s' q=>?_) λx s' q=>?_)
 ·refine Fh.elim q λρ' d σ' e I' x r=>?_
  exact wpAny_pure ⟨ρ',f d,σ',by simp only[bnd,e,ret1],I',x,hr _ _ _ _ r⟩
 ·exact Bc.bnd q
end
noncomputable def A0 (i:Nat):Mn D:=λst=>match st.loc i with
 |some d=>.ok d st
 |none=>.bot
section
variable {G:Gd}{C:Cx}
theorem zD7{i:Int}{k:Nat}{pos:Pos}:SE G C (.Constant (.int i) k pos) (ret1 (.int i)):=.mk <| λA P env s ρ st K=>
 At.leaf (λ_=>wpAny_Constant_int ⟨_,rfl,Av.same,⟨_,rfl⟩⟩) K
theorem zDJ{x:Str}{k:Nat}{pos:Pos}:SE G C (.Constant (.str x) k pos) (ret1 (.str x)):=.mk <| λA P env s ρ st K=>
 At.leaf (λ_=>Calls.Constant_str ⟨_,rfl,Av.same,⟨_,rfl⟩⟩) K
theorem zBT{b:Bool}{k:Nat}{pos:Pos}:SE G C (.Constant (.bool b) k pos) (ret1 (.bool b)):=.mk <| λA P env s ρ st K=>At.pure K rfl
theorem zBl{k:Nat}{pos:Pos}:SE G C (.Constant .none k pos) (ret1 .none):=.mk <| λA P env s ρ st K=>At.pure K rfl
theorem Zj{i:Nat}{x:Str}{pos:Pos}(hi:C.tbl[i]? =some x) (hx:C.names.lookup x=some .local) (hd:(x==("__debug__":Str))=false):SE G C (.Name x pos) (A0 i):=.mk <| λA P env s ρ st K=>by
 refine At.leaf (λhb=>?_) K
 obtain⟨m,n,q⟩:=K.frm.ns
 cases e:st.loc i with
 |none=>exact absurd (by simp only[A0,e]) hb
 |some d=>
  obtain⟨v,e1,e2⟩:=q i x hi (K.sees.loc x hx) d e;exact wpAny_Name (wpAny_loadName_local K.frm.kind (K.sees.loc x hx) n e1 ⟨d,by simp only[A0,e],Av.same0,e2⟩) hd
theorem Ta{i:Nat}{x:Str}{pos:Pos}(hi:C.tbl[i]? =some x) (hx:C.names.lookup x=some .cell∨C.names.lookup x=some .free) (hd:(x==("__debug__":Str))=false) (hn:(x==("__classdict__":Str))=false):
  SE G C (.Name x pos) (A0 i):=.mk <| λA P env s ρ st K=>by
 refine At.leaf (λhb=>?_) K
 have hk:=hx.elim (λh=>Or.inl (K.sees.cell x h)) (K.sees.free x)
 obtain⟨c,e1,ov,n,q⟩:=K.frm.cell i x hi hk
 cases e:st.loc i with
 |none=>exact absurd (by simp only[A0,e]) hb
 |some d=>
  obtain⟨v,rfl,e2⟩:=q d e;refine wpAny_Name ?_ hd
  rcases hk with hk|hk
  ·exact wpAny_loadName_cell K.frm.kind hk e1 n ⟨d,by simp only[A0,e],Av.same0,e2⟩
  ·exact wpAny_loadName_free K.frm.kind hk e1 n ⟨d,by simp only[A0,e],Av.same0,e2⟩ hn
end
noncomputable def Gj (G:Gd) (op:Operator) (f:D->D->Mn D):Prop:=
 ∀C A P env s ρ st d1 d2 v1 v2,Ok G C A P env s ρ st->C9 G s.heap ρ d1 v1->C9 G s.heap ρ d2 v2->At G A env s ρ st (RV G) (binaryOp op v1 v2) (f d1 d2)
section
variable {G:Gd}{C:Cx}
theorem At.operate{α:Type}{A:Around}{env:Env}{s:Shared}{ρ:List Addr}{st:St}{R:Heap->List Addr->α->Value->Prop}{t:Sem Value}{m:Mn α}{vs:List Value}(h:At G A env s ρ st R t m):
  At G A env s ρ st R (operate vs t) m:=λhb Γ p hΓ=>by rw[Sem.wp_operate];exact h hb Γ p hΓ
theorem zDM{l r:Expr}{op:Operator}{pos:Pos}{m1 m2:Mn D}{f:D->D->Mn D}(ho:Gj G op f) (h1:SE G C l m1) (h2:SE G C r m2):
  SE G C (.BinOp l op r pos) (bnd m1 λa=>bnd m2 λb=>f a b):=.mk <| λA P env s ρ st K=>by
 show At G A env s ρ st (RV G) (do let a ←eval l env;let b ←holding [a] (eval r env);standAt pos;operate [a,b] (binaryOp op a b)) _
 refine At.bind K (h1.run A P env s ρ st K) λv s' ρ' d σ' K' x r1=>?_
 refine At.bind K' (h2.run A P env s' ρ' _ K').hold λv2 s'' ρ'' d2 σ'' K'' x2 r2=>?_
 exact At.stand (At.operate (ho C A P env s'' ρ'' _ d d2 v v2 K'' (C9.mono (x2.stb K'.inv .nil) _ _ r1) r2))
end
noncomputable def zBL (f:Int->Int->Mn D) (g:Str->Str->Mn D):D->D->Mn D
 |.int a,.int b=>f a b
 |.str x,.str y=>g x y
 |_,_=>botM
theorem Hl{f:Int->Int->Mn D}{g:Str->Str->Mn D}{d1 d2:D}{st:St}(hb:zBL f g d1 d2 st≠.bot):(∃a b,d1=.int a/\d2=.int b)∨∃x y,d1=.str x/\d2=.str y:=by
 cases d1 with
 |int a=>cases d2<;>first|exact .inl ⟨_,_,rfl,rfl⟩|exact absurd rfl hb
 |str x=>cases d2<;>first|exact .inr ⟨_,_,rfl,rfl⟩|exact absurd rfl hb
 |_=>exact absurd rfl hb
noncomputable def zFd:Str->Str->Mn D:=λ_ _=>botM
noncomputable def M7:D->D->Mn D:=zBL (λa b=>ret1 (.int (a - b))) zFd
noncomputable def Hk:D->D->Mn D:=zBL (λa b=>if b≠0/\b.natAbs<1073741824 then ret1 (.int (a.fdiv b))else botM) zFd
noncomputable def zEd:D->Option Nat
 |.ref k=>some k
 |_=>none
theorem Mt{d:D}{k:Nat}(h:zEd d=some k):d=.ref k:=by cases d<;>first|(cases h;done)|(cases h;rfl)
noncomputable def zDF:Option PO->Option (List D)
 |some (.list a)=>some a
 |_=>none
theorem Np{o:Option PO}{a:List D}(h:zDF o=some a):o=some (.list a):=by
 cases o with
 |none=>cases h
 |some o=>cases o<;>first|(cases h;done)|(cases h;rfl)
noncomputable def Hi {α:Type}(o:Option PO) (f:List D->Gq α):Gq α:=match o with
 |some (.list ds)=>f ds
 |_=>.bot
theorem Fe{P:Prop}{α:Type}{o:Option PO}{f:List D->Gq α}(hb:Hi o f≠.bot) (w:∀ds,o=some (.list ds)->Hi o f=f ds->P):P:=by
 cases o with
 |none=>exact absurd rfl hb
 |some o=>cases o<;>first|exact absurd rfl hb|exact w _ rfl rfl
theorem K8{P:Prop}{G:Gd}{h:Heap}{ρ:List Addr}{k:Nat}{v:Value}(r:C9 G h ρ (.ref k) v) (w:∀a,v=.ref a->ρ[k]? =some a->P):P:=by
 obtain⟨a,e,q⟩:=r;exact w a e q
theorem Qa{P:Prop}{G:Gd}{h:Heap}{ρ:List Addr}{ds:List D}{v:Value}(r:C9 G h ρ (.tup ds) v) (w:∀a vs n,v=.ref a->a∉ρ->h.get? a=some (Sf vs n)->Au G h ρ ds vs.toList->P):P:=by
 obtain⟨a,vs,e,hn,⟨n,ho⟩,q⟩:=r;exact w a vs n e hn ho q
theorem zB3{P:Prop}{G:Gd}{h:Heap}{ρ:List Addr}{i:Int}{v:Value}(r:C9 G h ρ (.int i) v) (w:∀t,v=.int i t->P):P:=by
 obtain⟨t,e⟩:=r;exact w t e
theorem Gy{P:Prop}{G:Gd}{s:Shared}{ρ:List Addr}{σ:Bp}{k:Nat}{a:Addr}{ds:List D}(I:Ci G s ρ σ) (e:ρ[k]? =some a) (q:σ[k]? =some (.list ds)) (w:∀vs n,s.heap.get? a=some (F6 vs n)->Au G s.heap ρ ds vs.toList->P):P:=by
 obtain⟨vs,⟨n,h⟩,r⟩:=I.sto k a _ e q;exact w vs n h r
noncomputable def B9 (loc:Be) (i:Nat) (d:D):Be:=λj=>if j=i then some d else loc j
noncomputable def Af (i:Nat) (d:D):Mn Fl:=λst=>.ok .next ⟨B9 st.loc i d,st.sto⟩
noncomputable def Wr (env:Env) (P:List Addr):Prop:=∀x c,env.cells.lookup x=some c->c∈P
noncomputable def zGK (G:Gd) (h:Heap) (ρ:List Addr):Fl->Flow->Prop
 |.next,f=>f=.next
 |.brk,f=>f=.brk
 |.cont,f=>f=.cont
 |.ret d,f=>∃v,f=.ret v/\C9 G h ρ d v
inductive zGO (G:Gd) (tbl:List Str) (P:List Addr) (env:Env) (s:Shared) (ρ:List Addr) (r:Gq Fl) (f:Flow) (s':Shared):Prop
 |mk (ρ':List Addr) (fl:Fl) (st':St):r=.ok fl st'->Ci G s' ρ' st'.sto->Ev P s.heap ρ s'.heap ρ'->Hg G tbl P env s'.heap ρ' st'.loc->zGK G s'.heap ρ' fl f->zGO G tbl P env s ρ r f s'
inductive zAD (G:Gd) (tbl:List Str) (P:List Addr) (env:Env) (s:Shared) (ρ:List Addr) (r:Gq Fl) (x:Value) (s':Shared):Prop
 |mk (ρ':List Addr) (c:Addr) (st':St) (a:Addr):r=.exc c st'->Ci G s' ρ' st'.sto->Ev P s.heap ρ s'.heap ρ'->Hg G tbl P env s'.heap ρ' st'.loc->x=.ref a->Wb s.heap.objs.size s'.heap env.frame a c->zAD G tbl P env s ρ r x s'
theorem Bc.toS{α:Type}{G:Gd}{C:Cx}{A:Around}{P:List Addr}{env:Env}{s s':Shared}{ρ:List Addr}{st:St}{m:Mn α}{f:α->Mn Fl}{x:Value}(K:Ok G C A P env s ρ st) (q:Bc G env s ρ st (m st) x s'):zAD G C.tbl P env s ρ (Mine.Internal.bnd m f st) x s':=
 let⟨ρ',c,σ',a,e,I',x',ex,fl⟩:=q;⟨ρ',c,⟨st.loc,σ'⟩,a,by simp only[Mine.Internal.bnd,e],I',x'.nil,K.frm.keep K.inv x',ex,fl⟩
noncomputable def Vi (G:Gd) (tbl:List Str) (A:Around) (P:List Addr) (env:Env) (s:Shared) (ρ:List Addr) (st:St) (t:Sem Flow) (m:Mn Fl):Prop:=
 m st≠.bot->wpAny G.M A t (zGO G tbl P env s ρ (m st)) (zAD G tbl P env s ρ (m st)) s
structure SS (G:Gd) (C:Cx) (t:Stmt) (m:Mn Fl):Prop where
 run:∀A P env s ρ st,Ok G C A P env s ρ st->Wr env P->Vi G C.tbl A P env s ρ st (exec t env) m
structure Uc (G:Gd) (C:Cx) (t:List Stmt) (m:Mn Fl):Prop where
 run:∀A P env s ρ st,Ok G C A P env s ρ st->Wr env P->Vi G C.tbl A P env s ρ st (execs t env) m
section
variable {G:Gd}{C:Cx}{A:Around}{P:List Addr}{env:Env}{s:Shared}{ρ:List Addr}{st:St}{σ:Bp}
theorem Ok.stepS(K:Ok G C A P env s ρ st){s':Shared}{ρ':List Addr}{st':St}(I':Ci G s' ρ' st'.sto) (x:Ev P s.heap ρ s'.heap ρ') (F':Hg G C.tbl P env s'.heap ρ' st'.loc):Ok G C A P env s' ρ' st':=
 ⟨K.room,K.sees,I',F',⟨K.stk.fr,λfs e=>(K.stk.ff fs e).keepF x K.frm F'⟩,K.code,K.qual⟩
theorem Nb(I:Ci G s ρ σ){p:Addr}{h':Heap}(hs:Heap.SameBut p s.heap h') (hp:p∈P) (h0:G.h0.get? p=none) (hr:p∉ρ)
  (hn:∃o,s.heap.get? p=some o/\((∃es n,o.data=.dict es n)∨∃v,o.data=.cell v)) (t:Nat):
  Ci G {s with heap:=h',toks:=t} ρ σ/\Ev P s.heap ρ h' ρ/\Jg s.heap ρ h' ρ:=by
 have keep:∀b o,b≠p->s.heap.get? b=some o->h'.get? b=some o:=λb o n e=>(hs.2 b n).trans e
 have hz:s.heap.objs.size<=h'.objs.size:=Nat.le_of_eq hs.1.symm
 obtain⟨op,hop,hd⟩:=hn;have S:Jg s.heap ρ h' ρ:=⟨λ_ _ e=>e,λb items n1 t=>by
   obtain⟨n,ho⟩:=t;refine⟨n1,n,keep b _ (λe=>?_) ho⟩
   rw[e,hop]at ho;cases ho;rcases hd with⟨_,_,z⟩|⟨_,z⟩<;>(cases z),λb c n1 t=>by
   apply yo;intro _ k0
   obtain⟨o,ho,hc,vs,hd'⟩:=t;apply k0
   refine⟨n1,o,keep b o (λe=>?_) ho,hc,vs,hd'⟩
   rw[e,hop]at ho;cases ho;rw[hd']at hd;rcases hd with⟨_,_,z⟩|⟨_,z⟩<;>cases z⟩
 refine⟨⟨λb o e=>keep b o (λq=>by rw[q,h0]at e;cases e) (I.base b o e),I.new,I.nodup,I.len,λk a o e1 e2=>?_,I.os,I.gens⟩,⟨λ_ _ e=>e,λb o e n n2=>⟨o,keep b o (λq=>n2 (q▸hp)) e,.refl o⟩,λ_ m=>.inl m,hz⟩,S⟩
 exact(I.sto k a o e1 e2).mono S (λo ho=>keep a o (λq=>hr (q▸List.mem_of_getElem? e1)) ho) hz
theorem Hg.set_local{tbl:List Str}{loc:Be}(F:Hg G tbl P env s.heap ρ loc) (I:Ci G s ρ σ){i:Nat}{x:Str}{d:D}{v:Value}{m:Str->Option Value}{h':Heap}(hi:tbl[i]? =some x) (hx:env.kindOf x=some .local)
  (hm:s.heap.Ns env.locals m) (q:∀(i:Nat) (x:Str),tbl[i]? =some x->env.kindOf x=some .local->∀d,loc i=some d->∃v,m x=some v/\C9 G s.heap ρ d v)
  (hn:h'.Ns env.locals (λy=>if y=x then some v else m y)) (hs:Heap.SameBut env.locals s.heap h') (r:C9 G s.heap ρ d v) (t:Nat):
  Ci G {s with heap:=h',toks:=t} ρ σ/\Ev P s.heap ρ h' ρ/\Hg G tbl P env h' ρ (B9 loc i d):=by
 have own:=F.own _ F.lP;apply yo;intro _ k0
 obtain⟨oL,esL,epL,hoL,hdL,rL⟩:=id hm;obtain⟨oN,esN,epN,hoN,hdN,rN⟩:=id hn;obtain⟨I',x',S⟩:=Nb (P:=P) I hs F.lP own.1 F.lrho ⟨oL,hoL,.inl ⟨esL,epL,hdL⟩⟩ t
 apply k0
 have cellne:∀y c,env.cells.lookup y=some c->c≠env.locals:=λy c e z=>by
  obtain⟨_,ov,o,ho,hd⟩:=F.cok y c e;rw[z,hoL]at ho;cases ho;rw[hdL]at hd;cases hd
 refine⟨I',x',⟨F.kind,F.glob,F.bi,⟨_,hn,λj y e k d' hd'=>?_⟩,λj y e k=>?_,λy c e=>?_,F.cinj,F.lrho,F.lP,F.own,F.tnd⟩⟩
 ·by_cases hj:j=i
  ·subst hj;rw[hi]at e;cases e;simp only[B9,if_true]at hd'
   cases hd';exact⟨v,by simp,C9.mono S _ _ r⟩
  ·simp only[B9,hj,if_false]at hd';obtain⟨v',e1,e2⟩:=q j y e k d' hd';have hy:y≠x:=λz=>hj (Bj F.tnd (z▸e) hi)
   exact⟨v',by simp only[hy,if_false];exact e1,C9.mono S _ _ e2⟩
 ·obtain⟨c,e1,ov,n,qq⟩:=F.cell j y e k;refine⟨c,e1,ov,n.sameBut hs (cellne y c e1),λd' hd'=>?_⟩
  have hj:j≠i:=λz=>by
   subst z;rw[hi]at e;cases e;rw[hx]at k;rcases k with k|k<;>cases k
  simp only[B9,hj,if_false]at hd';obtain⟨v',e1,e2⟩:=qq d' hd';exact⟨v',e1,C9.mono S _ _ e2⟩
 ·obtain⟨n,ov,z⟩:=F.cok y c e;exact⟨n,ov,z.sameBut hs (cellne y c e)⟩
theorem Hg.set_cell{tbl:List Str}{loc:Be}(F:Hg G tbl P env s.heap ρ loc) (I:Ci G s ρ σ){i:Nat}{x:Str}{d:D}{v:Value}{c:Addr}{h':Heap}(hi:tbl[i]? =some x) (hx:env.kindOf x=some .cell)
  (hc:env.cells.lookup x=some c) (hP:c∈P) (hn:h'.IsCell c (some v)) (hs:Heap.SameBut c s.heap h') (r:C9 G s.heap ρ d v) (t:Nat):
  Ci G {s with heap:=h',toks:=t} ρ σ/\Ev P s.heap ρ h' ρ/\Hg G tbl P env h' ρ (B9 loc i d):=by
 have own:=F.own _ hP;apply yo;intro _ k0
 obtain⟨n0,ov0,o0,ho0,hd0⟩:=F.cok x c hc;obtain⟨oN,hoN,hdN⟩:=id hn;obtain⟨I',x',S⟩:=Nb (P:=P) I hs hP own.1 n0 ⟨o0,ho0,.inr ⟨ov0,hd0⟩⟩ t
 obtain⟨m,nm,q⟩:=F.ns;apply k0
 have lne:env.locals≠c:=λz=>by
  obtain⟨oL,esL,epL,hoL,hdL,rL⟩:=nm;rw[z,ho0]at hoL;cases hoL;rw[hdL]at hd0;cases hd0
 refine⟨I',x',⟨F.kind,F.glob,F.bi,⟨m,nm.sameBut hs lne,λj y e k d' hd'=>?_⟩,λj y e k=>?_,λy c' e=>?_,F.cinj,F.lrho,F.lP,F.own,F.tnd⟩⟩
 ·have hj:j≠i:=λz=>by
   subst z;rw[hi]at e;cases e;rw[hx]at k;cases k
  simp only[B9,hj,if_false]at hd';obtain⟨v',e1,e2⟩:=q j y e k d' hd';exact⟨v',e1,C9.mono S _ _ e2⟩
 ·by_cases hj:j=i
  ·subst hj;rw[hi]at e;cases e;refine⟨c,hc,some v,hn,λd' hd'=>?_⟩
   simp only[B9,if_true]at hd'
   cases hd';exact⟨v,rfl,C9.mono S _ _ r⟩
  ·apply yo;intro _ k0
   obtain⟨c',e1,ov,n,qq⟩:=F.cell j y e k;apply k0
   have hy:y≠x:=λz=>hj (Bj F.tnd (z▸e) hi)
   have hcc:c'≠c:=λz=>hy (F.cinj y x c (z▸e1) hc)
   refine⟨c',e1,ov,n.sameBut hs hcc,λd' hd'=>?_⟩
   simp only[B9,hj,if_false]at hd';obtain⟨v',e1,e2⟩:=qq d' hd';exact⟨v',e1,C9.mono S _ _ e2⟩
 ·obtain⟨n,ov,z⟩:=F.cok y c' e;by_cases hcc:c'=c
  ·subst hcc;exact⟨n,_,hn⟩
  ·exact⟨n,ov,z.sameBut hs hcc⟩
theorem Vi.bind{α β:Type}{R:Heap->List Addr->β->α->Prop}{t:Sem α}{m:Mn β}{k:α->Sem Flow}{f:β->Mn Fl}(K:Ok G C A P env s ρ st) (h1:At G A env s ρ st R t m)
  (h2:∀v s' ρ' d σ',Ok G C A P env s' ρ' ⟨st.loc,σ'⟩->Ev [] s.heap ρ s'.heap ρ'->R s'.heap ρ' d v->Vi G C.tbl A P env s' ρ' ⟨st.loc,σ'⟩ (k v) (f d)):
  Vi G C.tbl A P env s ρ st (t >>= k) (bnd m f):=λhb=>by
 refine wpAny_bind (wpAny_mono (h1 (An hb)) (λv s' q=>?_) λx s' q=>?_)
 ·refine Fh.elim q λρ' d σ' e I' x r=>?_
  have e':bnd m f st=f d ⟨st.loc,σ'⟩:=by simp only[bnd,e]
  rw[e']at hb ⊢;refine wpAny_mono (h2 v s' ρ' d σ' (K.step I' x) x r hb) (λw s'' q=>?_) λw s'' q=>?_
  ·obtain⟨ρ'',fl,st'',e2,I'',x2,F2,r2⟩:=q;exact⟨ρ'',fl,st'',e2,I'',x.nil.trans x2,F2,r2⟩
  ·obtain⟨ρ'',c,st'',a,e2,I'',x2,F2,rfl,fl⟩:=q;exact⟨ρ'',c,st'',a,e2,I'',x.nil.trans x2,F2,rfl,fl.from x.size⟩
 ·exact Bc.toS K q
theorem Vi.stand{t:Sem Flow}{m:Mn Fl}{p:Pos}{tbl:List Str}(h:Vi G tbl A P env s ρ st t m):Vi G tbl A P env s ρ st (standAt p >>= λ_=>t) m:=λhb=>wpAny_bind (wpAny_standAt (h hb))
noncomputable def Ae (m1 m2:Mn Fl):Mn Fl:=bnd m1 λfl=>match fl with
 |.next=>m2
 |f=>ret1 f
noncomputable def Iv (c:Mn Bool) (m1 m2:Mn Fl):Mn Fl:=bnd c λb=>if b then m1 else m2
theorem zEF:Uc G C [] (ret1 .next):=.mk <| λA P env s ρ st K W hb=>wpAny_execs_nil ⟨ρ,.next,st,rfl,K.inv,Ev.refl,K.frm,rfl⟩
theorem zC2{t:Stmt}{ts:List Stmt}{m1 m2:Mn Fl}(h1:SS G C t m1) (h2:Uc G C ts m2):Uc G C (t::ts) (Ae m1 m2):=.mk <| λA P env s ρ st K W hb=>by
 refine wpAny_execs_cons (wpAny_mono (h1.run A P env s ρ st K W (An hb)) (λf s' q=>?_) λx s' q=>?_)
 ·obtain⟨ρ',fl,st',e,I',x,F',r⟩:=q;have K':=K.stepS I' x F'
  cases fl with
  |next=>
   have e':Ae m1 m2 st=m2 st':=by simp only[Ae,bnd,e]
   cases(show f=.next from r)
   rw[e']at hb ⊢;refine wpAny_mono (h2.run A P env s' ρ' st' K' W hb) (λw s'' q=>?_) λw s'' q=>?_
   ·obtain⟨ρ'',fl,st'',e2,I'',x2,F2,r2⟩:=q;exact⟨ρ'',fl,st'',e2,I'',x.trans x2,F2,r2⟩
   ·obtain⟨ρ'',c,st'',a,e2,I'',x2,F2,rfl,fl⟩:=q;exact⟨ρ'',c,st'',a,e2,I'',x.trans x2,F2,rfl,fl.from x.size⟩
  |brk=>cases(show f=.brk from r);exact⟨ρ',.brk,st',by simp only[Ae,bnd,e,ret1],I',x,F',rfl⟩
  |cont=>cases(show f=.cont from r);exact⟨ρ',.cont,st',by simp only[Ae,bnd,e,ret1],I',x,F',rfl⟩
  |ret d=>
   obtain⟨v,rfl,r⟩:=r;exact⟨ρ',.ret d,st',by simp only[Ae,bnd,e,ret1],I',x,F',v,rfl,r⟩
 ·obtain⟨ρ',c,st',a,e,I',x,F',rfl,fl⟩:=q;exact⟨ρ',c,st',a,by simp only[Ae,bnd,e],I',x,F',rfl,fl⟩
theorem Uw{e:Expr}{pos:Pos}{m:Mn D}(h:SE G C e m):SS G C (.Return (some e) pos) (bnd m λd=>ret1 (.ret d)):=.mk <| λA P env s ρ st K W=>by
 show Vi G C.tbl A P env s ρ st (do standAt pos;return .ret (←eval e env)) _
 refine Vi.stand (Vi.bind K (h.run A P env s ρ st K) λv s' ρ' d σ' K' x r hb=>?_)
 exact wpAny_pure ⟨ρ',.ret d,_,rfl,K'.inv,Ev.refl,K'.frm,v,rfl,r⟩
theorem zBd{pos:Pos}:SS G C (.Pass pos) (ret1 .next):=.mk <| λA P env s ρ st K W hb=>wpAny_Pass ⟨ρ,.next,st,rfl,K.inv,Ev.refl,K.frm,rfl⟩
theorem zAI{pos:Pos}:SS G C (.Break pos) (ret1 .brk):=.mk <| λA P env s ρ st K W hb=>wpAny_bind (wpAny_standAt (wpAny_pure ⟨ρ,.brk,st,rfl,K.inv,Ev.refl,K.frm,rfl⟩))
theorem Rf{pos:Pos}:SS G C (.Continue pos) (ret1 .cont):=.mk <| λA P env s ρ st K W hb=>wpAny_bind (wpAny_standAt (wpAny_pure ⟨ρ,.cont,st,rfl,K.inv,Ev.refl,K.frm,rfl⟩))
theorem zFL{c:Expr}{b1 b2:List Stmt}{pos:Pos}{mc:Mn Bool}{m1 m2:Mn Fl}(hc:SB G C c mc) (h1:Uc G C b1 m1) (h2:Uc G C b2 m2):SS G C (.If c b1 b2 pos) (Iv mc m1 m2):=.mk <| λA P env s ρ st K W=>by
 refine Vi.stand (Vi.bind K (hc.run A P env s ρ st K) λv s' ρ' d σ' K' x r=>?_)
 cases(show d=v from r)
 cases v with
 |true=>exact h1.run A P env s' ρ' _ K' W
 |false=>exact h2.run A P env s' ρ' _ K' W
theorem Nr{i:Nat}{x:Str}{d:D}{v:Value}(K:Ok G C A P env s ρ st) (hi:C.tbl[i]? =some x) (hx:C.names.lookup x=some .local) (r:C9 G s.heap ρ d v){Q:Unit->Shared->Prop}{E:Value->Shared->Prop}
  (h:∀s',Ci G s' ρ st.sto->Ev P s.heap ρ s'.heap ρ->Hg G C.tbl P env s'.heap ρ (B9 st.loc i d)->Q () s'):wpAny G.M A (storeName env x v) Q E s:=by
 obtain⟨m,n,q⟩:=K.frm.ns;refine wpAny_storeName_local (K.sees.loc x hx) n (λh' hn hs=>?_) (by rw[K.frm.kind];rfl)
 obtain⟨I',x',F'⟩:=K.frm.set_local K.inv hi (K.sees.loc x hx) n q hn hs r (s.toks+1)
 exact h _ I' x' F'
theorem Ol{i:Nat}{x:Str}{d:D}{v:Value}(K:Ok G C A P env s ρ st) (W:Wr env P) (hi:C.tbl[i]? =some x) (hx:env.kindOf x=some .cell) (r:C9 G s.heap ρ d v){Q:Unit->Shared->Prop}{E:Value->Shared->Prop}
  (h:∀s',Ci G s' ρ st.sto->Ev P s.heap ρ s'.heap ρ->Hg G C.tbl P env s'.heap ρ (B9 st.loc i d)->Q () s'):wpAny G.M A (storeName env x v) Q E s:=by
 apply yo;intro _ k0
 obtain⟨c,e1,ov,n,q⟩:=K.frm.cell i x hi (.inl hx);apply k0
 refine wpAny_storeName_cell K.frm.kind hx e1 n λh' hn hs=>?_
 obtain⟨I',x',F'⟩:=K.frm.set_cell K.inv hi hx e1 (W x c e1) hn hs r s.toks;exact h _ I' x' F'
theorem W9{i:Nat}{x:Str}{e:Expr}{np pos:Pos}{m:Mn D}(hi:C.tbl[i]? =some x) (hx:C.names.lookup x=some .local) (h:SE G C e m)
  (hs:∀env:Env,swapsWith e (some (.Name x np)) pos.line env=pure false):SS G C (.Assign [.Name x np] e pos) (bnd m (Af i)):=.mk <| λA P env s ρ st K W hb=>by
 refine wpAny_Assign_Name ?_ (hs env)
 refine wpAny_mono (h.run A P env s ρ st K (An hb)) (λv s' q=>?_) λx s' q=>?_
 ·refine Fh.elim q λρ' d σ' e I' x' r=>?_
  have K':=K.step I' x';refine Nr K' hi hx r λs'' I'' x'' F''=>?_
  exact⟨ρ',.next,⟨B9 st.loc i d,σ'⟩,by simp only[bnd,e,Af],I'',x'.nil.trans x'',F'',rfl⟩
 ·exact Bc.toS K q
theorem Nx{i:Nat}{x:Str}{e:Expr}{np pos:Pos}{m:Mn D}(hi:C.tbl[i]? =some x) (hx:C.names.lookup x=some .cell) (h:SE G C e m)
  (hs:∀env:Env,env.kindOf x=some .cell->swapsWith e (some (.Name x np)) pos.line env=pure false):SS G C (.Assign [.Name x np] e pos) (bnd m (Af i)):=.mk <| λA P env s ρ st K W hb=>by
 refine wpAny_Assign_Name ?_ (hs env (K.sees.cell x hx))
 refine wpAny_mono (h.run A P env s ρ st K (An hb)) (λv s' q=>?_) λx s' q=>?_
 ·refine Fh.elim q λρ' d σ' e I' x' r=>?_
  have K':=K.step I' x';refine Ol K' W hi (K.sees.cell x hx) r λs'' I'' x'' F''=>?_
  exact⟨ρ',.next,⟨B9 st.loc i d,σ'⟩,by simp only[bnd,e,Af],I'',x'.nil.trans x'',F'',rfl⟩
 ·exact Bc.toS K q
end
inductive zG1 (n:Nat) (h':Heap) (b:Addr) (o:Obj):Prop
 |mk (hn:n≤b) (hf:(∃vs,o.data=.fields vs)∧(o.cls=.type "traceback"∨∃c,o.cls=.ref c)) (o':Obj) (ho:h'.get? b=some o') (hc:o'.cls=o.cls∧o'.dict=o.dict) (hd:∃vs,o'.data=.fields vs)
inductive zG5 (G:Gd) (ρ:List Addr) (h':Heap) (b:Addr) (o:Obj):Prop
 |mk (o':Obj) (ho:h'.get? b=some o') (hs:Ez o o') (hk:G.h0.get? b≠none∨b∈ρ->o'=o)
noncomputable def Bb (G:Gd) (n:Nat) (ρ:List Addr) (h h':Heap):Prop:=
 (∀b o,h.get? b=some o->zG1 n h' b o∨zG5 G ρ h' b o)/\h.objs.size<=h'.objs.size
section
variable {G:Gd}{C:Cx}{A:Around}{P:List Addr}{env:Env}{s:Shared}{ρ ρs:List Addr}{σ:Bp}{n:Nat}{hs h h' h'':Heap}{tbl:List Str}{loc:Be}
theorem Ie(o:Obj) (g:Array Value->Array Value):(Obj.mapFields g o).dict=o.dict:=by
 unfold Obj.mapFields;split<;>rfl
theorem Bb.refl:Bb G n ρ h h:=⟨λb o e=>.inr ⟨o,e,.refl o,λ_=>rfl⟩,Nat.le_refl _⟩
theorem Bb.trans(x:Bb G n ρ h h') (y:Bb G n ρ h' h''):Bb G n ρ h h'':=⟨λb o e=>by
 apply yo;intro _ k0
 rcases x.1 b o e with⟨n,⟨⟨vs,hd⟩,hc⟩,o',e',c',vs',d'⟩|⟨o',e',q,z⟩
 ·rcases y.1 b o' e' with⟨_,_,o'',e'',c'',d''⟩|⟨o'',e'',q,_⟩
  ·apply k0
   exact .inl ⟨n,⟨⟨vs,hd⟩,hc⟩,o'',e'',⟨c''.1.trans c'.1,c''.2.trans c'.2⟩,d''⟩
  ·apply k0
   exact .inl ⟨n,⟨⟨vs,hd⟩,hc⟩,o'',e'',⟨q.1.trans c'.1,q.2.2.1.trans c'.2⟩,vs',q.2.1.trans d'⟩
 ·rcases y.1 b o' e' with⟨n,⟨⟨vs,hd⟩,hc⟩,o'',e'',c'',d''⟩|⟨o'',e'',q',z'⟩
  ·apply k0
   exact .inl ⟨n,⟨⟨vs,q.2.1▸hd⟩,q.1▸hc⟩,o'',e'',⟨c''.1.trans q.1,c''.2.trans q.2.2.1⟩,d''⟩
  ·apply k0
   exact .inr ⟨o'',e'',q.trans q',λn=>(z' n).trans (z n)⟩,Nat.le_trans x.2 y.2⟩
theorem Bb.grow(g:Av h h') (z:h.objs.size<=h'.objs.size):Bb G n ρ h h':=⟨λb o e=>.inr ⟨o,g b o e,.refl o,λ_=>rfl⟩,z⟩
theorem Bb.slots{S:List Addr}(x:Heap.SlotsOnly S h h') (f:∀b,b∈S->(G.h0.get? b=none/\b∉ρ)/\∃o es n,h.get? b=some o/\o.data=.dict es n):Bb G n ρ h h':=⟨λb o e=>by
 apply yo;intro _ k0
 by_cases m:b∈S
 ·obtain⟨⟨h0,hr⟩,o',es,n,e',hd⟩:=f b m;rw[e]at e';cases e';obtain⟨sl,e''⟩:=x.2.2 b o e;apply k0
  exact .inr ⟨_,e'',⟨rfl,rfl,rfl,.inl ⟨es,n,hd⟩⟩,λz=>z.elim (absurd h0) λm=>absurd m hr⟩
 ·apply k0
  exact .inr ⟨o,(x.2.1 b m).trans e,.refl o,λ_=>rfl⟩,Nat.le_of_eq x.1.symm⟩
theorem Bb.fields{q:Addr}{o:Obj}{vs:Array Value}{g:Array Value→Array Value}(e:h.get? q=some o) (hd:o.data=.fields vs) (hc:o.cls=.type "traceback"∨∃c,o.cls=.ref c) (hn:n≤q):
  Bb G n ρ h (h.update q (Obj.mapFields g)):=⟨λb o' e'=>by
 by_cases m:b=q
 ·subst m;rw[e]at e';cases e';have hd':=Obj.data_mapFields hd g;exact .inl ⟨hn,⟨⟨vs,hd⟩,hc⟩,_,Heap.get?_update_self _ e (Obj.isFreed_of_fields hd'),⟨Obj.cls_mapFields ..,Ie ..⟩,_,hd'⟩
 ·exact .inr ⟨o',(Heap.get?_update_other h _ (Ne.symm m)).trans e',.refl _,λ_=>rfl⟩,by rw[Heap.size_after_update];exact Nat.le_refl _⟩
theorem Bb.stb(x:Bb G n ρ h h'):Jg h ρ h' ρ:=⟨λ_ _ e=>e,λa items n1 t=>by
  obtain⟨n,e⟩:=t;rcases x.1 a _ e with⟨_,⟨⟨vs,hd⟩,_⟩,_⟩|⟨o',e',q,_⟩
  ·cases hd
  ·rw[q.eq (λ_ _ z=>by cases z)]at e';exact⟨n1,n,e'⟩,λa c n1 t=>by
  obtain⟨o,e,hc,vs,hd⟩:=t;rcases x.1 a o e with⟨_,_,o',e',c',d'⟩|⟨o',e',q,_⟩
  ·exact⟨n1,o',e',⟨c'.1.trans hc.1,c'.2.trans hc.2⟩,d'⟩
  ·exact⟨n1,o',e',⟨q.1.trans hc.1,q.2.2.1.trans hc.2⟩,vs,q.2.1.trans hd⟩⟩
theorem Bb.ns(x:Bb G n ρ h h'){L:Addr}{m:Str->Option Value}(n:h.Ns L m):h'.Ns L m:=by
 apply yo;intro _ k0
 obtain⟨o,es,ep,e,hd,r⟩:=n;rcases x.1 L o e with⟨_,⟨⟨vs,hd'⟩,_⟩,_⟩|⟨o',e',q,_⟩
 ·rw[hd]at hd';cases hd'
 ·apply k0
  exact⟨o',es,ep,e',q.2.1.trans hd,r⟩
theorem Bb.cell(x:Bb G n ρ h h'){c:Addr}{ov:Option Value}(n:h.IsCell c ov):h'.IsCell c ov:=by
 apply yo;intro _ k0
 obtain⟨o,e,hd⟩:=n;rcases x.1 c o e with⟨_,⟨⟨vs,hd'⟩,_⟩,_⟩|⟨o',e',q,_⟩
 ·rw[hd]at hd';cases hd'
 ·apply k0
  exact⟨o',e',q.2.1.trans hd⟩
theorem Bb.inv(x:Bb G n ρ s.heap h') (I:Ci G s ρ σ) (hb:∀b,n<=b->G.h0.get? b=none) (t:Nat):Ci G {s with heap:=h',toks:=t} ρ σ where
 base b o e:=by
  rcases x.1 b o (I.base b o e)with⟨n,_⟩|⟨o',e',q,z⟩
  ·rw[hb b n]at e;cases e
  ·rw[z (.inl (by rw[e];intro z;cases z))]at e';exact e'
 new:=I.new
 nodup:=I.nodup
 len:=I.len
 sto k a p e1 e2:=by
  have r:=I.sto k a p e1 e2
  cases p with
  |list ds=>
   obtain⟨vs,⟨n,e⟩,r⟩:=r;rcases x.1 a _ e with⟨_,⟨⟨vs,hd⟩,_⟩,_⟩|⟨o',e',q,_⟩
   ·cases hd
   ·rw[q.eq (λ_ _ z=>by cases z)]at e'
    exact⟨vs,⟨n,e'⟩,Au.mono x.stb _ _ r⟩
  |dict kvs=>
   apply yo;intro _ k0
   obtain⟨xs,⟨o,es,ep,ho,hx,hd,he,hi,hn⟩,hs,e,r⟩:=r;apply k0
   rcases x.1 a _ ho with⟨_,⟨⟨vs,hd'⟩,_⟩,_⟩|⟨o',e',_,q⟩
   ·rw[hd]at hd';cases hd'
   ·rw[q (.inr (List.mem_of_getElem? e1))]at e';have r':=λy m=>(r y m).2.mono x.stb (r y m).1
    exact⟨xs,⟨o,es,ep,e',hx,hd,he,λy m=>(r' y m).2.is,hn⟩,hs,e,r'⟩
  |priv=>
   apply yo;intro _ k0
   obtain⟨u,v,e⟩:=r;apply k0
   rcases x.1 a _ e with⟨_,⟨⟨vs,hd⟩,_⟩,_⟩|⟨o',e',q,_⟩
   ·cases hd
   ·rw[q.eq (λ_ _ z=>by cases z)]at e'
    exact⟨u,v,e'⟩
  |ctab PP l c q k=>
   have old:∀ps,s.heap.get? a=some (zFJ ps)->h'.get? a=some (zFJ ps):=λps e=>by
    rcases x.1 a _ e with⟨_,⟨_,hc⟩,_⟩|⟨o',e',_,q⟩
    ·rcases hc with hc|⟨c,hc⟩<;>cases hc
    ·rw[q (.inr (List.mem_of_getElem? e1))]at e';exact e'
   cases k with
   |none=>exact⟨r.1,old _ r.2⟩
   |some k=>obtain⟨e0,c',e,ho⟩:=r;exact⟨e0,c',e,old _ ho⟩
  |code q=>
   obtain⟨o,vs,t,e,hc,r⟩:=r;rcases x.1 a _ e with⟨_,⟨_,hc'⟩,_⟩|⟨o',e',_,q⟩
   ·rw[hc]at hc';rcases hc' with hc'|⟨c,hc'⟩
    ·simp at hc'
    ·cases hc'
   ·rw[q (.inr (List.mem_of_getElem? e1))]at e';exact⟨o,vs,t,e',hc,r⟩
 os:=I.os
 gens:=I.gens
theorem Bb.frm(x:Bb G n ρ h h') (F:Hg G tbl P env h ρ loc):Hg G tbl P env h' ρ loc where
 kind:=F.kind
 glob:=F.glob
 bi:=F.bi
 ns:=by
  obtain⟨m,n,q⟩:=F.ns;exact⟨m,x.ns n,λi y e k d hd=>let⟨v,e1,e2⟩:=q i y e k d hd;⟨v,e1,C9.mono x.stb d v e2⟩⟩
 cell i y e k:=by
  obtain⟨c,e1,ov,n,q⟩:=F.cell i y e k;exact⟨c,e1,ov,x.cell n,λd hd=>let⟨v,e1,e2⟩:=q d hd;⟨v,e1,C9.mono x.stb d v e2⟩⟩
 cok y c e:=by
  obtain⟨n,ov,z⟩:=F.cok y c e;exact⟨n,ov,x.cell z⟩
 cinj:=F.cinj
 lrho:=F.lrho
 lP:=F.lP
 own:=F.own
 tnd:=F.tnd
theorem Bb.ff(x:Bb G n ρ h h'){fs:List Env}(f:FF G h ρ fs):FF G h' ρ fs:=λe m=>by
 apply yo;intro _ k0
 obtain⟨hk,L,o,es,n,hf,h0,hr,ho,hd⟩:=f e m;rcases x.1 L o ho with⟨_,⟨⟨vs,hd'⟩,_⟩,_⟩|⟨o',e',q,_⟩
 ·rw[hd]at hd';cases hd'
 ·apply k0
  exact⟨hk,L,o',es,n,hf,h0,hr,e',q.2.1.trans hd⟩
theorem Bb.stk(x:Bb G n ρ h h') (S:Qu G A env h ρ):Qu G A env h' ρ:=⟨S.fr,λfs e=>x.ff (S.ff fs e)⟩
theorem Bb.ev(x:Bb G hs.objs.size ρ h h') (y:Ev P hs ρs h ρ):Ev P hs ρs h' ρ where
 pre:=y.pre
 keep b o e n1 n2:=by
  obtain⟨o',e',q⟩:=y.keep b o e n1 n2;rcases x.1 b o' e' with⟨n,_⟩|⟨o'',e'',q',_⟩
  ·exact absurd (Heap.lt_size e) (Nat.not_lt.mpr n)
  ·exact⟨o'',e'',q.trans q'⟩
 newp:=y.newp
 size:=Nat.le_trans y.size x.2
end
inductive M5 (n:Nat) (h:Heap) (x:Value) (a c:Addr):Prop
 |mk:n<=a->(o:Obj)->(vs:Array Value)->(T:Addr)->(oT:Obj)->(ts:Array Value)->h.get? a=some o->zBQ o c->o.data=.fields vs->5<vs.size->vs[1]? =some (.ref T)->T≠a->n<=T->
  h.get? T=some oT→oT.cls=.type "traceback"→oT.data=.fields ts→ts[3]? =some x→M5 n h x a c
theorem M5.fly{n:Nat}{h:Heap}{x:Value}{a c:Addr}{f:Option Addr}(F:M5 n h x a c):Wb n h f a c:=by
 obtain⟨h1,o,vs,T,oT,ts,e1,e2,e3,e4,e5,e6,e7,e8,e9,e10,e11⟩:=F;exact⟨h1,o,vs,e1,e2,e3,e4,.inr ⟨T,oT,ts,e5,e6,e7,e8,e9,e10,x,e11⟩⟩
section
variable {G:Gd}{C:Cx}{A:Around}{P:List Addr}{env:Env}{s:Shared}{ρ ρs:List Addr}{σ:Bp}{n:Nat}{hs:Heap}
theorem Sz{E:Value->Shared->Prop}{Q:Value->Shared->Prop}(S:Qu G A env s.heap ρ)
  (h:∀L h',env.frame=some L->Bb G n ρ s.heap h'->(∀b o,s.heap.get? b=some o->(∀es n,o.data≠.dict es n)->h'.get? b=some o)->Q (.ref L) {s with heap:=h'}):wpAny G.M A (PySem.frameOf env) Q E s:=by
 apply yo;intro _ k0
 obtain⟨fenv,outer,L,hA,hf,he⟩:=S.fr;apply k0
 refine wpAny_bind (wpAny_frameEnvs hA ?_)
 have hdw:((fenv::outer).dropWhile λx=>x.frame !=env.frame)=fenv::outer:=by simp[List.dropWhile,hf,he]
 rw[hdw];have hF:=S.ff _ hA;refine wpAny_bind (wpAny_bind (wpAny_readyFrames_fun hF.fun λh₁ hs₁=>wpAny_pure ?_))
 rw[hf];have inS:∀b,b∈(fenv::outer).filterMap (·.frame)->(G.h0.get? b=none/\b∉ρ)/\∃o es n,s.heap.get? b=some o/\o.data=.dict es n:=λb m=>by
  apply yo;intro _ k0
  obtain⟨e,me,eb⟩:=List.mem_filterMap.mp m;obtain⟨_,L',o,es,n,hf',h0,hr,ho,hd⟩:=hF e me;apply k0
  rw[eb]at hf';cases hf';exact⟨⟨h0,hr⟩,o,es,n,ho,hd⟩
 refine wpAny_pure (h L h₁ he (Bb.slots hs₁ inS) λb o e hn=>?_)
 refine(hs₁.2.1 b λm=>?_).trans e
 obtain⟨_,o',es,n,e',hd⟩:=inS b m;rw[e]at e';cases e';exact hn es n hd
theorem Qx{E:Value->Shared->Prop}{Q:Unit->Shared->Prop}{a c:Addr}(S:Qu G A env s.heap ρ) (F:Wb n s.heap env.frame a c) (hlt:n<=s.heap.objs.size)
  (h:∀L h',env.frame=some L->Bb G n ρ s.heap h'->M5 n h' (rawInt L) a c->Q () {s with heap:=h'}):wpAny G.M A (noteFrame (.ref a) env) Q E s:=by
 apply yo;intro _ k0
 obtain⟨fenv,outer,L,hA,hf,he⟩:=id S.fr;obtain⟨hna,o,vs,ho,hc,hd,hsz,tb⟩:=F;apply k0
 unfold noteFrame;rw[he];have rest:∀(h₁:Heap) (head:Value) (vs₁:Array Value) (o₁:Obj),Bb G n ρ s.heap h₁->h₁.get? a=some o₁->zBQ o₁ c->o₁.data=.fields vs₁->5<vs₁.size->
   wpAny G.M A (PySem.frameOf env >>= λfr=>entryPlaceOf L (head !=.none) >>= λpl=>EntryCells.newEntry head fr .none (rawInt L) .none pl >>= λb=>setField (.ref a) 1 b) Q E {s with heap:=h₁}:=by
  intro h₁ head vs₁ o₁ N1 ho₁ hc₁ hd₁ hsz₁;refine wpAny_bind (Sz (n:=n) (s:={s with heap:=h₁}) (N1.stk S) λL' h₂ hL' N2 ex=>?_)
  refine wpAny_bind (wpAny_entryPlaceOf λpl hpl=>?_)
  refine wpAny_bind (wpAny_newObj_type ?_ (hpl.sizeOk5 _ _ _ _ _))
  have ho₂:h₂.get? a=some o₁:=ex a o₁ ho₁ (λ_ _ z=>by rw[hd₁]at z;cases z)
  have e₃:=Heap.get?_push_of_some (h:=h₂) {cls:=.type "traceback",dict:=none,data:=.fields ([head,.ref L',.none,rawInt L,.none]++(if pl.isEmpty then List.replicate 6 Value.none else pl)).toArray} ho₂;refine wpAny_setField e₃ hd₁ (by exact Bw λZ=>A5 [_] [A9 x0 (.n 1),A7 (.n 5) x0] rT Z hsz₁) ?_
  have hTa:h₂.objs.size≠a:=Nat.ne_of_gt (Heap.lt_size ho₂)
  have hd₃:=Obj.data_mapFields hd₁ (·.setIfInBounds 1 (Value.ref h₂.objs.size));have e₄:=Heap.get?_update_self (Obj.mapFields (·.setIfInBounds 1 (Value.ref h₂.objs.size))) e₃ (Obj.isFreed_of_fields hd₃);have eT:=(Heap.get?_update_other (h₂.push {cls:=.type "traceback",dict:=none,data:=.fields ([head,.ref L',.none,rawInt L,.none]++(if pl.isEmpty then List.replicate 6 Value.none else pl)).toArray})
   (Obj.mapFields (·.setIfInBounds 1 (Value.ref h₂.objs.size))) (Ne.symm hTa)).trans (Heap.get?_push_size h₂ rfl)
  have hnT:n<=h₂.objs.size:=Nat.le_trans hlt (Nat.le_trans N1.2 N2.2)
  refine h L _ he ((N1.trans N2).trans ((Bb.grow (Av.push _ _) Am).trans (Bb.fields e₃ hd₁ (.inr ⟨c,hc₁.1⟩) hna))) ?_
  exact⟨hna,_,_,h₂.objs.size,_,_,e₄,⟨(Obj.cls_mapFields ..).trans hc₁.1,(Ie ..).trans hc₁.2⟩,hd₃,by simp;exact Bw λZ=>A5 [_] [A9 x0 (.n 5),A7 (.n 5) x0] rT Z hsz₁,by simp[show 1<vs₁.size by exact Bw λZ=>A5 [_] [A9 x0 (.n 1),A7 (.n 5) x0] rT Z hsz₁],hTa,hnT,eT,rfl,rfl,by simp⟩
 rcases tb with tb|⟨T,oT,ts,t1,t2,t3,t4,t5,t6,x,t7⟩
 ·refine wpAny_bind (wpAny_field ho hd tb ?_)
  rw[if_neg (by decide)];exact rest s.heap .none vs o .refl ho hc hd hsz
 ·refine wpAny_bind (wpAny_field ho hd t1 ?_)
  rw[if_pos (show(Value.ref T !=Value.none)=true from by simp)]
  refine wpAny_bind (wpAny_field t4 t6 t7 ?_)
  have hT3:3<ts.size:=(Array.getElem?_eq_some_iff.mp t7).1
  by_cases hx:(x==rawInt L)=true
  ·rw[if_pos hx];have hx':x=rawInt L:=beq_iff_eq.mp hx
   subst hx';exact wpAny_pure (h L s.heap he .refl ⟨hna,o,vs,T,oT,ts,ho,hc,hd,hsz,t1,t2,t3,t4,t5,t6,t7⟩)
  ·rw[if_neg hx];refine wpAny_bind (wpAny_setField t4 t6 hT3 ?_)
   exact rest _ (.ref T) vs o (Bb.fields t4 t6 (.inl t5) t3) ((Heap.get?_update_other _ _ t2).trans ho) hc hd hsz
theorem Jp{E:Value->Shared->Prop}{Q:Unit->Shared->Prop}{a c:Addr}{x:Value}{fr:Option Addr}(F:M5 n s.heap x a c)
  (h:∀h',Bb G n ρ s.heap h'->M5 n h' (fr.elim .none λf=>rawInt f) a c->Q () {s with heap:=h'}):wpAny G.M A (setFlight (.ref a) fr) Q E s:=by
 obtain⟨hna,o,vs,T,oT,ts,ho,hc,hd,hsz,t1,t2,t3,t4,t5,t6,t7⟩:=F;have hT3:3<ts.size:=(Array.getElem?_eq_some_iff.mp t7).1
 refine wpAny_bind (wpAny_field ho hd t1 ?_)
 rw[if_pos (show(Value.ref T !=Value.none)=true from by simp)]
 refine wpAny_setField t4 t6 hT3 ?_
 have hd₃:=Obj.data_mapFields t6 (·.setIfInBounds 3 (fr.elim Value.none λf=>rawInt f))
 refine h _ (Bb.fields t4 t6 (.inl t5) t3) ⟨hna,o,vs,T,_,_,(Heap.get?_update_other _ _ t2).trans ho,hc,hd,hsz,t1,t2,t3,
  Heap.get?_update_self _ t4 (Obj.isFreed_of_fields hd₃),(Obj.cls_mapFields ..).trans t5,hd₃,by simp[hT3]⟩
theorem Om{E:Value->Shared->Prop}{Q:Unit->Shared->Prop}{a c:Addr}(S:Qu G A env s.heap ρ) (F:Wb n s.heap env.frame a c) (hlt:n<=s.heap.objs.size)
  (h:∀h',Bb G n ρ s.heap h'->M5 n h' .none a c->Q () {s with heap:=h'}):wpAny G.M A (leaving env (.ref a)) Q E s:=by
 refine wpAny_bind (Qx S F hlt λL h' hL N T=>?_)
 exact Jp (s:={s with heap:=h'}) (fr:=none) T λh'' N' T'=>h h'' (N.trans N') T'
variable {tbl:List Str}{st':St}
theorem Rk{R:Result->Shared->Prop}{a c:Addr}(S:Qu G A env s.heap ρ) (F:Wb hs.objs.size s.heap env.frame a c) (I:Ci G s ρ st'.sto) (x:Ev P hs ρs s.heap ρ) (Fm:Hg G tbl P env s.heap ρ st'.loc) (hb:∀b,hs.objs.size<=b->G.h0.get? b=none)
  (h:∀L s',Ci G s' ρ st'.sto->Ev P hs ρs s'.heap ρ->Hg G tbl P env s'.heap ρ st'.loc->Qu G A env s'.heap ρ->env.frame=some L->M5 hs.objs.size s'.heap (rawInt L) a c->R (.error (.ref a)) s'):
  notedBy G.M A env (λe s'=>R (.error e) s') (.ref a) s:=
 Qx S F x.size λL h' hL N T=>h L _ (N.inv I hb s.toks) (N.ev x) (N.frm Fm) (N.stk S) hL T
theorem zCF{E:Value->Shared->Prop}{L a c:Addr}(S:Qu G A env s.heap ρ) (hL:env.frame=some L) (T:M5 hs.objs.size s.heap (rawInt L) a c) (I:Ci G s ρ st'.sto) (x:Ev P hs ρs s.heap ρ) (Fm:Hg G tbl P env s.heap ρ st'.loc) (hb:∀b,hs.objs.size<=b->G.h0.get? b=none)
  (h:∀s',Ci G s' ρ st'.sto->Ev P hs ρs s'.heap ρ->Hg G tbl P env s'.heap ρ st'.loc->Wb hs.objs.size s'.heap env.frame a c->E (.ref a) s'):cameBackBy G.M A env E (.ref a) s:=by
 obtain⟨hna,o,vs,T',oT,ts,ho,hc,hd,hsz,t1,t2,t3,t4,t5,t6,t7⟩:=id T;refine wpAny_bind (wpAny_field ho hd t1 ?_)
 rw[if_neg (by simp)];refine Jp (fr:=env.frame) T λh' N T=>h _ (N.inv I hb s.toks) (N.ev x) (N.frm Fm) T.fly
end
noncomputable def Fj:Be->List Nat->List D->Be
 |loc,p::ps,d::ds=>Fj (B9 loc p d) ps ds
 |loc,_,_=>loc
noncomputable def Br:Be:=λ_=>none
noncomputable def Dv (ps:List Nat) (body:Mn Fl):List D->Mn D:=λds st=>
 if ds.length=ps.length then
  match body ⟨Fj Br ps ds,st.sto⟩with
  |.ok (.ret d) st'=>.ok d ⟨st.loc,st'.sto⟩
  |.ok _ st'=>.ok .none ⟨st.loc,st'.sto⟩
  |.exc c st'=>.exc c ⟨st.loc,st'.sto⟩
  |.bot=>.bot
 else .bot
noncomputable def zAZ (G:Gd) (A:Around) (h:Heap) (ρ:List Addr):Prop:=(∃fs,A.frames=some fs)/\∀fs,A.frames=some fs->FF G h ρ fs
noncomputable def SF (G:Gd) (n:Nat) (a:Addr) (F:List D->Mn D):Prop:=
 ∀A env s ρ st ds vs,Nf n A->Ci G s ρ st.sto->zAZ G A s.heap ρ->Au G s.heap ρ ds vs->At G A env s ρ st (RV G) (call (.ref a) vs) (F ds)
noncomputable def V3 (G:Gd) (n:Nat) (a:Addr) (F:List D->Mn D) (s:Shared) (ρ:List Addr) (σ:Bp):Prop:=
 ∀A env loc ds vs,Nf n A->Ci G s ρ σ->zAZ G A s.heap ρ->Au G s.heap ρ ds vs->At G A env s ρ ⟨loc,σ⟩ (RV G) (call (.ref a) vs) (F ds)
theorem SF.at{G:Gd}{n:Nat}{a:Addr}{F:List D->Mn D}(h:SF G n a F) (s:Shared) (ρ:List Addr) (σ:Bp):V3 G n a F s ρ σ:=λA env loc ds vs=>h A env s ρ ⟨loc,σ⟩ ds vs
theorem Ew:∀(names:List (Str×NameKind)) (n:Nat) (acc:List (Str×Addr)) (x:Str),((x,NameKind.cell)∈names∨(acc.lookup x).isSome=true)->((cellsFrom n names acc).lookup x).isSome=true
 |[],n,acc,x,h=>by rcases h with h|h;cases h;exact h
 |(y,k)::r,n,acc,x,h=>by
  unfold cellsFrom;split
  ·refine Ew r _ _ x ?_
   rcases h with h|h
   ·rcases List.mem_cons.mp h with e|m
    ·cases e;right;simp[List.lookup]
    ·exact .inl m
   ·right
    simp only[List.lookup];split
    ·rfl
    ·exact h
  ·rename_i hk;refine Ew r _ _ x ?_
   rcases h with h|h
   ·rcases List.mem_cons.mp h with e|m
    ·cases e;simp at hk
    ·exact .inl m
   ·exact .inr h
noncomputable def Mw (G:Gd) (tbl:List Str) (kindOf:Str->Option NameKind) (h:Heap) (ρ:List Addr) (m cm:Str->Option Value) (loc:Be):Prop:=
 ∀(i:Nat) (x:Str),tbl[i]? =some x->∀d,loc i=some d->(kindOf x=some .local->∃v,m x=some v/\C9 G h ρ d v)/\((kindOf x=some .cell∨kindOf x=some .free)->∃v,cm x=some v/\C9 G h ρ d v)
theorem S9{G:Gd}{tbl:List Str}{kindOf:Str->Option NameKind}{h:Heap}{ρ:List Addr}(tnd:tbl.Nodup){is:List Nat}{xs:List Str}(hh:Bs (λ(i:Nat) x=>tbl[i]? =some x) is xs):∀(ds:List D) (vs:List Value) (m cm:Str->Option Value) (loc:Be),Au G h ρ ds vs->ds.length=is.length->Mw G tbl kindOf h ρ m cm loc->
  Mw G tbl kindOf h ρ (bindL kindOf (xs.zip vs) m) (bindC kindOf (xs.zip vs) cm) (Fj loc is ds):=by
 induction hh with
 |nil=>
  intro ds vs m cm loc r hl M
  cases ds with
  |nil=>exact M
  |cons _ _=>simp at hl
 | @cons i x is xs hx hxs ih=>
  intro ds vs m cm loc r hl M
  cases ds with
  |nil=>simp at hl
  |cons d ds=>
   obtain⟨v,vr,rfl,r1,r2⟩:=r;refine ih ds vr _ _ (B9 loc i d) r2 (by simpa using hl) λj y hy d' hd'=>?_
   by_cases hj:j=i
   ·subst hj;rw[hx]at hy;cases hy;simp only[B9,if_true]at hd'
    cases hd';refine⟨λk=>⟨v,by simp[k],r1⟩,λk=>⟨v,?_,r1⟩⟩
    have:¬kindOf x=some .local:=λz=>by rw[z]at k;rcases k with k|k<;>cases k
    simp[this]
   ·simp only[B9,hj,if_false]at hd';have hne:y≠x:=λz=>hj (Bj tnd (z▸hy) hx)
    obtain⟨q1,q2⟩:=M j y hy d' hd';refine⟨λk=>?_,λk=>?_⟩
    ·obtain⟨v',e1,e2⟩:=q1 k;refine⟨v',?_,e2⟩
     split
     ·simp[hne,e1]
     ·exact e1
    ·obtain⟨v',e1,e2⟩:=q2 k;refine⟨v',?_,e2⟩
     split
     ·exact e1
     ·simp[hne,e1]
structure zDU (G:Gd) (a:Addr) (fd:FuncData) (body:List Stmt) (xs:List Str):Prop where
 obj:∃o,G.h0.get? a=some o/\o.data=.func fd
 body:fd.body=.stmts body
 glob:fd.globals=mainGlobals
 clo:fd.closure=[]
 bi:fd.builtins=builtinsNs
 code:G.h0.CodeRec fd.code fd.qualname
 lim:G.h0.NoLimit
 kind:fd.scope.kind=.function
 co:fd.scope.isCoroutine=false
 gen:fd.scope.isGenerator=false
 bind:∀vs:List Value,vs.length=xs.length->bindArgs fd ⟨vs,[]⟩=pure (xs.zip vs)
 par:∀x,x∈xs->fd.scope.names.lookup x=some .local∨fd.scope.names.lookup x=some .cell
 nofree:∀x,x∈fd.scope.names->x.2≠.free
theorem Vm{G:Gd}{tbl:List Str}{kindOf:Str->Option NameKind}{h:Heap}{ρ:List Addr}(tnd:tbl.Nodup):∀(is:List Nat) (xs:List Str) (ds:List D) (vs:List Value) (m cm:Str->Option Value) (loc:Be),
  Bs (λ(i:Nat) x=>tbl[i]? =some x) is xs->Au G h ρ ds vs->ds.length=is.length->Mw G tbl kindOf h ρ m cm loc->
  Mw G tbl kindOf h ρ (bindL kindOf (xs.zip vs) m) (bindC kindOf (xs.zip vs) cm) (Fj loc is ds):=λis xs ds vs m cm loc hh r hl M=>S9 tnd hh ds vs m cm loc r hl M
theorem Q3{h h':Heap}(g:Av h h'){c:Value}{q:Str}(x:h.CodeRec c q):h'.CodeRec c q:=by
 apply yo;intro _ k0
 obtain⟨c,oc,vs,tq,hc,hoc,hdc,hq⟩:=x;apply k0
 exact⟨c,oc,vs,tq,hc,g _ _ hoc,hdc,hq⟩
theorem Ml{xs:List Str}{vs:List Value}:∀p,p∈xs.zip vs->p.1∈xs:=λp m=>(List.of_mem_zip m).1
theorem zCH{G:Gd}{a:Addr}{fd:FuncData}{body:List Stmt}{xs:List Str}{is:List Nat}{tbl:List Str}{n:Nat}{m:Mn Fl}(Fi:zDU G a fd body xs) (tnd:tbl.Nodup)
  (hi:Bs (λ(i:Nat) x=>tbl[i]? =some x) is xs) (hb:Uc G ⟨fd.scope.names,tbl,n,false,fd.code,fd.qualname++".<locals>."⟩ body m):SF G (n+1) a (Dv is m):=by
 intro A env₀ s ρ st ds vs R I B r hbot;have hlen:ds.length=is.length:=by
  cases h:decide (ds.length=is.length)with
  |true=>exact of_decide_eq_true h
  |false=>exact absurd (by unfold Dv;rw[if_neg (of_decide_eq_false h)]) hbot
 have hvl:vs.length=xs.length:=by rw[r.all2.length,hlen,hi.length]
 obtain⟨o,ho,hdata⟩:=Fi.obj;have g0:Av G.h0 s.heap:=I.base
 refine wpAny_call (codeAny_call_cells (fd:=fd) (binds:=xs.zip vs) (by have:=R.depth;exact Bw λZ=>A5 [_,_] [A9 (.n 1000) x0,A9 (.a x0 (.a x1 (.n 1))) (.n 900),A9 (.n 0) x1] rT Z this (lq5 _)) (I.base _ _ ho) hdata (Fi.lim.keeps g0) (Q3 g0 Fi.code) Fi.body (Fi.bind vs hvl) Fi.clo
  (λp m=>?_) (λs₁ X=>?_) Fi.co Fi.gen Fi.kind)
 ·rcases Fi.par p.1 (Ml p m)with h|h
  ·exact .inl h
  ·exact .inr ⟨h,Ew _ _ _ _ (.inl (mem_of_lookup h))⟩
 generalize hE:callEnvC fd s.heap.objs.size a=env at X ⊢
 have eloc:env.locals=s.heap.objs.size:=by rw[←hE];rfl
 have escope:env.scope=fd.scope:=by rw[←hE];rfl
 have ekind:∀x,env.kindOf x=fd.scope.names.lookup x:=λx=>by unfold Env.kindOf;rw[escope]
 have eframe:env.frame=some env.locals:=by rw[←hE];rfl
 have ecells:env.cells=cellsFrom (s.heap.objs.size+1) fd.scope.names []:=by rw[←hE];rfl
 obtain⟨h₁,tk,hs₁⟩:=X.toInCall.same;have g1:Av s.heap s₁.heap:=X.toInCall.keep
 have z1:s.heap.objs.size<=s₁.heap.objs.size:=by
  obtain⟨oL,_,_,hoL,_⟩:=X.toInCall.ns;have:=Heap.lt_size hoL
  rw[eloc]at this;exact Nat.le_of_lt this
 have I₁:Ci G s₁ ρ st.sto:=by
  have:=I.grow (h':=h₁) (by rw[hs₁]at g1;exact g1) (by rw[hs₁]at z1;exact z1) tk
  rw[hs₁];exact this
 have hcell_size:∀x c,env.cells.lookup x=some c->s.heap.objs.size<c:=λx c e=>eloc▸X.above x c (mem_of_lookup e)
 have hM:Mw G tbl env.kindOf s₁.heap ρ (bindL env.kindOf (xs.zip vs) λ_=>none) (bindC env.kindOf (xs.zip vs) λ_=>none) (Fj Br is ds):=
  Vm tnd is xs ds vs _ _ _ hi (Au.mono g1.stb _ _ r) hlen λi x _ d hd=>by cases hd
 have Wp:Wr env (env.locals::env.cells.filterMap λp=>env.cells.lookup p.1):=λx c e=>lq4 _ (List.mem_filterMap.mpr ⟨(x,c),mem_of_lookup e,e⟩)
 have Pp:∀p,p∈(env.locals::env.cells.filterMap λp=>env.cells.lookup p.1)->s.heap.objs.size<=p/\(p=env.locals∨∃x,env.cells.lookup x=some p):=λp mp=>by
  rcases List.mem_cons.mp mp with rfl|mp
  ·exact⟨by rw[eloc];exact Nat.le_refl _,.inl rfl⟩
  ·apply yo;intro _ k0
   obtain⟨⟨x,c⟩,mc,e⟩:=List.mem_filterMap.mp mp;apply k0
   exact⟨Nat.le_of_lt (hcell_size x p e),.inr ⟨x,e⟩⟩
 generalize hP:(env.locals::env.cells.filterMap λp=>env.cells.lookup p.1)=P at Wp Pp
 have Fm:Hg G tbl P env s₁.heap ρ (Fj Br is ds):={
  kind:=by rw[escope];exact Fi.kind
  glob:=by rw[←hE];exact Fi.glob
  bi:=by rw[←hE];exact Fi.bi
  ns:=⟨_,X.toInCall.ns,λi x e k d hd=>(hM i x e d hd).1 k⟩
  cell:=λi x e k=>by
   have hk:(x,NameKind.cell)∈fd.scope.names:=by
    rcases k with k|k
    ·rw[ekind]at k;exact mem_of_lookup k
    ·rw[ekind]at k;exact absurd rfl (Fi.nofree _ (mem_of_lookup k))
   obtain⟨c,hc⟩:=Option.isSome_iff_exists.mp (Ew fd.scope.names (s.heap.objs.size+1) [] x (.inl hk))
   rw[←ecells]at hc;exact⟨c,hc,_,X.cell x c hc,λd hd=>(hM i x e d hd).2 k⟩
  cok:=λx c e=>⟨λmm=>Nat.lt_asymm (I.mem_lt mm) (hcell_size x c e),_,X.cell x c e⟩
  cinj:=λx y c e1 e2=>name_of_addr X.apart (mem_of_lookup e1) (mem_of_lookup e2)
  lrho:=by rw[eloc];exact I.size_notin
  lP:=by rw[←hP];exact lq1
  own:=λp mp=>⟨I.h0_le (Pp p mp).1,(Pp p mp).2⟩
  tnd:=tnd}
 obtain⟨fs,hfs⟩:=B.1;have hfr:(A.deeper env).frames=some (env::fs):=Around.frames_deeper hfs
 have hff:FF G s₁.heap ρ (env::fs):=λe me=>by
  rcases List.mem_cons.mp me with rfl|me
  ·apply yo;intro _ k0
   obtain⟨mm,n,_⟩:=Fm.ns;obtain⟨oL,es,ep,hoL,hdL,_⟩:=n;apply k0
   exact⟨by rw[escope,Fi.kind];decide,e.locals,oL,es,ep,eframe,by rw[eloc];exact I.h0_size,Fm.lrho,hoL,hdL⟩
  ·exact(B.2 fs hfs).keep (Av.ev g1 z1) e me
 have K:Ok G ⟨fd.scope.names,tbl,n,false,fd.code,fd.qualname++".<locals>."⟩ (A.deeper env) P env s₁ ρ ⟨Fj Br is ds,st.sto⟩:={
  room:=⟨λ_=>R.hd,by have:=R.depth;show A.depth+1+n<=900;exact Ar λZ=>A5 [_,_] [A7 (.n 900) (.a (.a x0 (.n 1)) x1),A9 (.a x0 (.a x1 (.n 1))) (.n 900)] rT Z this,by have:=R.units;show A.units+3+10*n<=9000;exact Ar λZ=>A5 [_,_] [A7 (.n 9000) (.a (.a x0 (.n 3)) (.m 10 x1)),A9 (.a x0 (.m 10 (.a x1 (.n 1)))) (.n 9000)] rT Z this⟩
  sees:=⟨λx h=>(ekind x).trans h,λx h=>(ekind x).trans h,λx h=>.inr ((ekind x).trans h),λx h=>(ekind x).trans h⟩
  inv:=I₁
  frm:=Fm
  stk:=⟨⟨env,fs,env.locals,hfr,eframe,eframe⟩,λfs' e=>by rw[hfr]at e;cases e;exact hff⟩
  code:=.inr (by rw[←hE];rfl)
  qual:=.inr (by rw[←hE];rfl)}
 have hnb:m ⟨Fj Br is ds,st.sto⟩≠.bot:=λz=>hbot (by unfold Dv;rw[if_pos hlen,z])
 have back:∀{s':Shared}{ρ':List Addr},Ev P s₁.heap ρ s'.heap ρ'->Ev [] s.heap ρ s'.heap ρ':=λx=>
  ((Av.ev g1 z1).trans x).less λp mp=>.inr (Pp p mp).1
 refine wpAny_mono (hb.run (A.deeper env) P env s₁ ρ _ K Wp hnb) (λf s' q=>?_) λx s' q=>?_
 ·obtain⟨ρ',fl,st',e,I',x,F',rr⟩:=q
  cases fl with
  |next=>cases(show f=.next from rr);exact⟨ρ',.none,st'.sto,by unfold Dv;rw[if_pos hlen,e],I',back x,rfl⟩
  |brk=>cases(show f=.brk from rr);exact⟨ρ',.none,st'.sto,by unfold Dv;rw[if_pos hlen,e],I',back x,rfl⟩
  |cont=>cases(show f=.cont from rr);exact⟨ρ',.none,st'.sto,by unfold Dv;rw[if_pos hlen,e],I',back x,rfl⟩
  |ret d=>
   obtain⟨v,rfl,rr⟩:=rr;exact⟨ρ',d,st'.sto,by unfold Dv;rw[if_pos hlen,e],I',back x,rr⟩
 ·obtain⟨ρ',c,st',a',e,I',x,F',rfl,fl⟩:=q;have K':=K.stepS I' x F';refine Om (n:=s₁.heap.objs.size) K'.stk fl x.size λh'' N T=>?_
  refine⟨ρ',c,st'.sto,a',by unfold Dv;rw[if_pos hlen,e],N.inv I' (λb z=>I₁.h0_le z) s'.toks,back (N.ev x),rfl,?_⟩
  exact T.fly.from z1
noncomputable def G9 (G:Gd) (x:Str) (v:Value):Prop:=∃mg,G.h0.Ns mainGlobals mg/\mg x=some v
noncomputable def E8 (G:Gd) (x:Str) (v:Value):Prop:=∃mg mb,G.h0.Ns mainGlobals mg/\mg x=none/\G.h0.Ns builtinsNs mb/\mb x=some v
section
variable {G:Gd}{C:Cx}{A:Around}{P:List Addr}{env:Env}{s:Shared}{ρ:List Addr}{st:St}
theorem L2{x:Str}{v:Value}{pos:Pos}(K:Ok G C A P env s ρ st) (hg:G9 G x v) (hn:C.names.lookup x=some .globalImplicit) (hd:(x==("__debug__":Str))=false){Q:Value→Shared→Prop}{E:Value→Shared→Prop}(h:Q v s):
  wpAny G.M A (eval (.Name x pos) env) Q E s:=by
 obtain⟨mg,n,e⟩:=hg;refine Calls.Name_function_global K.frm.kind (K.sees.glob x hn) (Calls.loadGlobal_global (mg:=mg) ?_ e h) hd
 rw[K.frm.glob];exact n.keeps K.inv.base
theorem Gb{x:Str}{v:Value}{pos:Pos}(K:Ok G C A P env s ρ st) (hg:E8 G x v) (hn:C.names.lookup x=some .globalImplicit) (hd:(x==("__debug__":Str))=false){Q:Value→Shared→Prop}{E:Value→Shared→Prop}(h:Q v s):
  wpAny G.M A (eval (.Name x pos) env) Q E s:=by
 obtain⟨mg,mb,n,e,n',e'⟩:=hg;refine Calls.Name_function_global K.frm.kind (K.sees.glob x hn) (Calls.loadGlobal_builtin (mg:=mg) (mb:=mb) ?_ e ?_ e' h) hd
 ·rw[K.frm.glob];exact n.keeps K.inv.base
 ·rw[K.frm.bi];exact n'.keeps K.inv.base
theorem T4{x:Str}{i:Int}{t:Tok}{pos:Pos}(hg:G9 G x (.int i t)) (hn:C.names.lookup x=some .globalImplicit) (hd:(x==("__debug__":Str))=false):SE G C (.Name x pos) (ret1 (.int i)):=.mk <| λA P env s ρ st K=>
 At.leaf (λ_=>L2 K hg hn hd ⟨_,rfl,Av.same0,⟨_,rfl⟩⟩) K
theorem zAB:SA G C [] (ret1 []):=.mk <| λA P env s ρ st pos K=>At.pure K (show Au _ _ _ _ _ from rfl)
theorem Tq{e:Expr}{es:List Expr}{m:Mn D}{ms:Mn (List D)}(he:SE G C e m) (hs:SA G C es ms) (hst:∀env,starEach (e::es) env=(false,eval e env)::starEach es env):
  SA G C (e::es) (bnd m λd=>bnd ms λds=>ret1 (d::ds)):=.mk <| λA P env s ρ st pos K=>by
 rw[hst];show At G A env s ρ st (zGQ G) (eval e env >>= λv=>pure [v] >>= λhere=>holding here (spliced (backTo pos (starEach es env))) >>= λr=>pure (here++r)) _
 refine At.bind K (he.run A P env s ρ st K) λv s' ρ' d σ' K' x r=>?_
 refine At.ofEq (t':=holding [v] (spliced (backTo pos (starEach es env))) >>= λr=>pure ([v]++r)) rfl ?_
 refine At.bind K' (hs.run A P env s' ρ' _ pos K').hold λvs s'' ρ'' ds σ'' K'' x2 r2=>?_
 refine At.pure K'' ?_
 show Au _ _ _ _ _
 exact⟨v,vs,rfl,C9.mono (x2.stb K'.inv .nil) _ _ r,r2⟩
theorem Ok.bel(K:Ok G C A P env s ρ st):zAZ G A s.heap ρ:=⟨let⟨f,o,_,h,_⟩:=K.stk.fr;⟨f::o,h⟩,K.stk.ff⟩
theorem zBJ{f:Str}{a:Addr}{n:Nat}{F:List D→Mn D}{e:Expr}{es:List Expr}{ms:Mn (List D)}{np pos:Pos}(hg:G9 G f (.ref a)) (hn:C.names.lookup f=some .globalImplicit) (hd:(f==("__debug__":Str))=false)
  (hfd:∃o fd,G.h0.get? a=some o/\o.data=.func fd) (hF:SF G n a F) (hC:C.inh=false) (hl:n<=C.lvl) (hs:SA G C (e::es) ms) (hst:∀env,starEach (e::es) env=(false,eval e env)::starEach es env):
  SE G C (.Call (.Name f np) (e::es) [] pos) (bnd ms F):=.mk <| λA P env s ρ st K hb=>by
 show wpAny G.M A (eval (.Name f np) env >>= λfv=>callWith pos fv [] (backTo pos (starEach (e::es) env)) []) _ _ s
 refine wpAny_bind (L2 K hg hn hd ?_)
 obtain⟨o,fd,ho,hfdd⟩:=hfd;refine Calls.callWith_function (o:=o) (fd:=fd) ?_
 have hev:backTo pos (starEach (e::es) env)=(false,eval e env)::backTo pos (starEach es env):=by rw[hst];rfl
 have h1:=hs.run A P env s ρ st pos K (An hb);rw[hev]at h1 ⊢;refine Calls.evalArgs_plain (wpAny_mono h1 (λvs s' q=>?_) λx s' q=>?_)
 ·refine Fh.elim q λρ' ds σ' e' I' x' r=>?_
  refine⟨⟨I'.base _ _ ho,hfdd⟩,?_⟩
  have K':=K.step I' x';have e2:bnd ms F st=F ds ⟨st.loc,σ'⟩:=by simp only[bnd,e']
  rw[e2]at hb ⊢;refine wpAny_mono (hF A env s' ρ' ⟨st.loc,σ'⟩ ds vs ((K.room.room hC).le hl) I' K'.bel r hb) (λw s'' q=>?_) λw s'' q=>?_
  ·exact Fh.tr q x'
  ·exact Bc.tr q x'
 ·exact Bc.bnd q
noncomputable def BF (G:Gd) (id:String) (F:List D->Mn D):Prop:=
 ∀C A P env s ρ st ds vs,C.inh=false->Ok G C A P env s ρ st->Au G s.heap ρ ds vs->At G A env s ρ st (RV G) (call (.builtin id) vs) (F ds)
theorem Zr{f:Str}{id:String}{F:List D→Mn D}{e:Expr}{es:List Expr}{ms:Mn (List D)}{np pos:Pos}(hg:E8 G f (.builtin id)) (hn:C.names.lookup f=some .globalImplicit) (hd:(f==("__debug__":Str))=false)
  (hC:C.inh=false) (hF:BF G id F) (hs:SA G C (e::es) ms) (hst:∀env,starEach (e::es) env=(false,eval e env)::starEach es env) (hpl:∀env,(backTo pos (starEach es env)).any (·.1)=false):
  SE G C (.Call (.Name f np) (e::es) [] pos) (bnd ms F):=.mk <| λA P env s ρ st K hb=>by
 show wpAny G.M A (eval (.Name f np) env >>= λfv=>callWith pos fv [] (backTo pos (starEach (e::es) env)) []) _ _ s
 refine wpAny_bind (Gb K hg hn hd ?_)
 have hev:backTo pos (starEach (e::es) env)=(false,eval e env)::backTo pos (starEach es env):=by rw[hst];rfl
 have h1:=hs.run A P env s ρ st pos K (An hb);rw[hev]at h1 ⊢;refine Calls.callWith_builtin (by show(false||_)=false;rw[Bool.false_or];exact hpl env) (Calls.evalArgs_plain (wpAny_mono h1 (λvs s' q=>?_) λx s' q=>?_))
 ·refine Fh.elim q λρ' ds σ' e' I' x' r=>?_
  have K':=K.step I' x';have e2:bnd ms F st=F ds ⟨st.loc,σ'⟩:=by simp only[bnd,e']
  rw[e2]at hb ⊢;refine wpAny_mono (hF C A P env s' ρ' ⟨st.loc,σ'⟩ ds vs hC K' r hb) (λw s'' q=>?_) λw s'' q=>?_
  ·exact Fh.tr q x'
  ·exact Bc.tr q x'
 ·exact Bc.bnd q
end
structure zA0 (G:Gd) (I:Addr) (S:List Addr) (tg:Expr->Prop) (g:Bp->Prop) (T:List D->Heap->List Addr->Bp->Prop) (Md:Value->List D->Heap->List Addr->Bp->Prop):Prop where
 own:∀rem h ρ σ,T rem h ρ σ->∀q,q∈S->R5 G h ρ σ q
 ownM:∀v rem h ρ σ,Md v rem h ρ σ->∀q,q∈S->R5 G h ρ σ q
 keep:∀(P:List Addr) rem s ρ σ s' ρ' σ',T rem s.heap ρ σ->Ci G s ρ σ->Ci G s' ρ' σ'->Ev P s.heap ρ s'.heap ρ'->NT s.heap P->g σ'->T rem s'.heap ρ' σ'
 next:∀(A:Around) s ρ σ rem (Q:Option Value->Shared->Prop) (E:Value->Shared->Prop),A.handled=none->Ci G s ρ σ->T rem s.heap ρ σ->
  (rem=[]->∀h' tk,Gg S s.heap h'->Q none {s with heap:=h',toks:=tk})->
  (∀d rest,rem=d::rest->∀v h' tk,Gg S s.heap h'->C9 G h' ρ d v->Md v rest h' ρ σ->Q (some v) {s with heap:=h',toks:=tk})->wpAny G.M A (pyNext (.ref I)) Q E s
 go:∀(A:Around) s ρ σ tgt v rest (Q:Unit->Shared->Prop) (E:Value->Shared->Prop),tg tgt->Ci G s ρ σ->Md v rest s.heap ρ σ->
  (∀h',Gg S s.heap h'->T rest h' ρ σ->Q () {s with heap:=h'})->wpAny G.M A (letOwnedTupleGo tgt (.ref I) v) Q E s
noncomputable def Hm (G:Gd) (I:Addr) (T:List D->Heap->List Addr->Bp->Prop):Prop:=
 ∀(A:Around) s ρ σ rem (Q:Value->Shared->Prop) (E:Value->Shared->Prop),A.handled=none->T rem s.heap ρ σ->Q (.ref I) s->wpAny G.M A (pyIter (.ref I)) Q E s
structure ST (G:Gd) (C:Cx) (b:Bool) (t:Expr) (f:D->Be->Option Be):Prop where
 run:∀A P env s ρ st d v loc' (Q:Unit->Shared->Prop) (E:Value->Shared->Prop),Ok G C A P env s ρ st->(b=true->Wr env P)->C9 G s.heap ρ d v->f d st.loc=some loc'->
  (∀s',Ci G s' ρ st.sto->Ev P s.heap ρ s'.heap ρ->Hg G C.tbl P env s'.heap ρ loc'->Q () s')->wpAny G.M A (assign t env v) Q E s
open Classical in
noncomputable def Bq (tgt:D->Be->Option Be) (g:Bp->Prop) (body:Mn Fl):List D->Mn Fl
 |[]=>λst=>if g st.sto then .ok .next st else .bot
 |d::rest=>λst=>if g st.sto then
   match tgt d st.loc with
   |none=>.bot
   |some loc'=>match body ⟨loc',st.sto⟩with
    |.ok .next st'=>Bq tgt g body rest st'
    |.ok .cont st'=>Bq tgt g body rest st'
    |.ok .brk st'=>.ok .next st'
    |.ok (.ret d) st'=>.ok (.ret d) st'
    |.exc c st'=>.exc c st'
    |.bot=>.bot
  else .bot
section
variable {tgt:D->Be->Option Be}{g:Bp->Prop}{body:Mn Fl}{d:D}{rest:List D}{st:St}
open Classical in
theorem Nj:Bq tgt g body [] st=if g st.sto then .ok .next st else .bot:=rfl
open Classical in
theorem Dp:Bq tgt g body (d::rest) st=if g st.sto then
   match tgt d st.loc with
   |none=>.bot
   |some loc'=>match body ⟨loc',st.sto⟩with
    |.ok .next st'=>Bq tgt g body rest st'
    |.ok .cont st'=>Bq tgt g body rest st'
    |.ok .brk st'=>.ok .next st'
    |.ok (.ret d) st'=>.ok (.ret d) st'
    |.exc c st'=>.exc c st'
    |.bot=>.bot
  else .bot:=rfl
end
inductive zDC (G:Gd) (tbl:List Str) (P:List Addr) (env:Env) (hs:Heap) (ρs:List Addr) (r:Gq Fl) (f:Flow) (s':Shared):Prop
 |mk (ρ':List Addr) (fl:Fl) (st':St):r=.ok fl st'->Ci G s' ρ' st'.sto->Ev P hs ρs s'.heap ρ'->Hg G tbl P env s'.heap ρ' st'.loc->zGK G s'.heap ρ' fl f->zDC G tbl P env hs ρs r f s'
inductive zCh (G:Gd) (tbl:List Str) (A:Around) (P:List Addr) (env:Env) (hs:Heap) (ρs:List Addr) (r:Gq Fl) (x:Value) (s':Shared):Prop
 |mk (ρ':List Addr) (c:Addr) (st':St) (a L:Addr):r=.exc c st'->Ci G s' ρ' st'.sto->Ev P hs ρs s'.heap ρ'->Hg G tbl P env s'.heap ρ' st'.loc->Qu G A env s'.heap ρ'->x=.ref a->env.frame=some L->M5 hs.objs.size s'.heap (rawInt L) a c->zCh G tbl A P env hs ρs r x s'
noncomputable def zCd (G:Gd) (tbl:List Str) (A:Around) (P:List Addr) (env:Env) (hs:Heap) (ρs:List Addr) (r:Gq Fl):Result->Shared->Prop
 |.ok f,s'=>zDC G tbl P env hs ρs r f s'
 |.error x,s'=>zCh G tbl A P env hs ρs r x s'
section
variable {G:Gd}{C:Cx}{A:Around}{P:List Addr}{env:Env}
theorem zDe{I:Addr}{S:List Addr}{tg:Expr->Prop}{g:Bp->Prop}{T:List D->Heap->List Addr->Bp->Prop}{Md:Value->List D->Heap->List Addr->Bp->Prop}(X:zA0 G I S tg g T Md)
  {target:Expr}{tf:D->Be->Option Be}{body:List Stmt}{m:Mn Fl}(hC:C.inh=false) (ht:tg target) (hT:ST G C true target tf) (hB:Uc G C body m) (W:Wr env P){hs:Heap}{ρs:List Addr}(hb0:∀b,hs.objs.size<=b->G.h0.get? b=none):
  ∀(ds:List D) (s:Shared) (ρ:List Addr) (st:St),Ok G C A P env s ρ st->T ds s.heap ρ st.sto->Ev P hs ρs s.heap ρ->(∀q,q∈S->hs.objs.size<=q∨q∈ρs)->Bq tf g m ds st≠.bot->
   codeAny G.M A (.forLoop target (.ref I) body [] env) (zCd G C.tbl A P env hs ρs (Bq tf g m ds st)) s:=by
 intro ds
 induction ds with
 |nil=>
  intro s ρ st K hTT x hS hbot;have hg:g st.sto:=by
   by_cases h:g st.sto
   ·exact h
   ·exact absurd (by(first|rw[Nj,if_neg h]|rw[Dp,if_neg h])) hbot
  refine codeAny_of_tree ?_
  show wpAny _ A ((forTurn target (.ref I) body [] env).onRaise (λx=>do noteFrame x env;theTreesLotGoes x)) _ _ s
  refine wpAny_noted ?_
  simp only[forTurn];refine wpAny_bind (wpAny_standAt (wpAny_bind (wpAny_onRaise (X.next A s ρ st.sto [] _ _ (K.room.hd hC) K.inv hTT (λ_ h' tk ho=>?_) (λd rest e=>by cases e)))))
  have K':=K.only ho (X.own _ _ _ _ hTT) tk;refine wpAny_pure (And.intro rfl (codeAny_block (wpAny_execs_nil ⟨ρ,.next,st,?_,K'.inv,x.only ho hS,K'.frm,rfl⟩)))
  (first|rw[Nj,if_pos hg]|rw[Dp,if_pos hg])
 |cons d rest ih=>
  intro s ρ st K hTT x hS hbot;have hg:g st.sto:=by
   by_cases h:g st.sto
   ·exact h
   ·exact absurd (by(first|rw[Nj,if_neg h]|rw[Dp,if_neg h])) hbot
  refine codeAny_of_tree ?_
  show wpAny _ A ((forTurn target (.ref I) body [] env).onRaise (λx=>do noteFrame x env;theTreesLotGoes x)) _ _ s
  refine wpAny_noted ?_
  simp only[forTurn];refine wpAny_bind (wpAny_standAt (wpAny_bind (wpAny_onRaise (X.next A s ρ st.sto (d::rest) _ _ (K.room.hd hC) K.inv hTT (λe=>by cases e) (λd' rest' e v h' tk ho r hM=>?_)))))
  cases e;have K₁:=K.only ho (X.own _ _ _ _ hTT) tk;refine wpAny_bind (X.go A _ ρ st.sto target v rest _ _ ht K₁.inv hM λh₂ ho₂ hT₂=>?_)
  have K₂:=K₁.only ho₂ (X.ownM _ _ _ _ _ hM) tk;have x₂:Ev P hs ρs h₂ ρ:=(x.only ho hS).only ho₂ hS
  have r₂:C9 G h₂ ρ d v:=C9.mono (ho₂.stb (X.ownM _ _ _ _ _ hM)) d v r
  cases e1:tf d st.loc with
  |none=>exact absurd (by(rw[Dp,if_pos hg,e1])) hbot
  |some loc'=>
   refine wpAny_bind (hT.run A P env {s with heap:=h₂,toks:=tk} ρ st d v loc' _ _ K₂ (λ_=>W) r₂ e1 λs₃ I₃ x₃ F₃=>?_)
   have K₃:Ok G C A P env s₃ ρ ⟨loc',st.sto⟩:=K₂.stepS (st':=⟨loc',st.sto⟩) I₃ x₃ F₃
   have hnb:m ⟨loc',st.sto⟩≠.bot:=λz=>hbot (by(rw[Dp,if_pos hg,e1];dsimp only;rw[z]))
   have T₃:T rest s₃.heap ρ st.sto:=X.keep P rest {s with heap:=h₂,toks:=tk} ρ st.sto s₃ ρ st.sto hT₂ K₂.inv I₃ x₃ K₂.frm.nt hg
   refine wpAny_bind (wpAny_mono (hB.run A P env s₃ ρ _ K₃ W hnb) (λf s₄ q=>?_) λe s₄ q=>?_)
   ·obtain⟨ρ₄,fl,st₄,e2,I₄,x₄,F₄,r₄⟩:=q;have K₄:=K₃.stepS I₄ x₄ F₄;have xx:Ev P hs ρs s₄.heap ρ₄:=(x₂.trans x₃).trans x₄
    have hS':∀q,q∈S->hs.objs.size<=q∨q∈ρs:=hS
    have again:∀(_:Bq tf g m (d::rest) st=Bq tf g m rest st₄),codeAny G.M A (.forLoop target (.ref I) body [] env) (zCd G C.tbl A P env hs ρs (Bq tf g m (d::rest) st)) s₄:=λe3=>by
     rw[e3]at hbot ⊢;have hg₄:g st₄.sto:=by
      by_cases h:g st₄.sto
      ·exact h
      ·exact absurd (by cases rest<;>(first|rw[Nj,if_neg h]|rw[Dp,if_neg h])) hbot
     exact ih s₄ ρ₄ st₄ K₄ (X.keep P rest s₃ ρ st.sto s₄ ρ₄ st₄.sto T₃ K₃.inv I₄ x₄ K₃.frm.nt hg₄) xx hS hbot
    cases fl with
    |next=>
     cases(show f=.next from r₄)
     exact wpAny_pure (And.intro rfl (again (by(rw[Dp,if_pos hg,e1];dsimp only;rw[e2]))))
    |cont=>
     cases(show f=.cont from r₄)
     exact wpAny_pure (And.intro rfl (again (by(rw[Dp,if_pos hg,e1];dsimp only;rw[e2]))))
    |brk=>
     cases(show f=.brk from r₄)
     exact wpAny_pure ⟨ρ₄,.next,st₄,by(rw[Dp,if_pos hg,e1];dsimp only;rw[e2]),I₄,xx,F₄,rfl⟩
    |ret d'=>
     obtain⟨v',rfl,r₄⟩:=r₄;exact wpAny_pure ⟨ρ₄,.ret d',st₄,by(rw[Dp,if_pos hg,e1];dsimp only;rw[e2]),I₄,xx,F₄,v',rfl,r₄⟩
   ·obtain⟨ρ₄,c,st₄,a,e2,I₄,x₄,F₄,rfl,fl⟩:=q;have K₄:=K₃.stepS I₄ x₄ F₄;have xx:Ev P hs ρs s₄.heap ρ₄:=(x₂.trans x₃).trans x₄
    refine Rk K₄.stk (fl.from (x₂.trans x₃).size) I₄ xx F₄ hb0 λL s₅ I₅ x₅ F₅ S₅ hL fT=>?_
    exact⟨ρ₄,c,st₄,a,L,by(rw[Dp,if_pos hg,e1];dsimp only;rw[e2]),I₅,x₅,F₅,S₅,rfl,hL,fT⟩
structure Gz where
 ds:List D
 g:Bp->Prop
inductive Vz (G:Gd) (s:Shared) (ρ:List Addr) (st:St) (tg:Expr->Prop) (r:Gq Gz) (it:Value) (s₂:Shared):Prop
 |mk (ρ':List Addr) (src:Gz) (σ':Bp) (I:Addr) (S:List Addr) (T:List D->Heap->List Addr->Bp->Prop) (Md:Value->List D->Heap->List Addr->Bp->Prop):r=.ok src ⟨st.loc,σ'⟩->Ci G s₂ ρ' σ'->
  Ev [] s.heap ρ s₂.heap ρ'->it=.ref I->zA0 G I S tg src.g T Md->Hm G I T->T src.ds s₂.heap ρ' σ'->(∀q,q∈S->s.heap.objs.size<=q)->Vz G s ρ st tg r it s₂
structure SI (G:Gd) (C:Cx) (e:Expr) (tg:Expr->Prop) (m:Mn Gz):Prop where
 run:∀A P env s ρ st,Ok G C A P env s ρ st->m st≠.bot->wpAny G.M A (eval e env) (λx s₁=>wpAny G.M A (pyIter x) (Vz G s ρ st tg (m st)) (Bc G env s ρ st (m st)) s₁) (Bc G env s ρ st (m st)) s
theorem zE5{target iter:Expr}{body:List Stmt}{pos:Pos}{tg:Expr->Prop}{mi:Mn Gz}{tf:D->Be->Option Be}{m:Mn Fl}(hC:C.inh=false) (hI:SI G C iter tg mi) (ht:tg target) (hT:ST G C true target tf) (hB:Uc G C body m)
  (hs:∀env x,foldedSetIterable iter env x=pure x):SS G C (.For target iter body [] pos) (bnd mi λsrc=>Bq tf src.g m src.ds):=.mk <| λA P env s ρ st K W hb=>by
 refine wpAny_For ?_ (hs env)
 refine wpAny_mono (hI.run A P env s ρ st K (An hb)) (λx s₁ h₁=>wpAny_mono h₁ (λit s₂ q=>?_) λx s₂ q=>?_) λx s₂ q=>?_
 ·obtain⟨ρ',src,σ',I,S,T,Md,e,I',x,rfl,X,_,hT0,hS⟩:=q;have e':bnd mi (λsrc=>Bq tf src.g m src.ds) st=Bq tf src.g m src.ds ⟨st.loc,σ'⟩:=by simp only[bnd,e]
  rw[e']at hb ⊢;have K':=K.step I' x;refine codeAny_mono (zDe X hC ht hT hB W (hs:=s.heap) (ρs:=ρ) (λb z=>K.inv.h0_le z) src.ds s₂ ρ' ⟨st.loc,σ'⟩ K' hT0 x.nil (λq m=>.inl (hS q m)) hb) λr s' hr=>?_
  cases r with
  |ok f=>obtain⟨ρ'',fl,st'',e2,I'',x'',F'',r''⟩:=hr;exact⟨ρ'',fl,st'',e2,I'',x'',F'',r''⟩
  |error ex=>
   obtain⟨ρ'',c,st'',a,L,e2,I'',x'',F'',S'',rfl,hL,fT⟩:=hr;exact zCF S'' hL fT I'' x'' F'' (λb z=>K.inv.h0_le z) λs₃ I₃ x₃ F₃ fl=>⟨ρ'',c,st'',a,e2,I₃,x₃,F₃,rfl,fl⟩
 ·exact Bc.toS K q
 ·exact Bc.toS K q
theorem zC0{i:Nat}{x:Str}{pos:Pos}{b:Bool}(hi:C.tbl[i]? =some x) (hx:C.names.lookup x=some .local):ST G C b (.Name x pos) (λd loc=>some (B9 loc i d)):=.mk <| λA P env s ρ st d v loc' Q E K W r e h=>by
 cases e;exact wpAny_assign_Name (Nr K hi hx r h)
theorem Zg{i:Nat}{x:Str}{pos:Pos}(hi:C.tbl[i]? =some x) (hx:C.names.lookup x=some .cell):ST G C true (.Name x pos) (λd loc=>some (B9 loc i d)):=.mk <| λA P env s ρ st d v loc' Q E K W r e h=>by
 apply yo;intro _ k0
 cases e;apply k0
 exact wpAny_assign_Name (Ol K (W rfl) hi (K.sees.cell x hx) r h)
structure zD1 (G:Gd) (C:Cx) (b:Bool) (ts:List Expr) (f:List D->Be->Option Be):Prop where
 run:∀A P env s ρ st ds vs loc' (Q:Unit->Shared->Prop) (E:Value->Shared->Prop),Ok G C A P env s ρ st->(b=true->Wr env P)->Au G s.heap ρ ds vs->f ds st.loc=some loc'->
  (∀s',Ci G s' ρ st.sto->Ev P s.heap ρ s'.heap ρ->Hg G C.tbl P env s'.heap ρ loc'->Q () s')->wpAny G.M A (assignInOrder ((assignEach ts env).map (·.2)) vs) Q E s
noncomputable def Dt:List D->Be->Option Be
 |[],loc=>some loc
 |_,_=>none
noncomputable def Ay (f:D->Be->Option Be) (g:List D->Be->Option Be):List D->Be->Option Be
 |d::ds,loc=>(f d loc).bind (g ds)
 |[],_=>none
theorem zCV{b:Bool}:zD1 G C b [] Dt:=.mk <| λA P env s ρ st ds vs loc' Q E K W r e h=>by
 apply yo;intro _ k0
 cases ds with
 |nil=>
  subst r
  cases(show some st.loc=some loc' from e)
  apply k0
  exact wpAny_pure (h s K.inv Ev.refl K.frm)
 |cons _ _=>cases(show none=some loc' from e)
theorem Xy{b:Bool}{t:Expr}{ts:List Expr}{f:D->Be->Option Be}{g:List D->Be->Option Be}(h1:ST G C b t f) (h2:zD1 G C b ts g) (hst:∀env,assignEach (t::ts) env=(false,assign t env)::assignEach ts env):
  zD1 G C b (t::ts) (Ay f g):=.mk <| λA P env s ρ st ds vs loc' Q E K W r e h=>by
 cases ds with
 |nil=>cases(show none=some loc' from e)
 |cons d ds=>
  obtain⟨v,vr,rfl,r1,r2⟩:=r;obtain⟨loc₁,e1,e2⟩:=Option.bind_eq_some_iff.mp e;rw[hst];show wpAny G.M A (holding vr (assign t env v) >>= λ_=>assignInOrder ((assignEach ts env).map (·.2)) vr) Q E s
  refine wpAny_bind (wpAny_holding (h1.run A P env s ρ st d v loc₁ _ _ K W r1 e1 λs₁ I₁ x₁ F₁=>?_))
  have K₁:Ok G C A P env s₁ ρ ⟨loc₁,st.sto⟩:=K.stepS (st':=⟨loc₁,st.sto⟩) I₁ x₁ F₁
  exact h2.run A P env s₁ ρ ⟨loc₁,st.sto⟩ ds vr loc' Q E K₁ W (Au.mono (x₁.stb K.inv K.frm.nt) _ _ r2) e2 λs₂ I₂ x₂ F₂=>h s₂ I₂ (x₁.trans x₂) F₂
noncomputable def Ga (n:Nat) (f:List D->Be->Option Be):D->Be->Option Be
 |.tup ds,loc=>if ds.length=n then f ds loc else none
 |_,_=>none
theorem Dm{α:Type}{M:Model}{A:Around}{s:Shared}{t:Sem α}{Q:α->Shared->Prop}{E:Value->Shared->Prop}(h:wpAny M A t (λa s'=>s.heap.objs.size<=s'.heap.objs.size->Q a s') E s):wpAny M A t Q E s:=
 wpAny_mono (Nv h) (λ_ _ q=>q.2 q.1) λ_ _ q=>q.2
theorem No{s:Shared}{h':Heap}(x:Heap.ExtBut s.heap.objs.size s.heap h'):Av s.heap h':=λb o e=>x b o (Nat.ne_of_lt (Heap.lt_size e)) e
theorem X8{b:Bool}{ts:List Expr}{k n:Nat}{pos:Pos}{f:List D->Be->Option Be}(hC:C.inh=false) (h1:zD1 G C b ts f) (hn:∀env,(assignEach ts env).length=n) (hst:∀env,(assignEach ts env).findIdx? (·.1)=none):
  ST G C b (.Tuple ts k pos) (Ga n f):=.mk <| λA P env s ρ st d v loc' Q E K W r e h=>by
 cases d with
 |tup ds=>
  unfold Ga at e;dsimp only at e;split at e
  ·rename_i hl;obtain⟨a,vs,rfl,hna,⟨nn,ho⟩,r⟩:=r;have hlen:vs.size=ds.length:=by have:=r.all2.length;simpa using this
   refine wpAny_bind (wpAny_standAt ?_)
   unfold unpack;rw[hst env,show(assignEach ts env).length=vs.size by rw[hn,hlen,hl]]
   refine wpAny_bind (wpAny_holding (Dm (wpAny_unpackItems_tuple (K.room.hd hC) (items:=vs) ⟨_,ho,rfl,nn,rfl⟩ λh' hx z=>?_)))
   have g:=No hx;have K':=K.grow g z s.toks;exact h1.run A P env {s with heap:=h'} ρ st ds vs.toList loc' Q E K' W (Au.mono g.stb _ _ r) e λs₂ I₂ x₂ F₂=>h s₂ I₂ ((g.ev z).trans x₂) F₂
  ·cases e
 |_=>unfold Ga at e;dsimp only at e;cases e
end
section
variable {G:Gd}{C:Cx}{A:Around}{P:List Addr}{env:Env}{s:Shared}{ρ:List Addr}{σ:Bp}{st:St}
noncomputable def Lh (T:String):Bool:=!["enumerate","zip","dict_itemiterator","dict_reverseitemiterator","odict_iterator","itertools.zip_longest","itertools.pairwise"].contains T
theorem Gk{I:Addr}{o:Obj}{T:String}{vs:Array Value}{tgt:Expr}{v:Value}{Q:Unit->Shared->Prop}{E:Value->Shared->Prop}(ho:s.heap.get? I=some o) (hc:o.cls=.type T) (hd:o.data=.fields vs) (hT:Lh T=true) (h:Q () s):
  wpAny G.M A (letOwnedTupleGo tgt (.ref I) v) Q E s:=by
 have key:∀a:Addr,wpAny G.M A (do
   let o ←load I
   match o.cls,o.data with
   |.type n,.fields vs=>
    if["enumerate","zip","dict_itemiterator","dict_reverseitemiterator","odict_iterator","itertools.zip_longest","itertools.pairwise"].contains n&&vs[0]? ==some (rawInt a)then
     rule "for.unpacks-the-owned-tuple"
     updateField I 0 .none
   |_,_=>pure ()) Q E s:=λa=>by
  refine wpAny_bind (wpAny_load ho ?_)
  simp only[hc,hd];simp only[Lh,Bool.not_eq_true']at hT;simp only[hT,Bool.false_and,Bool.false_eq_true,if_false];exact wpAny_pure h
 cases tgt<;>(try exact wpAny_pure h)<;>(cases v<;>(first|exact wpAny_pure h|exact key _))
theorem Me(I:Ci G s ρ σ){T:String}{vs:Array Value}(hT:T≠"tuple") (t:Nat):O1 G (s.heap.push {cls:=.type T,data:=.fields vs}) ρ s.heap.objs.size:=
 ⟨I.h0_size,I.size_notin,_,T,vs,Heap.get?_push_size _ rfl,rfl,hT,rfl⟩
theorem Cw{α:Type}{l:List α}{i:Nat}{d:α}{r:List α}(h:d::r=l.drop i):l[i]? =some d/\r=l.drop (i+1):=by
 have h1:l[i]? =some d:=by
  have:(l.drop i)[0]? =some d:=by rw[←h];rfl
  simpa using this
 refine⟨h1,?_⟩
 have:(l.drop i).drop 1=r:=by rw[←h];rfl
 simp only[←this,List.drop_drop]
theorem Ef{α:Type}{l:List α}{i:Nat}(h:[]=l.drop i):l.length<=i:=by
 have:=congrArg List.length h
 simp at this
 exact Ar λZ=>A5 [_,_,_] [A7 x1 x0,Cg (.n 0) x2,A9 x0 (.a x2 x1)] rT Z this (Bh _ _)
noncomputable def Rs (G:Gd) (I:Addr) (k:Nat) (ds:List D):List D->Heap->List Addr->Bp->Prop:=λrem h ρ σ=>
 O1 G h ρ I/\σ[k]? =some (.list ds)/\∃a i,ρ[k]? =some a/\h.IsListIter I a i/\rem=ds.drop i
theorem Y8{I:Addr}{k:Nat}{ds:List D}:zA0 G I [I] (λ_=>True) (λσ=>σ[k]? =some (.list ds)) (Rs G I k ds) (λ_=>Rs G I k ds) where
 own rem h ρ σ t q m:=by rw[lq0 m];exact .inl (.inl t.1)
 ownM v rem h ρ σ t q m:=by rw[lq0 m];exact .inl (.inl t.1)
 keep P rem s ρ σ s' ρ' σ' t I0 I' x N g:=by
  apply yo;intro _ k0
  obtain⟨it,e,a,i,e1,⟨o,ho,hc,hd⟩,e3⟩:=t;obtain⟨it',z⟩:=it.keep x N;apply k0
  exact⟨it',g,a,i,x.pre k a e1,⟨o,z.trans ho,hc,hd⟩,e3⟩
 next A s ρ σ rem Q E hh I0 t h1 h2:=by
  apply yo;intro _ k0
  obtain⟨it,e,a,i,e1,e2,e3⟩:=t;obtain⟨vs,hl,r⟩:=I0.sto k a (.list ds) e1 e;apply k0
  have hne:a≠I:=λz=>it.2.1 (z▸List.mem_of_getElem? e1)
  cases rem with
  |nil=>
   have hi:vs[i]? =none:=by
    have:=r.all2.length
    have h3:=Ef e3;simp at this
    simp;exact Ar λZ=>A5 [_,_,_] [A7 x1 x0,B0 x0 x2,A9 x2 x1] rT Z this h3
   refine Dm (wpAny_pyNext_list_end hh e2 hl.list hi λh' x z=>?_)
   exact h1 rfl h' s.toks (Iy (λb o n e=>x b o n e) z it.notPrv)
  |cons d rest=>
   obtain⟨hd,hr⟩:=Cw e3;obtain⟨v,hv,rv⟩:=r.all2.get i d hd;have hv':vs[i]? =some v:=by simpa using hv
   refine wpAny_pyNext_list_item e2 hl.list hv' λh' hit' hs'=>?_
   have ho:Gg [I] s.heap h':=Iy (λb o n e=>(hs'.2 b n).trans e) (Nat.le_of_eq hs'.1.symm) it.notPrv
   have S:Jg s.heap ρ h' ρ:=ho.stb (σ:=σ) λq m=>by rw[lq0 m];exact .inl (.inl it)
   apply yo;intro _ k0
   obtain⟨o',ho',hc',hd'⟩:=id hit';apply k0
   exact h2 d rest rfl v h' s.toks ho (C9.mono S _ _ rv) ⟨⟨it.1,it.2.1,o',_,_,ho',hc',by decide,hd'⟩,e,a,i+1,e1,hit',hr⟩
 go A s ρ σ tgt v rest Q E _ I0 t h:=by
  apply yo;intro _ k0
  obtain⟨it,e,a,i,e1,e2,e3⟩:=id t;obtain⟨o,ho,hc,hd⟩:=e2;apply k0
  exact Gk ho hc hd (by decide) (h s.heap Im t)
theorem Vg{I:Addr}{k:Nat}{ds:List D}:Hm G I (Rs G I k ds):=λA s ρ σ rem Q E hh t h=>by
 apply yo;intro _ k0
 obtain⟨it,e,a,i,e1,e2,e3⟩:=t;apply k0
 exact wpAny_pyIter_listiter e2 h
noncomputable def Wx (G:Gd) (I t:Addr) (vs:Array Value) (ds:List D):List D->Heap->List Addr->Bp->Prop:=λrem h ρ σ=>
 O1 G h ρ I/\t∉ρ/\L0 h t vs/\Au G h ρ ds vs.toList/\∃i,h.IsTupleIter I t i/\rem=ds.drop i
theorem zA9{I t:Addr}{vs:Array Value}{ds:List D}:zA0 G I [I] (λ_=>True) (λ_=>True) (Wx G I t vs ds) (λ_=>Wx G I t vs ds) where
 own rem h ρ σ t q m:=by rw[lq0 m];exact .inl (.inl t.1)
 ownM v rem h ρ σ t q m:=by rw[lq0 m];exact .inl (.inl t.1)
 keep P rem s ρ σ s' ρ' σ' tt I0 I' x N g:=by
  apply yo;intro _ k0
  obtain⟨it,n,ht,r,i,⟨o,ho,hc,hd⟩,e3⟩:=tt;obtain⟨it',z⟩:=it.keep x N;apply k0
  have S:=x.stb I0 N;obtain⟨n',ht'⟩:=S.tup t vs n ht;exact⟨it',n',ht',Au.mono S _ _ r,i,⟨o,z.trans ho,hc,hd⟩,e3⟩
 next A s ρ σ rem Q E hh I0 tt h1 h2:=by
  apply yo;intro _ k0
  obtain⟨it,n,ht,r,i,e2,e3⟩:=tt;apply k0
  have htt:s.heap.IsTuple t vs:=let⟨n,e⟩:=ht;⟨_,e,rfl,n,rfl⟩
  cases rem with
  |nil=>
   have hi:vs[i]? =none:=by
    have:=r.all2.length
    have h3:=Ef e3;simp at this
    simp;exact Ar λZ=>A5 [_,_,_] [A7 x1 x0,B0 x0 x2,A9 x2 x1] rT Z this h3
   refine Dm (wpAny_pyNext_tuple_end hh e2 htt hi λh' x z=>?_)
   exact h1 rfl h' s.toks (Iy (λb o n e=>x b o n e) z it.notPrv)
  |cons d rest=>
   obtain⟨hd,hr⟩:=Cw e3;obtain⟨v,hv,rv⟩:=r.all2.get i d hd;have hv':vs[i]? =some v:=by simpa using hv
   refine wpAny_pyNext_tuple_item e2 htt hv' λh' hit' hs'=>?_
   have ho:Gg [I] s.heap h':=Iy (λb o n e=>(hs'.2 b n).trans e) (Nat.le_of_eq hs'.1.symm) it.notPrv
   have S:Jg s.heap ρ h' ρ:=ho.stb (σ:=σ) λq m=>by rw[lq0 m];exact .inl (.inl it)
   apply yo;intro _ k0
   obtain⟨n',ht'⟩:=S.tup t vs n ht;obtain⟨o',ho',hc',hd'⟩:=id hit';apply k0
   exact h2 d rest rfl v h' s.toks ho (C9.mono S _ _ rv) ⟨⟨it.1,it.2.1,o',_,_,ho',hc',by decide,hd'⟩,n',ht',Au.mono S _ _ r,i+1,hit',hr⟩
 go A s ρ σ tgt v rest Q E _ I0 tt h:=by
  apply yo;intro _ k0
  obtain⟨it,n,ht,r,i,⟨o,ho,hc,hd⟩,e3⟩:=id tt;apply k0
  exact Gk ho hc hd (by decide) (h s.heap Im tt)
theorem zAX{I t:Addr}{vs:Array Value}{ds:List D}:Hm G I (Wx G I t vs ds):=λA s ρ σ rem Q E hh tt h=>by
 apply yo;intro _ k0
 obtain⟨it,n,ht,r,i,e2,e3⟩:=tt;apply k0
 refine(Walks.tuple (prog:=G.prog) (w:=G.w) (A:=A) hh I t (λz=>?_) vs).self i s Q E ⟨e2,let⟨nn,e⟩:=ht;⟨_,e,rfl,nn,rfl⟩⟩ h
 obtain⟨_,_,o,T,vs',ho,hc,hT,hd⟩:=it;obtain⟨nn,ho'⟩:=ht;rw[z,ho]at ho';cases ho';cases hd
noncomputable def Gc (x:Str):List D:=x.cps.toList.map λc=>D.str ⟨#[c]⟩
noncomputable def D9 (x:Str):String:=if x.cps.all (· <128)then "str_ascii_iterator" else "str_iterator"
noncomputable def Xl (G:Gd) (I:Addr) (x:Str) (tk:Tok):List D->Heap->List Addr->Bp->Prop:=λrem h ρ σ=>
 O1 G h ρ I/\∃i,h.IsStrIter I (D9 x) x tk i/\rem=(Gc x).drop i
theorem Gu(x:Str):D9 x≠"tuple"∧Lh (D9 x)=true:=by unfold D9;split<;>decide
theorem Yj{I:Addr}{x:Str}{tk:Tok}{i:Nat}{Q:Option Value->Shared->Prop}{E:Value->Shared->Prop}(hh:A.handled=none) (hit:s.heap.IsStrIter I (D9 x) x tk i)
  (h1:x.cps[i]? =none->∀h',Heap.ExtBut I s.heap h'->Q none {s with heap:=h'})
  (h2:∀c,x.cps[i]? =some c->∀h',h'.IsStrIter I (D9 x) x tk (i+1)->Heap.SameBut I s.heap h'->Q (some (.str ⟨#[c]⟩ s.toks)) {s with heap:=h',toks:=s.toks+1}):wpAny G.M A (pyNext (.ref I)) Q E s:=by
 by_cases ha:x.cps.all (· <128)=true
 ·have hT:D9 x="str_ascii_iterator":=by simp only[D9,ha,if_true]
  rw[hT]at hit h2
  cases e:x.cps[i]? with
  |none=>exact wpAny_pyNext_ascii_end hh hit e (h1 e)
  |some c=>exact wpAny_pyNext_ascii_item hit e (h2 c e)
 ·have hT:D9 x="str_iterator":=by simp only[D9,ha,if_false];rfl
  rw[hT]at hit h2
  cases e:x.cps[i]? with
  |none=>exact wpAny_pyNext_wide_end hh hit e (h1 e)
  |some c=>exact wpAny_pyNext_wide_item hit e (h2 c e)
theorem zC7{I:Addr}{x:Str}{tk:Tok}:zA0 G I [I] (λ_=>True) (λ_=>True) (Xl G I x tk) (λ_=>Xl G I x tk) where
 own rem h ρ σ t q m:=by rw[lq0 m];exact .inl (.inl t.1)
 ownM v rem h ρ σ t q m:=by rw[lq0 m];exact .inl (.inl t.1)
 keep P rem s ρ σ s' ρ' σ' tt I0 I' x N g:=by
  apply yo;intro _ k0
  obtain⟨it,i,⟨o,ho,hc,hd⟩,e3⟩:=tt;obtain⟨it',z⟩:=it.keep x N;apply k0
  exact⟨it',i,⟨o,z.trans ho,hc,hd⟩,e3⟩
 next A s ρ σ rem Q E hh I0 tt h1 h2:=by
  apply yo;intro _ k0
  obtain⟨it,i,e2,e3⟩:=tt;apply k0
  refine Dm (Yj hh e2 (λhi h' x z=>?_) (λc hc h' hit' hs' z=>?_))
  ·cases rem with
   |nil=>exact h1 rfl h' s.toks (Iy (λb o n e=>x b o n e) z it.notPrv)
   |cons d rest=>
    apply yo;intro _ k0
    obtain⟨hd,hr⟩:=Cw e3;apply k0
    simp[Gc]at hd
    apply yo;intro _ k0
    obtain⟨c,hc,_⟩:=hd;apply k0
    simp at hi
    have:=(Array.getElem?_eq_some_iff.mp hc).1
    exact False.elim (A5 [_,_] [A9 x0 x1,A7 x1 x0] rT hi this)
  ·cases rem with
   |nil=>
    have:=Ef e3
    have h3:=(Array.getElem?_eq_some_iff.mp hc).1;simp[Gc]at this
    exact False.elim (A5 [_,_] [A7 x0 x1,A9 x1 x0] rT h3 this)
   |cons d rest=>
    obtain⟨hd,hr⟩:=Cw e3;simp[Gc]at hd
    obtain⟨c',hc',rfl⟩:=hd;rw[hc]at hc';cases hc';have ho:Gg [I] s.heap h':=Iy (λb o n e=>(hs'.2 b n).trans e) (Nat.le_of_eq hs'.1.symm) it.notPrv
    apply yo;intro _ k0
    obtain⟨o',ho',hc',hd'⟩:=id hit';apply k0
    exact h2 _ rest rfl _ h' (s.toks+1) ho (by exact⟨_,rfl⟩) ⟨⟨it.1,it.2.1,o',_,_,ho',hc',(Gu _).1,hd'⟩,i+1,hit',hr⟩
 go A s ρ σ tgt v rest Q E _ I0 tt h:=by
  apply yo;intro _ k0
  obtain⟨it,i,⟨o,ho,hc,hd⟩,e3⟩:=id tt;apply k0
  exact Gk ho hc hd (Gu _).2 (h s.heap Im tt)
theorem Wi{I:Addr}{x:Str}{tk:Tok}:Hm G I (Xl G I x tk):=λA s ρ σ rem Q E hh tt h=>by
 obtain⟨it,i,e2,e3⟩:=tt;unfold D9 at e2;split at e2
 ·exact(Walks.strAscii (prog:=G.prog) (w:=G.w) (A:=A) hh I x tk).self i s Q E e2 h
 ·exact(Walks.strWide (prog:=G.prog) (w:=G.w) (A:=A) hh I x tk).self i s Q E e2 h
noncomputable def Di (a step:Int) (n:Nat):List D:=(List.range n).map λ(j:Nat)=>D.int (a+j*step)
theorem Kz{a step:Int}:Di a step 0=[]:=rfl
theorem Gr{a step:Int}{n:Nat}:Di a step (n+1)=.int a::Di (a+step) step n:=by
 simp only[Di,List.range_succ_eq_map,List.map_cons,List.map_map];refine congr (congrArg List.cons ?_) ?_
 ·simp
 ·refine List.map_congr_left λj _=>?_
  simp only[Function.comp];congr 1
  have:((j.succ:Nat):Int)=(j:Int)+1:=by exact Gh (λZ=>Ac [_] [A7 (.a x0 (.n 1)) (.a x0 (.n 1))] rT Z) (λZ=>Ac [_] [A7 (.a x0 (.n 1)) (.a x0 (.n 1))] rT Z)
  rw[this,Int.add_mul];exact Gh (λZ=>Ac [_,_,_] [A7 (.a x0 (.a x1 (.m 1 x2))) (.a (.a x0 x2) x1)] rT Z) (λZ=>Ac [_,_,_] [A7 (.a (.a x0 x2) x1) (.a x0 (.a x1 (.m 1 x2)))] rT Z)
noncomputable def Xz (G:Gd) (I:Addr) (step:Int):List D->Heap->List Addr->Bp->Prop:=λrem h ρ σ=>O1 G h ρ I/\∃(x:Int) (n:Nat),IsRangeIter h I x n step/\rem=Di x step n
theorem zAu{I:Addr}{step:Int}:zA0 G I [I] (λ_=>True) (λ_=>True) (Xz G I step) (λ_=>Xz G I step) where
 own rem h ρ σ t q m:=by rw[lq0 m];exact .inl (.inl t.1)
 ownM v rem h ρ σ t q m:=by rw[lq0 m];exact .inl (.inl t.1)
 keep P rem s ρ σ s' ρ' σ' tt I0 I' x N g:=by
  obtain⟨it,y,n,hr,e3⟩:=tt;obtain⟨it',z⟩:=it.keep x N;exact⟨it',y,n,z.trans hr,e3⟩
 next A s ρ σ rem Q E hh I0 tt h1 h2:=by
  apply yo;intro _ k0
  obtain⟨it,y,n,hr,e3⟩:=tt;apply k0
  cases n with
  |zero=>
   rw[Kz]at e3;subst e3;refine Dm (wpAny_pyNext_range_end hh hr (by simp) λh' x z=>?_)
   exact h1 rfl h' s.toks (Iy (λb o n e=>x b o n e) z it.notPrv)
  |succ n=>
   rw[Gr]at e3;subst e3;refine wpAny_pyNext_range_item hr (by exact Dq λZ=>Ac [(↑n)] [A9 (.a x0 (.n 1)) (.n 0),A9 (.n 0) x0] rT Z (Az _)) λh' hit' hs'=>?_
   have ho:Gg [I] s.heap h':=Iy (λb o n e=>(hs'.2 b n).trans e) (Nat.le_of_eq hs'.1.symm) it.notPrv
   refine h2 _ _ rfl _ h' (s.toks+1) ho (by exact⟨_,rfl⟩) ⟨⟨it.1,it.2.1,_,_,_,hit',rfl,by decide,rfl⟩,y+step,n,?_,rfl⟩
   have:(((n+1:Nat):Int) - 1)=(n:Int):=by exact Gh (λZ=>Ac [_] [A7 (.s (.a x0 (.n 1)) (.n 1)) x0] rT Z) (λZ=>Ac [_] [A7 x0 (.s (.a x0 (.n 1)) (.n 1))] rT Z)
   rw[this]at hit';exact hit'
 go A s ρ σ tgt v rest Q E _ I0 tt h:=by
  apply yo;intro _ k0
  obtain⟨it,y,n,hr,e3⟩:=id tt;apply k0
  exact Gk hr rfl rfl (by decide) (h s.heap Im tt)
theorem Z5{I:Addr}{step:Int}:Hm G I (Xz G I step):=λA s ρ σ rem Q E hh tt h=>by
 apply yo;intro _ k0
 obtain⟨it,y,n,hr,e3⟩:=tt;apply k0
 refine(Walks.range (prog:=G.prog) (w:=G.w) (A:=A) hh I y step n).self 0 s Q E ?_ h
 simpa using hr
noncomputable def Ba:D->Mn Gz
 |.ref k=>λst=>match st.sto[k]? with
  |some (.list ds)=>.ok ⟨ds,λσ=>σ[k]? =some (.list ds)⟩ st
  |_=>.bot
 |.tup ds=>ret1 ⟨ds,λ_=>True⟩
 |.str x=>ret1 ⟨Gc x,λ_=>True⟩
 |_=>botM
noncomputable def zCs (G:Gd) (A:Around) (env:Env) (s:Shared) (ρ:List Addr) (st:St) (tg:Expr->Prop) (v:Value) (m:Mn Gz):Prop:=
 m st≠.bot->wpAny G.M A (pyIter v) (Vz G s ρ st tg (m st)) (Bc G env s ρ st (m st)) s
theorem zD5{d:D}{v:Value}(K:Ok G C A P env s ρ st) (r:C9 G s.heap ρ d v):zCs G A env s ρ st (λ_=>True) v (Ba d):=λhb=>by
 cases d with
 |ref k=>
  obtain⟨a,rfl,e1⟩:=r
  cases e:st.sto[k]? with
  |none=>exact absurd (by unfold Ba;simp only[e]) hb
  |some o=>
   cases o with
   |list ds=>
    obtain⟨vs,hl,rr⟩:=K.inv.sto k a (.list ds) e1 e;refine wpAny_pyIter_list hl.list ?_
    have g:=Av.push s.heap {cls:=.type "list_iterator",data:=.fields #[.ref a,.int 0 0]};exact⟨ρ,⟨ds,λσ=>σ[k]? =some (.list ds)⟩,st.sto,s.heap.objs.size,[s.heap.objs.size],Rs G s.heap.objs.size k ds,λ_=>Rs G s.heap.objs.size k ds,by unfold Ba;simp only[e],K.inv.grow g Am s.toks,g.ev Am,rfl,Y8,Vg,
     ⟨Me K.inv (by decide) 0,e,a,0,e1,⟨_,Heap.get?_push_size _ rfl,rfl,rfl⟩,rfl⟩,λq m=>by rw[lq0 m];exact Nat.le_refl _⟩
   |_=>exact absurd (by unfold Ba;simp only[e]) hb
 |tup ds=>
  obtain⟨a,vs,rfl,n,ht,rr⟩:=r;have htt:s.heap.IsTuple a vs:=let⟨n,e⟩:=ht;⟨_,e,rfl,n,rfl⟩
  refine wpAny_pyIter_tuple htt ?_
  have g:=Av.push s.heap {cls:=.type "tuple_iterator",data:=.fields #[.ref a,.int 0 0]};have S:Jg s.heap ρ _ ρ:=g.stb
  obtain⟨n',ht'⟩:=S.tup a vs n ht;exact⟨ρ,⟨ds,λ_=>True⟩,st.sto,s.heap.objs.size,[s.heap.objs.size],Wx G s.heap.objs.size a vs ds,λ_=>Wx G s.heap.objs.size a vs ds,rfl,K.inv.grow g Am s.toks,g.ev Am,rfl,zA9,zAX,
   ⟨Me K.inv (by decide) 0,n',ht',Au.mono S _ _ rr,0,⟨_,Heap.get?_push_size _ rfl,rfl,rfl⟩,rfl⟩,λq m=>by rw[lq0 m];exact Nat.le_refl _⟩
 |str x=>
  obtain⟨t,rfl⟩:=r;have fin:∀T,D9 x=T->(Vz G s ρ st (λ_=>True) (Ba (.str x) st)) (.ref s.heap.objs.size) {s with heap:=s.heap.push {cls:=.type T,data:=.fields #[.str x t,.int 0 0]}}:=by
   rintro T rfl
   have g:=Av.push s.heap {cls:=.type (D9 x),data:=.fields #[.str x t,.int 0 0]};exact⟨ρ,⟨Gc x,λ_=>True⟩,st.sto,s.heap.objs.size,[s.heap.objs.size],Xl G s.heap.objs.size x t,λ_=>Xl G s.heap.objs.size x t,rfl,K.inv.grow g Am s.toks,g.ev Am,rfl,zC7,Wi,
    ⟨Me K.inv (Gu x).1 0,0,⟨_,Heap.get?_push_size _ rfl,rfl,rfl⟩,rfl⟩,λq m=>by rw[lq0 m];exact Nat.le_refl _⟩
  cases ha:x.cps.all (· <128)with
  |true=>exact wpAny_pyIter_ascii ha (fin _ (by simp[D9,ha]))
  |false=>exact wpAny_pyIter_wide ha (fin _ (by simp[D9,ha]))
 |_=>exact absurd rfl hb
theorem zEj{e:Expr}{tg:Expr->Prop}{m:Mn D}{f:D->Mn Gz}(h:SE G C e m) (hf:∀A P env s ρ st d v,Ok G C A P env s ρ st->C9 G s.heap ρ d v->zCs G A env s ρ st tg v (f d)):SI G C e tg (bnd m f):=.mk <| λA P env s ρ st K hb=>by
 refine wpAny_mono (h.run A P env s ρ st K (An hb)) (λv s' q=>?_) λx s' q=>?_
 ·refine Fh.elim q λρ' d σ' e I' x r=>?_
  have e':bnd m f st=f d ⟨st.loc,σ'⟩:=by simp only[bnd,e]
  rw[e']at hb ⊢;refine wpAny_mono (hf A P env s' ρ' _ d v (K.step I' x) r hb) (λit s'' q=>?_) λw s'' q=>?_
  ·obtain⟨ρ'',src,σ'',I,S,T,Md,e2,I'',x2,rfl,X,X',T0,hS⟩:=q;exact⟨ρ'',src,σ'',I,S,T,Md,e2,I'',x.trans x2,rfl,X,X',T0,λq m=>Nat.le_trans x.size (hS q m)⟩
  ·exact Bc.tr q x
 ·exact Bc.bnd q
theorem zDq{e:Expr}{m:Mn D}(h:SE G C e m):SI G C e (λ_=>True) (bnd m Ba):=zEj h λA P env s ρ st d v K r=>zD5 K r
end
noncomputable def D2 (env:Env):List (Str×NameKind)->List (Str×Addr)->List (Str×Addr)
 |[],acc=>acc
 |(x,k)::r,acc=>if k== .free then(match env.cells.lookup x with
   |some c=>D2 env r ((x,c)::acc)
   |none=>D2 env r acc)else D2 env r acc
theorem T8{env:Env}{x:Str}{k:NameKind}{r:List (Str×NameKind)}{acc:List (Str×Addr)}{c:Addr}(hk:(k==NameKind.free)=true) (hc:env.cells.lookup x=some c):D2 env ((x,k)::r) acc=D2 env r ((x,c)::acc):=by
 show(if(k==NameKind.free)=true then(match env.cells.lookup x with|some c=>D2 env r ((x,c)::acc)|none=>D2 env r acc)else D2 env r acc)=_
 rw[if_pos hk,hc]
theorem Pf{env:Env}{x:Str}{k:NameKind}{r:List (Str×NameKind)}{acc:List (Str×Addr)}(h:(k==NameKind.free)=true->env.cells.lookup x=none):D2 env ((x,k)::r) acc=D2 env r acc:=by
 show(if(k==NameKind.free)=true then(match env.cells.lookup x with|some c=>D2 env r ((x,c)::acc)|none=>D2 env r acc)else D2 env r acc)=_
 by_cases hk:(k==NameKind.free)=true
 ·rw[if_pos hk,h hk]
 ·rw[if_neg hk]
theorem Rj{P:Prop}{env:Env}{x:Str}{k:NameKind}{r:List (Str×NameKind)}{acc:List (Str×Addr)}(w1:∀c,env.cells.lookup x=some c->D2 env ((x,k)::r) acc=D2 env r ((x,c)::acc)->P) (w2:(k=.free->env.cells.lookup x=none)->D2 env ((x,k)::r) acc=D2 env r acc->P):P:=by
 by_cases hk:(k==NameKind.free)=true
 ·cases hc:env.cells.lookup x with
  |none=>exact w2 (λ_=>hc) (Pf λ_=>hc)
  |some c=>exact w1 c hc (T8 hk hc)
 ·exact w2 (λz=>absurd (by rw[z];rfl) hk) (Pf λz=>absurd z hk)
theorem J3(env:Env) (f:Str×NameKind->List (Str×Addr)->Sem (ForInStep (List (Str×Addr))))
  (hf:∀x k cs,f (x,k) cs=if k== .free then(do let a ←cellOf env x;pure (.yield ((x,a)::cs)))else pure (.yield cs)):∀(names:List (Str×NameKind)) (acc:List (Str×Addr)),(∀x,(x,NameKind.free)∈names->(env.cells.lookup x).isSome=true)->
  (forIn names acc f:Sem (List (Str×Addr)))=pure (D2 env names acc)
 |[],acc,_=>rfl
 |(x,k)::r,acc,h=>by
  simp only[List.forIn_cons,hf];have ih:=λacc=>J3 env f hf r acc λy m=>h y (lq4 _ m)
  cases hk:k==NameKind.free with
  |true=>
   have hk':k=.free:=beq_iff_eq.mp hk
   obtain⟨c,hc⟩:=Option.isSome_iff_exists.mp (h x (by rw[hk'];exact lq1))
   rw[T8 hk hc];simp only[if_true,hc,cellOf,hk];exact ih ((x,c)::acc)
  |false=>
   rw[Pf λz=>by rw[hk]at z;cases z]
   simp only[hk,Bool.false_eq_true,if_false];exact ih acc
theorem O9{scope:Scope}{env:Env}(h:∀x,(x,NameKind.free)∈scope.names->(env.cells.lookup x).isSome=true):closureFor scope env=pure (D2 env scope.names []):=by
 dsimp only[closureFor]
 rw[J3 env _ (λx k cs=>by cases hk:k==NameKind.free<;>simp[hk]) scope.names [] h]
 rfl
theorem L8(env:Env):∀(names:List (Str×NameKind)) (acc:List (Str×Addr)),(∀p,p∈acc->env.cells.lookup p.1=some p.2)->∀p,p∈D2 env names acc->env.cells.lookup p.1=some p.2
 |[],acc,h,p,m=>h p m
 |(x,k)::r,acc,h,p,m=>Rj (λc hc e=>L8 env r _ (λq mq=>by
   rcases List.mem_cons.mp mq with rfl|mq
   ·exact hc
   ·exact h q mq) p (e▸m)) λ_ e=>L8 env r acc h p (e▸m)
theorem L7(env:Env):∀(names:List (Str×NameKind)) (acc:List (Str×Addr)) (x:Str) (c:Addr),env.cells.lookup x=some c->((x,NameKind.free)∈names∨(x,c)∈acc)->(x,c)∈D2 env names acc
 |[],acc,x,c,_,h=>h.elim (λz=>nomatch z) id
 |(y,k)::r,acc,x,c,e,h=>Rj (x:=y) (k:=k) (r:=r) (acc:=acc) (env:=env) (λc' hc' e1=>by
   rw[e1];refine L7 env r _ x c e ?_
   rcases h with h|h
   ·rcases List.mem_cons.mp h with z|z
    ·cases z;rw[e]at hc';cases hc';exact .inr lq1
    ·exact .inl z
   ·exact .inr (lq4 _ h)) λhn e1=>by
   rw[e1];refine L7 env r _ x c e ?_
   rcases h with h|h
   ·rcases List.mem_cons.mp h with z|z
    ·cases z;rw[hn rfl]at e;cases e
    ·exact .inl z
   ·exact .inr h
theorem Fd{α:Type}:∀(l:List (Str×α)) (x:Str) (c:α),(x,c)∈l->(l.lookup x).isSome=true
 |[],_,_,h=>nomatch h
 |p::r,x,c,h=>by
  simp only[List.lookup];split
  ·rfl
  ·rcases List.mem_cons.mp h with e|m
   ·rename_i q;rw[←e]at q;simp at q
   ·exact Fd r x c m
theorem Fr{env:Env}{names:List (Str×NameKind)}{x:Str}{c:Addr}(h:(D2 env names []).lookup x=some c):env.cells.lookup x=some c:=
 L8 env names [] (λ_ m=>nomatch m) (x,c) (mem_of_lookup h)
theorem Vs{env:Env}{names:List (Str×NameKind)}{x:Str}{c:Addr}(hm:(x,NameKind.free)∈names) (h:env.cells.lookup x=some c):(D2 env names []).lookup x=some c:=by
 obtain⟨c',e⟩:=Option.isSome_iff_exists.mp (Fd _ _ _ (L7 env names [] x c h (.inl hm)))
 have:=Fr e
 rw[h]at this;cases this;exact e
theorem I6{α β:Type}(f:Str×α->Str×β) (hf:∀p,(f p).1=p.1):∀(l:List (Str×α)) (x:Str),(l.map f).lookup x=(l.lookup x).map λk=>(f (x,k)).2
 |[],_=>rfl
 |(y,k)::r,x=>by
  have hk:=hf (y,k);rw[List.map_cons];rw[show f (y,k)=((f (y,k)).1,(f (y,k)).2)from rfl,hk]
  simp only[List.lookup]
  cases e:x==y with
  |true=>simp only;rw[beq_iff_eq.mp e];rfl
  |false=>simp only;exact I6 f hf r x
theorem N3{scope:Scope}{env:Env}(x:Str):(relabel scope env).names.lookup x=(scope.names.lookup x).map λk=>if(k==NameKind.free&&env.scope.kind== .function&&env.kindOf x==some .cell)then NameKind.cell else k:=by
 show(scope.names.map _).lookup x=_
 rw[I6 _ (λp=>by dsimp only;split<;>rfl)]
 cases scope.names.lookup x with
 |none=>rfl
 |some k=>simp only[Option.map_some];congr 1;split<;>rfl
open Classical in
noncomputable def Ea (tgt:D->Be->Option Be) (g:Bp->Prop) (test:Mn Bool) (elt:Mn D):List D->List D->Mn (List D)
 |[],acc=>λst=>if g st.sto then .ok acc st else .bot
 |d::rest,acc=>λst=>if g st.sto then
   match tgt d st.loc with
   |none=>.bot
   |some loc'=>match test ⟨loc',st.sto⟩with
    |.ok true st'=>(match elt st' with
     |.ok x st''=>Ea tgt g test elt rest (acc++[x]) st''
     |.exc c st''=>.exc c st''
     |.bot=>.bot)
    |.ok false st'=>Ea tgt g test elt rest acc st'
    |.exc c st'=>.exc c st'
    |.bot=>.bot
  else .bot
section
variable {tgt:D->Be->Option Be}{g:Bp->Prop}{test:Mn Bool}{elt:Mn D}{d:D}{rest acc:List D}{st:St}
open Classical in
theorem Gm:Ea tgt g test elt [] acc st=if g st.sto then .ok acc st else .bot:=rfl
open Classical in
theorem Cv:Ea tgt g test elt (d::rest) acc st=if g st.sto then
   match tgt d st.loc with
   |none=>.bot
   |some loc'=>match test ⟨loc',st.sto⟩with
    |.ok true st'=>(match elt st' with
     |.ok x st''=>Ea tgt g test elt rest (acc++[x]) st''
     |.exc c st''=>.exc c st''
     |.bot=>.bot)
    |.ok false st'=>Ea tgt g test elt rest acc st'
    |.exc c st'=>.exc c st'
    |.bot=>.bot
  else .bot:=rfl
end
structure Pe (G:Gd) (C:Cx) (ifs:List Expr) (m:Mn Bool):Prop where
 run:∀A P env s ρ st,Ok G C A P env s ρ st->
 At G A env s ρ st RB (forIn ifs true λc r=>if r=true then do let ok ←isTrue c env (eval c env);pure (ForInStep.yield ok)else pure (ForInStep.yield r)) m
theorem zBt{G:Gd}{C:Cx}:Pe G C [] (ret1 true):=.mk <| λA P env s ρ st K=>At.pure K rfl
theorem zBm{G:Gd}{C:Cx}{c:Expr}{m:Mn Bool}(h:SB G C c m):Pe G C [c] m:=.mk <| λA P env s ρ st K hb=>wpAny_tests_one (h.run A P env s ρ st K hb)
noncomputable def G8 (is:List Nat) (loc:Be):Be:=λi=>if is.contains i then none else loc i
section
variable {G:Gd}{C C':Cx}{A:Around}{P:List Addr}{env:Env}
inductive zCx (G:Gd) (tbl:List Str) (cenv:Env) (hs:Heap) (ρs:List Addr) (q:Addr) (r:Gq (List D)) (s':Shared):Prop
 |mk (ρ':List Addr) (xs:List D) (st':St) (vs:Array Value):r=.ok xs st'->Ci G s' ρ' st'.sto->Ev [cenv.locals] hs ρs s'.heap ρ'->Hg G tbl [cenv.locals] cenv s'.heap ρ' st'.loc->q∉ρ'->Hp s'.heap q vs->Au G s'.heap ρ' xs vs.toList->zCx G tbl cenv hs ρs q r s'
inductive zCj (G:Gd) (tbl:List Str) (A:Around) (cenv:Env) (hs:Heap) (ρs:List Addr) (r:Gq (List D)) (x:Value) (s':Shared):Prop
 |mk (ρ':List Addr) (c:Addr) (st':St) (a L:Addr):r=.exc c st'->Ci G s' ρ' st'.sto->Ev [cenv.locals] hs ρs s'.heap ρ'->Hg G tbl [cenv.locals] cenv s'.heap ρ' st'.loc->Qu G A cenv s'.heap ρ'->x=.ref a->cenv.frame=some L->M5 hs.objs.size s'.heap (rawInt L) a c->zCj G tbl A cenv hs ρs r x s'
noncomputable def zDA (G:Gd) (tbl:List Str) (A:Around) (cenv:Env) (hs:Heap) (ρs:List Addr) (q:Addr) (r:Gq (List D)):Result->Shared->Prop
 |.ok _,s'=>zCx G tbl cenv hs ρs q r s'
 |.error x,s'=>zCj G tbl A cenv hs ρs r x s'
theorem zCL{I:Addr}{S:List Addr}{tg:Expr->Prop}{g:Bp->Prop}{T:List D->Heap->List Addr->Bp->Prop}{Md:Value->List D->Heap->List Addr->Bp->Prop}(X:zA0 G I S tg g T Md)
  {elt target iter:Expr}{ifs:List Expr}{scope:Scope}{pos:Pos}{tf:D->Be->Option Be}{mt:Mn Bool}{me:Mn D}{cenv:Env}{q:Addr}
  (hC:C'.inh=false) (ht:tg target) (hT:ST G C' false target tf) (hTs:Pe G C' ifs mt) (hE:SE G C' elt me){hs:Heap}{ρs:List Addr}(hb0:∀b,hs.objs.size<=b->G.h0.get? b=none) (hq:hs.objs.size<=q) (hS:∀q',q'∈S->hs.objs.size<=q'∨q'∈ρs) (hqS:q∉S) (hqC:q≠cenv.locals):
  ∀(ds acc:List D) (s:Shared) (ρ:List Addr) (st:St) (vs:Array Value),Ok G C' A [cenv.locals] cenv s ρ st->T ds s.heap ρ st.sto->Ev [cenv.locals] hs ρs s.heap ρ->q∉ρ->Hp s.heap q vs->Au G s.heap ρ acc vs.toList->
   acc.length+ds.length<=sizeLine->Ea tf g mt me ds acc st≠.bot->
   codeAny G.M A (.compLoop (.ListComp elt [⟨target,iter,ifs,0⟩] scope pos) 0 (.ref I) (.ref q) cenv) (zDA G C'.tbl A cenv hs ρs q (Ea tf g mt me ds acc st)) s:=by
 intro ds
 induction ds with
 |nil=>
  intro acc s ρ st vs K hTT x hqr hl r hz hbot;have hg:g st.sto:=by
   by_cases h:g st.sto
   ·exact h
   ·exact absurd (by(first|rw[Gm,if_neg h]|rw[Cv,if_neg h])) hbot
  refine codeAny_of_tree ?_
  show wpAny _ A ((compTurn (.ListComp elt [⟨target,iter,ifs,0⟩] scope pos) 0 (.ref I) (.ref q) cenv).onRaise (λx=>do noteFrame x cenv;theTreesLotGoes x)) _ _ s
  refine wpAny_noted ?_
  rw[compTurn_list];refine wpAny_bind (wpAny_standAt (wpAny_bind (X.next A s ρ st.sto [] _ _ (K.room.hd hC) K.inv hTT (λ_ h' tk ho=>?_) (λd rest e=>by cases e))))
  have K':=K.only ho (X.own _ _ _ _ hTT) tk;have Sb:=ho.stb (X.own _ _ _ _ hTT);obtain⟨n,hl⟩:=hl;exact wpAny_pure ⟨ρ,acc,st,vs,by(first|rw[Gm,if_pos hg]|rw[Cv,if_pos hg]),K'.inv,x.only ho hS,K'.frm,hqr,⟨n,ho.1 q _ hqS hl⟩,Au.mono Sb _ _ r⟩
 |cons d rest ih=>
  intro acc s ρ st vs K hTT x hqr hl r hz hbot;have hg:g st.sto:=by
   by_cases h:g st.sto
   ·exact h
   ·exact absurd (by(first|rw[Gm,if_neg h]|rw[Cv,if_neg h])) hbot
  refine codeAny_of_tree ?_
  show wpAny _ A ((compTurn (.ListComp elt [⟨target,iter,ifs,0⟩] scope pos) 0 (.ref I) (.ref q) cenv).onRaise (λx=>do noteFrame x cenv;theTreesLotGoes x)) _ _ s
  refine wpAny_noted ?_
  rw[compTurn_list];refine wpAny_bind (wpAny_standAt (wpAny_bind (X.next A s ρ st.sto (d::rest) _ _ (K.room.hd hC) K.inv hTT (λe=>by cases e) (λd' rest' e v h' tk ho rv hM=>?_))))
  cases e;have K₁:=K.only ho (X.own _ _ _ _ hTT) tk;refine wpAny_bind (X.go A _ ρ st.sto target v rest _ _ ht K₁.inv hM λh₂ ho₂ hT₂=>?_)
  have K₂:=K₁.only ho₂ (X.ownM _ _ _ _ _ hM) tk;have x₂:Ev [cenv.locals] hs ρs h₂ ρ:=(x.only ho hS).only ho₂ hS
  have rv₂:C9 G h₂ ρ d v:=C9.mono (ho₂.stb (X.ownM _ _ _ _ _ hM)) d v rv
  have hl₂:Hp h₂ q vs:=let⟨n,e⟩:=hl;⟨n,ho₂.1 q _ hqS (ho.1 q _ hqS e)⟩
  have r₂:Au G h₂ ρ acc vs.toList:=Au.mono (ho₂.stb (X.ownM _ _ _ _ _ hM)) _ _ (Au.mono (ho.stb (X.own _ _ _ _ hTT)) _ _ r)
  have keepq:∀{h h':Heap}{ρ₁ ρ₂:List Addr},Ev [cenv.locals] h ρ₁ h' ρ₂->q∉ρ₁->Hp h q vs->q∉ρ₂/\Hp h' q vs:=λxx nq ⟨n,e⟩=>by
   obtain⟨o',e',sm⟩:=xx.keep q _ e nq (λm=>hqC (lq0 m))
   rw[sm.eq (λ_ _ z=>by cases z)]at e'
   exact⟨xx.notin e nq,n,e'⟩
  cases e1:tf d st.loc with
  |none=>exact absurd (by(rw[Cv,if_pos hg,e1])) hbot
  |some loc'=>
   refine wpAny_bind (hT.run A [cenv.locals] cenv {s with heap:=h₂,toks:=tk} ρ st d v loc' _ _ K₂ (λz=>by cases z) rv₂ e1 λs₃ I₃ x₃ F₃=>?_)
   have K₃:Ok G C' A [cenv.locals] cenv s₃ ρ ⟨loc',st.sto⟩:=K₂.stepS (st':=⟨loc',st.sto⟩) I₃ x₃ F₃
   obtain⟨hqr₃,hl₃⟩:=keepq x₃ hqr hl₂;have r₃:Au G s₃.heap ρ acc vs.toList:=Au.mono (x₃.stb K₂.inv K₂.frm.nt) _ _ r₂
   have T₃:T rest s₃.heap ρ st.sto:=X.keep _ rest {s with heap:=h₂,toks:=tk} ρ st.sto s₃ ρ st.sto hT₂ K₂.inv I₃ x₃ K₂.frm.nt hg
   have hnb:mt ⟨loc',st.sto⟩≠.bot:=λz=>hbot (by(rw[Cv,if_pos hg,e1];dsimp only;rw[z]))
   have exf:∀{s₄:Shared}{ρ₄:List Addr}{c:Addr}{st₄:St}{a:Addr},Ok G C' A [cenv.locals] cenv s₄ ρ₄ st₄->Ev [cenv.locals] hs ρs s₄.heap ρ₄->Wb hs.objs.size s₄.heap cenv.frame a c->Ea tf g mt me (d::rest) acc st=.exc c st₄->
     notedBy G.M A cenv (λe s'=>zDA G C'.tbl A cenv hs ρs q (Ea tf g mt me (d::rest) acc st) (.error e) s') (.ref a) s₄:=λK₄ x₄ fl e2=>
    Rk K₄.stk fl K₄.inv x₄ K₄.frm hb0 λL s₅ I₅ x₅ F₅ S₅ hL fT=>⟨_,_,_,_,L,e2,I₅,x₅,F₅,S₅,rfl,hL,fT⟩
   refine wpAny_bind (wpAny_mono (hTs.run A [cenv.locals] cenv s₃ ρ _ K₃ hnb) (λok s₄ qq=>?_) λe s₄ qq=>?_)
   ·obtain⟨ρ₄,b,σ₄,e2,I₄,x₄,rb⟩:=qq
    cases(show b=ok from rb)
    have K₄:=K₃.step I₄ x₄;obtain⟨hqr₄,hl₄⟩:=keepq x₄.nil hqr₃ hl₃;have r₄:Au G s₄.heap ρ₄ acc vs.toList:=Au.mono (x₄.stb K₃.inv .nil) _ _ r₃
    have xx₄:Ev [cenv.locals] hs ρs s₄.heap ρ₄:=(x₂.trans x₃).trans x₄.nil
    cases ok with
    |false=>
     have e3:Ea tf g mt me (d::rest) acc st=Ea tf g mt me rest acc ⟨loc',σ₄⟩:=by(rw[Cv,if_pos hg,e1];dsimp only;rw[e2])
     rw[e3]at hbot ⊢;have hg₄:g σ₄:=by
      by_cases h:g σ₄
      ·exact h
      ·exact absurd (by cases rest<;>(first|rw[Gm,if_neg h]|rw[Cv,if_neg h])) hbot
     exact wpAny_pure (And.intro rfl (ih acc s₄ ρ₄ ⟨loc',σ₄⟩ vs K₄ (X.keep [] rest s₃ ρ st.sto s₄ ρ₄ σ₄ T₃ K₃.inv I₄ x₄ .nil hg₄) xx₄ hqr₄ hl₄ r₄ (by simp at hz;exact Ar λZ=>A5 [_,_,_] [A7 x2 (.a x0 x1),A9 (.a x0 (.a x1 (.n 1))) x2] rT Z hz) hbot))
    |true=>
     have hnb2:me ⟨loc',σ₄⟩≠.bot:=λz=>hbot (by(rw[Cv,if_pos hg,e1];dsimp only;rw[e2];dsimp only;rw[z]))
     refine wpAny_bind (wpAny_bind (wpAny_mono (hE.run A [cenv.locals] cenv s₄ ρ₄ _ K₄ hnb2) (λy s₅ qq=>?_) λe s₅ qq=>?_))
     ·obtain⟨ρ₅,dy,σ₅,e4,I₅,x₅,ry⟩:=qq;have K₅:=K₄.step I₅ x₅;obtain⟨hqr₅,hl₅⟩:=keepq x₅.nil hqr₄ hl₄;have r₅:Au G s₅.heap ρ₅ acc vs.toList:=Au.mono (x₅.stb K₄.inv .nil) _ _ r₄
      have xx₅:Ev [cenv.locals] hs ρs s₅.heap ρ₅:=xx₄.trans x₅.nil
      have e3:Ea tf g mt me (d::rest) acc st=Ea tf g mt me rest (acc++[dy]) ⟨loc',σ₅⟩:=by(rw[Cv,if_pos hg,e1];dsimp only;rw[e2];dsimp only;rw[e4])
      rw[e3]at hbot ⊢;have hg₅:g σ₅:=by
       by_cases h:g σ₅
       ·exact h
       ·exact absurd (by cases rest<;>(first|rw[Gm,if_neg h]|rw[Cv,if_neg h])) hbot
      have hsz:vs.size<=sizeLine:=by
       have:=r.all2.length
       simp at this hz
       exact Ar λZ=>A5 [_,_,_,_] [A7 x0 x1,A9 (.a x2 (.a x3 (.n 1))) x0,B0 x1 x2,A9 (.n 0) x3] rT Z hz this (lq5 _)
      obtain⟨n₅,hl₅'⟩:=id hl₅;refine wpAny_bind ?_
      refine call_meets slot_list_append hl₅.list.typeIs entry_list_append (args_list_append _ _) (S:=λ_ R s=>s.heap.get? q=some (F6 vs n₅)/\R (.ok (.ret .none)) {s with heap:=s.heap.update q (Obj.mapSeq (·.push y))}) ?_ ⟨hl₅',?_⟩
      ·refine .of_wp λprog w A R s h=>?_
       show wpAny _ _ (updateSeq q (·.push y) >>= λ_=>ret .none) _ _ s
       exact wpAny_bind (wpAny_updateSeq h.1 rfl (wpAny_pure ⟨.none,rfl,h.2⟩))
      have hnew:(s₅.heap.update q (Obj.mapSeq (·.push y))).get? q=some (F6 (vs.push y) (n₅+1)):=by
       rw[Heap.get?_update_self _ hl₅' rfl];simp[Obj.mapSeq]
      have hsame:Heap.SameBut q s₅.heap (s₅.heap.update q (Obj.mapSeq (·.push y))):=Heap.SameBut.update ..
      have ho6:Gg [q] s₅.heap (s₅.heap.update q (Obj.mapSeq (·.push y))):=Iy (λb o n e=>(hsame.2 b n).trans e) (Nat.le_of_eq hsame.1.symm) (λ⟨u,v,z⟩=>by rw[hl₅']at z;exact He (Option.some.inj z).symm)
      have own6:∀q',q'∈[q]->R5 G s₅.heap ρ₅ σ₅ q':=λq' m=>by rw[lq0 m];exact .inl (.inr ⟨hb0 q hq,hqr₅,vs,hl₅⟩)
      have K₆:=K₅.only ho6 own6 s₅.toks;have S₆:=ho6.stb own6;have T₅:T rest s₅.heap ρ₅ σ₅:=X.keep [] rest s₃ ρ st.sto s₅ ρ₅ σ₅ T₃ K₃.inv I₅ (x₄.trans x₅) .nil hg₅
      have x6:Ev [q] s₅.heap ρ₅ (s₅.heap.update q (Obj.mapSeq (·.push y))) ρ₅:=⟨λ_ _ e=>e,λb o e _ n=>⟨o,ho6.1 b o n e,.refl o⟩,λ_ m=>.inl m,ho6.2.1⟩
      have nt6:NT s₅.heap [q]:=λp m=>by rw[lq0 m];exact⟨_,hl₅',.inr (.inr ⟨_,_,rfl⟩)⟩
      have T₆:=X.keep [q] rest s₅ ρ₅ σ₅ _ ρ₅ σ₅ T₅ I₅ K₆.inv x6 nt6 hg₅;refine wpAny_pure (wpAny_pure (And.intro rfl (ih (acc++[dy]) _ ρ₅ ⟨loc',σ₅⟩ (vs.push y) K₆ T₆ (xx₅.only ho6 (λq' m=>.inl (by rw[lq0 m];exact hq))) hqr₅ ⟨_,hnew⟩ ?_ (by simp at hz ⊢; exact Ar λZ=>A5 [_,_,_] [A7 x2 (.a (.a x0 (.n 1)) x1),A9 (.a x0 (.a x1 (.n 1))) x2] rT Z hz) hbot)))
      simp only[Array.toList_push];exact Au.of_all2 ((Au.mono S₆ _ _ r₅).all2.append (.cons (C9.mono S₆ _ _ ry) .nil))
     ·apply yo;intro _ k0
      obtain⟨ρ₅,c,σ₅,a,e4,I₅,x₅,rfl,fl⟩:=qq;apply k0
      exact exf (K₄.step I₅ x₅) (xx₄.trans x₅.nil) (fl.from xx₄.size) (by(rw[Cv,if_pos hg,e1];dsimp only;rw[e2];dsimp only;rw[e4]))
   ·obtain⟨ρ₄,c,σ₄,a,e2,I₄,x₄,rfl,fl⟩:=qq;exact exf (K₃.step I₄ x₄) ((x₂.trans x₃).trans x₄.nil) (fl.from (x₂.trans x₃).size) (by(rw[Cv,if_pos hg,e1];dsimp only;rw[e2]))
end
open Classical in
noncomputable def Bm (cls:List Nat) (tf:D->Be->Option Be) (mt:Mn Bool) (me:Mn D) (src:Gz):Mn D:=λst=>
 if src.ds.length<=sizeLine then
  match Ea tf src.g mt me src.ds [] ⟨G8 cls st.loc,st.sto⟩with
  |.ok xs st'=>.ok (.ref st'.sto.length) ⟨st.loc,st'.sto++[.list xs]⟩
  |.exc c st'=>.exc c ⟨st.loc,st'.sto⟩
  |.bot=>.bot
 else .bot
structure Mv (C:Cx) (scope:Scope) (cls:List Nat):Prop where
 kind:scope.kind=.function
 nocell:∀x,x∈scope.names->x.2≠.cell
 nl:∀x,x∈scope.names->x.2=.local->scope.names.lookup x.1=some .local
 free:∀x,x∈scope.names->x.2=.free->(C.names.lookup x.1=some .cell∨C.names.lookup x.1=some .free)/\x.1∈C.tbl
 cls:∀(i:Nat) x,C.tbl[i]? =some x->scope.names.lookup x=some .local->cls.contains i=true
section
variable {G:Gd}{C:Cx}{A:Around}{P:List Addr}{env:Env}{s:Shared}{ρ:List Addr}{st:St}
theorem P4{elt target iter:Expr}{ifs:List Expr}{scope:Scope}{pos cpos:Pos}{cls:List Nat}{tg:Expr->Prop}{mi:Mn Gz}{tf:D->Be->Option Be}{mt:Mn Bool}{me:Mn D}
  (hC:C.inh=false) (hS:Mv C scope cls) (hI:SI G C iter tg mi) (ht:tg target) (hT:ST G ⟨scope.names,C.tbl,C.lvl,C.inh,C.code,C.qual⟩ false target tf) (hTs:Pe G ⟨scope.names,C.tbl,C.lvl,C.inh,C.code,C.qual⟩ ifs mt) (hE:SE G ⟨scope.names,C.tbl,C.lvl,C.inh,C.code,C.qual⟩ elt me)
  (hs:∀env x,foldedSetIterable iter env x=pure x) (K:Ok G C A P env s ρ st) (hb:bnd mi (Bm cls tf mt me) st≠.bot){use:Option (Value->Sem Unit)}{Q:Value->Shared->Prop}{E:Value->Shared->Prop}
  (hQ:∀(s':Shared) (ρ':List Addr) (d:D) (σ':Bp) (v:Value) (C0:Addr),bnd mi (Bm cls tf mt me) st=.ok d ⟨st.loc,σ'⟩->Ci G s' ρ' σ'->Ev [] s.heap ρ s'.heap ρ'->C9 G s'.heap ρ' d v->s.heap.objs.size<=C0->C0∉ρ'->(∃m,s'.heap.Ns C0 m)->
   match use with
   |none=>∀h',Heap.SameBut C0 s'.heap h'->Q v {s' with heap:=h'}
   |some u=>wpAny G.M A (u v) (λ_ s''=>∃m,s''.heap.Ns C0 m/\∀h',Heap.SameBut C0 s''.heap h'->Q .none {s'' with heap:=h'}) E s')
  (hX:∀x s',Bc G env s ρ st (bnd mi (Bm cls tf mt me) st) x s'->E x s'):
  wpAny G.M A (comprehension (.ListComp elt [⟨target,iter,ifs,0⟩] scope pos) scope env cpos (newList []) false (eval iter env) use) Q E s:=by
 have hclos:closureFor scope env=pure (D2 env scope.names []):=O9 λx m=>by
  apply yo;intro _ k0
  obtain⟨hk,mt⟩:=hS.free (x,.free) m rfl
  obtain⟨i,hi,e⟩:=List.getElem_of_mem mt;apply k0
  have hk':env.kindOf x=some .cell∨env.kindOf x=some .free:=hk.elim (λh=>.inl (K.sees.cell x h)) (K.sees.free x)
  obtain⟨c,hc,_⟩:=K.frm.cell i x (by rw[List.getElem?_eq_getElem hi,e]) hk'
  rw[hc];rfl
 refine wpAny_comprehension_free rfl (hs env) hclos hS.kind hS.nl ?_
 refine wpAny_mono (hI.run A P env s ρ st K (An hb)) (λx s₁ h₁=>wpAny_mono h₁ (λit s₂ q=>?_) λx s₂ q=>?_) λx s₂ q=>?_
 rotate_left
 ·exact hX _ _ (Bc.bnd q)
 ·exact hX _ _ (Bc.bnd q)
 obtain⟨ρ₂,src,σ₂,Ia,S,T,Md,e,I₂,x₂,rfl,X,Xs,hT0,hSn⟩:=q;have e':bnd mi (Bm cls tf mt me) st=Bm cls tf mt me src ⟨st.loc,σ₂⟩:=by simp only[bnd,e]
 have K₂:=K.step I₂ x₂;have hlen:src.ds.length<=sizeLine:=by
  by_cases h:src.ds.length<=sizeLine
  ·exact h
  ·exact absurd (by rw[e'];(unfold Bm;rw[if_neg h])) hb
 have hnb:Ea tf src.g mt me src.ds [] ⟨G8 cls st.loc,σ₂⟩≠.bot:=λz=>hb (by rw[e'];(unfold Bm;rw[if_pos hlen,z]))
 refine wpAny_newObj_type ?_ (by size_fits)
 refine wpAny_newFunctionEnv hS.nocell (λx m=>nomatch m) (λh₄ hn₄ hs₄=>?_) hS.kind
 generalize hq0:s₂.heap.objs.size=q at*
 have hC0:(s₂.heap.push {cls:=.type "list",data:=.seq #[]}).objs.size=q+1:=by rw[Heap.size_push,hq0]
 rw[hC0]at hn₄ hs₄ ⊢;generalize hC1:q+1=C0 at*
 have hqC:q<C0:=hC1▸Nat.lt_succ_self q
 have g₄:Av s₂.heap h₄:=λb o ho=>by
  have hb:b<q:=hq0▸Heap.lt_size ho
  exact(hs₄.2 b (Nat.ne_of_lt (Nat.lt_trans hb hqC))).trans (Heap.get?_push_of_some _ (Heap.get?_push_of_some _ ho))
 have z₄:s₂.heap.objs.size<=h₄.objs.size:=by rw[hs₄.1,Heap.size_push,Heap.size_push];exact Nat.le_add_right _ 2
 have hlq:Hp h₄ q #[]:=by
  refine⟨0,(hs₄.2 q (Nat.ne_of_lt hqC)).trans (Heap.get?_push_of_some _ ?_)⟩
  rw[←hq0];exact Heap.get?_push_size _ rfl
 have I₄:Ci G {s₂ with heap:=h₄} ρ₂ σ₂:=I₂.grow g₄ z₄ s₂.toks
 have x₄:Ev [] s₂.heap ρ₂ h₄ ρ₂:=g₄.ev z₄
 have lt₂:∀{a:Addr},a∈ρ₂->a<q:=λm=>hq0▸I₂.mem_lt m
 have hC0n:C0∉ρ₂:=λm=>Nat.lt_asymm (lt₂ m) hqC
 have hqn:q∉ρ₂:=λm=>Nat.lt_irrefl _ (lt₂ m)
 generalize hE0:newEnv scope C0 env.globals (D2 env scope.names []) env.qual none .none (some env) builtinsNs=ce
 have hcl0:ce.locals=C0:=by rw[←hE0];rfl
 generalize hcenv:({ce with scope:=relabel scope env}:Env)=cenv
 have eloc:cenv.locals=C0:=by rw[←hcenv];exact hcl0
 have ekind:∀x,cenv.kindOf x=(scope.names.lookup x).map λk=>if(k==NameKind.free&&env.scope.kind== .function&&env.kindOf x==some .cell)then NameKind.cell else k:=λx=>by
  rw[←hcenv];exact N3 x
 have ecells:cenv.cells=D2 env scope.names []:=by rw[←hcenv,←hE0];rfl
 have eframe:cenv.frame=env.frame:=by rw[←hcenv,←hE0];rfl
 have ecode:cenv.code=env.code:=by rw[←hcenv,←hE0];rfl
 have equal:cenv.qual=env.qual:=by rw[←hcenv,←hE0];rfl
 have kfree:∀x,cenv.kindOf x=some .cell∨cenv.kindOf x=some .free->scope.names.lookup x=some .free:=λx h=>by
  rw[ekind]at h
  cases q:scope.names.lookup x with
  |none=>rw[q]at h;rcases h with h|h<;>cases h
  |some k=>
   rw[q]at h
   cases k with
   |free=>rfl
   |cell=>exact absurd rfl (hS.nocell _ (mem_of_lookup q))
   |_=>rcases h with h|h<;>cases h
 have kloc:∀x,cenv.kindOf x=some .local->scope.names.lookup x=some .local:=λx h=>by
  rw[ekind]at h
  cases q:scope.names.lookup x with
  |none=>rw[q]at h;cases h
  |some k=>
   rw[q]at h;simp only[Option.map_some]at h;split at h
   ·cases h
   ·exact h
 have F₄:Hg G C.tbl [cenv.locals] cenv h₄ ρ₂ (G8 cls st.loc):={
  kind:=by rw[←hcenv];exact hS.kind
  glob:=by rw[←hcenv,←hE0];exact K.frm.glob
  bi:=by rw[←hcenv,←hE0];exact K.frm.bi
  ns:=⟨_,by rw[eloc];exact hn₄,λi x e k d hd=>by
   have:=hS.cls i x e (kloc x k)
   simp only[G8,this,if_true]at hd;cases hd⟩
  cell:=λi x e k=>by
   have kf:=kfree x k;have ko:=(hS.free (x,.free) (mem_of_lookup kf) rfl).1;have hk':env.kindOf x=some .cell∨env.kindOf x=some .free:=ko.elim (λh=>.inl (K.sees.cell x h)) (K.sees.free x)
   apply yo;intro _ k0
   obtain⟨c,hc,ov,n,qq⟩:=(K₂.frm.keep K₂.inv x₄).cell i x e hk';apply k0
   refine⟨c,by rw[ecells];exact Vs (mem_of_lookup kf) hc,ov,n,λd hd=>qq d ?_⟩
   simp only[G8]at hd;split at hd
   ·cases hd
   ·exact hd
  cok:=λx c e=>by rw[ecells]at e;exact(K₂.frm.keep K₂.inv x₄).cok x c (Fr e)
  cinj:=λx y c e1 e2=>by rw[ecells]at e1 e2;exact K.frm.cinj x y c (Fr e1) (Fr e2)
  lrho:=by rw[eloc];exact hC0n
  lP:=List.mem_singleton.mpr rfl
  own:=λp m=>⟨by rw[lq0 m,eloc];exact I₂.h0_le (by rw[hq0];exact Nat.le_of_lt hqC),.inl (lq0 m)⟩
  tnd:=K.frm.tnd}
 have K₄:Ok G ⟨scope.names,C.tbl,C.lvl,C.inh,C.code,C.qual⟩ A [cenv.locals] cenv {s₂ with heap:=h₄} ρ₂ ⟨G8 cls st.loc,σ₂⟩:={
  room:=⟨K.room.hd,K.room.depth,K.room.units⟩
  sees:={
   loc:=λx h=>by rw[ekind,h];rfl
   cell:=λx h=>absurd rfl (hS.nocell _ (mem_of_lookup h))
   free:=λx h=>by
    rw[ekind,h];simp only[Option.map_some];split
    ·exact .inl rfl
    ·exact .inr rfl
   glob:=λx h=>by rw[ekind,h];rfl}
  inv:=I₄
  frm:=F₄
  stk:=⟨let⟨fe,o,L,h1,h2,h3⟩:=K.stk.fr;⟨fe,o,L,h1,h2,eframe.trans h3⟩,(K₂.stk.step x₄).ff⟩
  code:=K.code.imp id ecode.trans
  qual:=K.qual.imp id equal.trans}
 have T₄:T src.ds h₄ ρ₂ σ₂:=X.keep [] src.ds s₂ ρ₂ σ₂ {s₂ with heap:=h₄} ρ₂ σ₂ hT0 I₂ I₄ x₄ .nil (by
  by_cases h:src.g σ₂
  ·exact h
  ·exact absurd (by cases src.ds<;>(first|rw[Gm,if_neg h]|rw[Cv,if_neg h])) hnb)
 have b0:∀b,s.heap.objs.size<=b->G.h0.get? b=none:=λb z=>K.inv.h0_le z
 have hsq:s.heap.objs.size<=q:=hq0▸x₂.size
 have hqS:q∉S:=λm=>by
  rcases X.own _ _ _ _ hT0 q m with(⟨_,_,o,_,_,ho,_⟩|⟨_,_,vs,n,ho⟩)|⟨k,ek,_⟩
  ·exact absurd (Heap.lt_size ho) (by rw[hq0];exact Nat.lt_irrefl _)
  ·exact absurd (Heap.lt_size ho) (by rw[hq0];exact Nat.lt_irrefl _)
  ·exact hqn (List.mem_of_getElem? ek)
 have xs₄:Ev [cenv.locals] s.heap ρ h₄ ρ₂:=(x₂.trans x₄).nil
 have loop:codeAny G.M A (.compLoop (.ListComp elt [⟨target,iter,ifs,0⟩] scope pos) 0 (.ref Ia) (.ref q) cenv) (compPost G.M A E use Q (.ref q) ce.locals) {s₂ with heap:=h₄}:=by
  refine codeAny_mono (zCL (C':=⟨scope.names,C.tbl,C.lvl,C.inh,C.code,C.qual⟩) X hC ht hT hTs hE (hs:=s.heap) (ρs:=ρ) b0 hsq (λq' m=>.inl (hSn q' m)) hqS (by rw[eloc];exact Nat.ne_of_lt hqC) src.ds [] _ ρ₂ ⟨G8 cls st.loc,σ₂⟩ #[] K₄ T₄ xs₄ hqn hlq (show Au _ _ _ _ _ from rfl) (by simpa using hlen) hnb) λr s' hr=>?_
  rw[hcl0];have hC0s:s.heap.objs.size<=C0:=Nat.le_trans hsq (Nat.le_of_lt hqC)
  cases r with
  |ok f=>
   obtain⟨ρ',xs,st',vs,e3,I',x',F',hq',hl',r'⟩:=hr;obtain⟨n',hl''⟩:=id hl';obtain⟨mm,nm,_⟩:=F'.ns;rw[eloc]at nm;have ad:=I'.adopt (q:=q) (p:=.list xs) (b0 q hsq) hq' (λo ho=>by rw[hl'']at ho;cases ho;exact⟨by simp,λc z=>by cases z⟩)
    (λS=>⟨vs,hl',Au.mono S _ _ r'⟩) s'.toks
   have ev:Ev [] s.heap ρ s'.heap (ρ'++[q]):=Hw (x'.less λp m=>.inr (by rw[lq0 m,eloc];exact hC0s)) hsq
   have rel:C9 G s'.heap (ρ'++[q]) (.ref st'.sto.length) (.ref q):=by
    exact⟨q,rfl,by rw[←I'.len];simp⟩
   have hn0:C0∉ρ'++[q]:=λm=>by
    rcases List.mem_append.mp m with m|m
    ·exact(eloc▸F'.lrho) m
    ·exact Nat.ne_of_gt hqC (lq0 m)
   have fin:=hQ s' (ρ'++[q]) (.ref st'.sto.length) (st'.sto++[.list xs]) (.ref q) C0 (by rw[e'];(unfold Bm;rw[if_pos hlen,e3])) ad.1 ev rel hC0s hn0 ⟨mm,nm⟩
   cases use with
   |none=>exact⟨mm,nm,fin⟩
   |some u=>exact fin
  |error x=>
   obtain⟨ρ',c,st',a,L,e3,I',x',F',S',rfl,hL,fT⟩:=hr;obtain⟨mm,nm,_⟩:=F'.ns;rw[eloc]at nm;have main:∃m,s'.heap.Ns C0 m∧∀h',Heap.SameBut C0 s'.heap h'→∀cenv:Env,cenv.locals=C0→wpAny G.M A (passOn "comprehension.variables-let-go" (.ref a) cenv:Sem Value) (λ_ _=>False) E {s' with heap:=h'}:=by
    refine⟨mm,nm,λh' hsb cenv' _=>?_⟩
    apply yo;intro _ k0
    obtain⟨oC,es,ep,hoC,hdC,_⟩:=id nm;obtain⟨I'',x'',S''⟩:=Nb (P:=[C0]) I' hsb (List.mem_singleton.mpr rfl) (b0 C0 hC0s) (eloc▸F'.lrho) ⟨oC,hoC,.inl ⟨es,ep,hdC⟩⟩ s'.toks
    obtain⟨hna,o,vs,T',oT,ts,ho,hc,hd,hsz,t1,t2,t3,t4,t5,t6,t7⟩:=fT;apply k0
    have ne:∀(b:Addr) (ob:Obj) (vs:Array Value),s'.heap.get? b=some ob->ob.data=.fields vs->b≠C0:=λb ob vs e hd z=>by
     rw[z,hoC]at e;cases e;rw[hdC]at hd;cases hd
    have ho':h'.get? a=some o:=(hsb.2 a (ne a o vs ho hd)).trans ho
    have fT':M5 s.heap.objs.size h' (rawInt L) a c:=⟨hna,o,vs,T',oT,ts,ho',hc,hd,hsz,t1,t2,t3,(hsb.2 T' (ne T' oT ts t4 t6)).trans t4,t5,t6,t7⟩
    refine wpAny_bind (wpAny_field (s:={s' with heap:=h'}) ho' hd t1 ?_)
    rw[if_neg (by simp)];refine wpAny_bind (Jp (ρ:=ρ') (s:={s' with heap:=h'}) (G:=G) (fr:=cenv'.frame) fT' λh'' N T=>?_)
    refine wpAny_throw (hX _ _ ?_)
    have xall:Ev [] s.heap ρ h' ρ':=(x'.trans (eloc.symm▸x'')).less λp m=>.inr (by rw[lq0 m,eloc];exact hC0s)
    exact⟨ρ',c,st'.sto,a,by rw[e'];(unfold Bm;rw[if_pos hlen,e3]),N.inv I'' b0 s'.toks,N.ev xall,rfl,T.fly⟩
   cases use<;>exact main
 refine codeAny_compStart_list loop (Xs A {s₂ with heap:=h₄} ρ₂ σ₂ src.ds _ _ (K.room.hd hC) T₄ loop)
theorem Tu{elt target iter:Expr}{ifs:List Expr}{scope:Scope}{pos:Pos}{cls:List Nat}{tg:Expr->Prop}{mi:Mn Gz}{tf:D->Be->Option Be}{mt:Mn Bool}{me:Mn D}
  (hC:C.inh=false) (hS:Mv C scope cls) (hI:SI G C iter tg mi) (ht:tg target) (hT:ST G ⟨scope.names,C.tbl,C.lvl,C.inh,C.code,C.qual⟩ false target tf) (hTs:Pe G ⟨scope.names,C.tbl,C.lvl,C.inh,C.code,C.qual⟩ ifs mt) (hE:SE G ⟨scope.names,C.tbl,C.lvl,C.inh,C.code,C.qual⟩ elt me)
  (hs:∀env x,foldedSetIterable iter env x=pure x):SE G C (.ListComp elt [⟨target,iter,ifs,0⟩] scope pos) (bnd mi (Bm cls tf mt me)):=.mk <| λA P env s ρ st K hb=>by
 refine P4 hC hS hI ht hT hTs hE hs K hb (λs' ρ' d σ' v C0 e I' x r hC0 hn ⟨m,nm⟩=>?_) λ_ _ z=>z
 intro h' hsb;apply yo;intro _ k0
 obtain⟨oC,es,ep,hoC,hdC,_⟩:=id nm;obtain⟨I'',x'',S''⟩:=Nb (P:=[C0]) I' hsb (List.mem_singleton.mpr rfl) (K.inv.h0_le hC0) hn ⟨oC,hoC,.inl ⟨es,ep,hdC⟩⟩ s'.toks
 apply k0
 exact⟨ρ',d,σ',e,I'',(x.nil.trans x'').less λp m=>.inr (by rw[lq0 m];exact hC0),C9.mono S'' _ _ r⟩
theorem N0{i:Nat}{x:Str}{np:Pos}{elt target iter:Expr}{ifs:List Expr}{scope:Scope}{cpos pos:Pos}{cls:List Nat}{tg:Expr->Prop}{mi:Mn Gz}{tf:D->Be->Option Be}{mt:Mn Bool}{me:Mn D}
  (hi:C.tbl[i]? =some x) (hx:C.names.lookup x=some .local)
  (hC:C.inh=false) (hS:Mv C scope cls) (hI:SI G C iter tg mi) (ht:tg target) (hT:ST G ⟨scope.names,C.tbl,C.lvl,C.inh,C.code,C.qual⟩ false target tf) (hTs:Pe G ⟨scope.names,C.tbl,C.lvl,C.inh,C.code,C.qual⟩ ifs mt) (hE:SE G ⟨scope.names,C.tbl,C.lvl,C.inh,C.code,C.qual⟩ elt me)
  (hs:∀env x,foldedSetIterable iter env x=pure x)
  (hsw:∀env:Env,env.kindOf x=some .local->env.blockKind=.function->swapsWith (.ListComp elt [⟨target,iter,ifs,0⟩] scope cpos) (some (.Name x np)) pos.line env=pure true):
  SS G C (.Assign [.Name x np] (.ListComp elt [⟨target,iter,ifs,0⟩] scope cpos) pos) (bnd (bnd mi (Bm cls tf mt me)) (Af i)):=.mk <| λA P env s ρ st K W hb=>by
 have hbk:env.blockKind=.function:=by unfold Env.blockKind;rw[K.frm.kind];rfl
 simp only[exec_Assign_Name_used (env:=env) x np _ pos (hsw env (K.sees.loc x hx) hbk)]
 refine wpAny_bind (wpAny_standAt ?_)
 refine wpAny_bind (wpAny_bind ?_)
 refine P4 hC hS hI ht hT hTs hE hs K (An hb) (λs' ρ' d σ' v C0 e I' x' r hC0 hn ⟨m,nm⟩=>?_) λex s' z=>?_
 ·have K':=K.step I' x';obtain⟨oC,es,ep,hoC,hdC,rC⟩:=id nm;have hCP:C0∉P:=λm=>by
   rcases(K.frm.own C0 m).2 with z|⟨y,z⟩
   ·obtain⟨_,n,_⟩:=K.frm.ns;exact absurd n.lt (by rw[←z];exact Nat.not_lt.mpr hC0)
   ·obtain⟨_,ov,o,ho,_⟩:=K.frm.cok y C0 z;exact absurd (Heap.lt_size ho) (Nat.not_lt.mpr hC0)
  refine wpAny_assign_Name (Nr K' hi hx r λs'' I'' x'' F''=>⟨m,Q0 x'' nm hn hCP,λh' hsb=>?_⟩)
  have nm'':=Q0 x'' nm hn hCP;apply yo;intro _ k0
  obtain⟨oC',es',ep',hoC',hdC',_⟩:=id nm'';obtain⟨I3,x3,S3⟩:=Nb (P:=C0::P) I'' hsb lq1 (K.inv.h0_le hC0) hn ⟨oC',hoC',.inl ⟨es',ep',hdC'⟩⟩ s''.toks
  apply k0
  have ev:Ev P s.heap ρ h' ρ':=((x'.nil.trans (x''.more λp m=>lq4 _ m)).trans x3).less λp m=>by
   rcases List.mem_cons.mp m with rfl|m
   ·exact .inr hC0
   ·exact .inl m
  have F3:Hg G C.tbl P env h' ρ' (B9 st.loc i d):=by
   refine⟨F''.kind,F''.glob,F''.bi,?_,λj y e k=>?_,λy c e=>?_,F''.cinj,F''.lrho,F''.lP,F''.own,F''.tnd⟩
   ·obtain⟨m,n,q⟩:=F''.ns;exact⟨m,n.sameBut hsb (λz=>hCP (z▸F''.lP)),λj y e k d hd=>let⟨v,e1,e2⟩:=q j y e k d hd;⟨v,e1,C9.mono S3 _ _ e2⟩⟩
   ·apply yo;intro _ k0
    obtain⟨c,e1,ov,n,q⟩:=F''.cell j y e k;apply k0
    exact⟨c,e1,ov,n.sameBut hsb (λz=>hCP (z▸W y c e1)),λd hd=>let⟨v,e1,e2⟩:=q d hd;⟨v,e1,C9.mono S3 _ _ e2⟩⟩
   ·apply yo;intro _ k0
    obtain⟨n,ov,z⟩:=F''.cok y c e;apply k0
    exact⟨n,ov,z.sameBut hsb (λz=>hCP (z▸W y c e))⟩
  exact wpAny_pure (wpAny_pure ⟨ρ',.next,⟨B9 st.loc i d,σ'⟩,by rw[bnd,e];rfl,I3,ev,F3,rfl⟩)
 ·obtain⟨ρ',c,σ',a,e,I',x',rfl,fl⟩:=z;exact⟨ρ',c,⟨st.loc,σ'⟩,a,by rw[bnd,e],I',x'.nil,K.frm.keep K.inv x',rfl,fl⟩
end
noncomputable def Cf:D->Mn Bool
 |.bool b=>ret1 b
 |.int i=>ret1 (i !=0)
 |.none=>ret1 false
 |.str x=>if x.length<=sizeLine then ret1 (x.length !=0)else botM
 |_=>botM
theorem C3{α:Type}{c:Prop} [Decidable c] {f g:Mn α}{st:St}(h:c):(if c then f else g) st=f st:=by rw[if_pos h]
theorem Ik{α:Type}{c:Prop} [Decidable c] {f g:Mn α}{st:St}(h:¬c):(if c then f else g) st=g st:=by rw[if_neg h]
noncomputable def zFa (m:Mn Bool):Mn Bool:=bnd m λb=>ret1 (!b)
noncomputable def V4 (m n:Mn Bool):Mn Bool:=bnd m λb=>if b then n else ret1 false
noncomputable def zF7 (m n:Mn Bool):Mn Bool:=bnd m λb=>if b then ret1 true else n
noncomputable def R0 (m n:Mn D):Mn D:=bnd m λd=>bnd (Cf d) λb=>if b then n else ret1 d
noncomputable def zGN (m n:Mn D):Mn D:=bnd m λd=>bnd (Cf d) λb=>if b then ret1 d else n
noncomputable def zF5 (m:Mn D):Mn D:=bnd m λd=>bnd (Cf d) λb=>ret1 (.bool (!b))
section
variable {G:Gd}{C:Cx}{A:Around}{P:List Addr}{env:Env}{s:Shared}{ρ:List Addr}{st:St}
theorem En{d:D}{v:Value}(K:Ok G C A P env s ρ st) (r:C9 G s.heap ρ d v):At G A env s ρ st RB (truthy v) (Cf d):=by
 refine At.leaf (λhb=>?_) K
 cases d with
 |bool b=>cases r;exact wpAny_truthy_bool ⟨b,rfl,Av.same0,rfl⟩
 |int i=>obtain⟨t,rfl⟩:=r;exact PySem.P.truthy_int ⟨_,rfl,Av.same0,rfl⟩
 |none=>cases r;exact truthy_none ⟨_,rfl,Av.same0,rfl⟩
 |str x=>
  obtain⟨t,rfl⟩:=r;have hz:x.length<=sizeLine:=by
   by_cases h:x.length<=sizeLine
   ·exact h
   ·exact absurd (Ik h) hb
  refine PySem.P.truthy_str (by rw[sizeLine_eq]at hz;omega) ⟨x.length !=0,C3 hz,Av.same,?_⟩
  show(x.length !=0)=((x.length:Int) !=0)
  cases h:x.length with
  |zero=>rfl
  |succ n=>simp[bne];exactλZ=>Ac [_] [B0 (.a x0 (.n 1)) (.n 0),A9 (.n 0) x0] rT Z (Az _)
 |_=>exact absurd rfl hb
theorem Zt{e:Expr}{m:Mn D}(h:SE G C e m) (he:∀env whole,isTrue e env whole=(do let v ←whole;standAt e.pos;holding [v] (truthy v))):SB G C e (bnd m Cf):=.mk <| λA P env s ρ st K=>by
 rw[he];refine At.bind K (h.run A P env s ρ st K) λv s' ρ' d σ' K' x r=>?_
 exact At.stand (At.hold (En K' r))
theorem zDR{e:Expr}{pos:Pos}{m:Mn Bool}(h:SB G C e m):SB G C (.UnaryOp .Not e pos) (zFa m):=.mk <| λA P env s ρ st K=>by
 exact At.map (h.run A P env s ρ st K) λ_ _ d v r=>by cases r;rfl
structure zCY (G:Gd) (C:Cx) (op:BoolOp) (es:List Expr) (m:Mn Bool):Prop where
 run:∀A P env s ρ st,Ok G C A P env s ρ st->At G A env s ρ st RB (allTrue op es env) m
theorem X4{e:Expr}{m:Mn Bool}(h:SB G C e m):zCY G C .And [e] m:=.mk <| λA P env s ρ st K hb=>by
 refine wpAny_bind (wpAny_mono (h.run A P env s ρ st K hb) (λb s' q=>?_) λ_ _ q=>q)
 cases b<;>exact wpAny_pure q
theorem zA3{e:Expr}{m:Mn Bool}(h:SB G C e m):zCY G C .Or [e] m:=.mk <| λA P env s ρ st K hb=>by
 refine wpAny_bind (wpAny_mono (h.run A P env s ρ st K hb) (λb s' q=>?_) λ_ _ q=>q)
 cases b<;>exact wpAny_pure q
theorem zBH{e:Expr}{es:List Expr}{m n:Mn Bool}(h:SB G C e m) (h2:zCY G C .And es n):zCY G C .And (e::es) (V4 m n):=.mk <| λA P env s ρ st K=>by
 refine At.bind K (h.run A P env s ρ st K) λv s' ρ' d σ' K' x r=>?_
 cases(show d=v from r)
 cases v with
 |false=>exact At.pure K' rfl
 |true=>exact h2.run A P env s' ρ' _ K'
theorem zDG{e:Expr}{es:List Expr}{m n:Mn Bool}(h:SB G C e m) (h2:zCY G C .Or es n):zCY G C .Or (e::es) (zF7 m n):=.mk <| λA P env s ρ st K=>by
 refine At.bind K (h.run A P env s ρ st K) λv s' ρ' d σ' K' x r=>?_
 cases(show d=v from r)
 cases v with
 |false=>exact h2.run A P env s' ρ' _ K'
 |true=>exact At.pure K' rfl
theorem zBM{op:BoolOp}{es:List Expr}{pos:Pos}{m:Mn Bool}(h:zCY G C op es m):SB G C (.BoolOp op es pos) m:=.mk <| λA P env s ρ st K=>h.run A P env s ρ st K
structure zCb (G:Gd) (C:Cx) (op:BoolOp) (es:List Expr) (m:Mn D):Prop where
 run:∀A P env s ρ st pos,Ok G C A P env s ρ st->At G A env s ρ st (RV G) (boolOp pos op (evalEach es env)) m
theorem zAp{op:BoolOp}{e:Expr}{m:Mn D}(h:SE G C e m):zCb G C op [e] m:=.mk <| λA P env s ρ st pos K=>h.run A P env s ρ st K
theorem zC3{e e':Expr}{es:List Expr}{m n:Mn D}(h:SE G C e m) (h2:zCb G C .And (e'::es) n):zCb G C .And (e::e'::es) (R0 m n):=.mk <| λA P env s ρ st pos K=>by
 refine At.bind K (h.run A P env s ρ st K) λv s' ρ' d σ' K' x r=>?_
 refine At.stand (At.bind K' (At.hold (En K' r)) λt s'' ρ'' b σ'' K'' x2 rb=>?_)
 cases(show b=t from rb)
 cases t with
 |false=>exact At.pure K'' (C9.mono (x2.stb K'.inv .nil) _ _ r)
 |true=>exact h2.run A P env s'' ρ'' _ pos K''
theorem zEC{e e':Expr}{es:List Expr}{m n:Mn D}(h:SE G C e m) (h2:zCb G C .Or (e'::es) n):zCb G C .Or (e::e'::es) (zGN m n):=.mk <| λA P env s ρ st pos K=>by
 refine At.bind K (h.run A P env s ρ st K) λv s' ρ' d σ' K' x r=>?_
 refine At.stand (At.bind K' (At.hold (En K' r)) λt s'' ρ'' b σ'' K'' x2 rb=>?_)
 cases(show b=t from rb)
 cases t with
 |false=>exact h2.run A P env s'' ρ'' _ pos K''
 |true=>exact At.pure K'' (C9.mono (x2.stb K'.inv .nil) _ _ r)
theorem Vc{op:BoolOp}{es:List Expr}{pos:Pos}{m:Mn D}(h:zCb G C op es m):SE G C (.BoolOp op es pos) m:=.mk <| λA P env s ρ st K=>h.run A P env s ρ st pos K
theorem zE8{e:Expr}{pos:Pos}{m:Mn D}(h:SE G C e m):SE G C (.UnaryOp .Not e pos) (zF5 m):=.mk <| λA P env s ρ st K=>by
 refine At.bind K (h.run A P env s ρ st K) λv s' ρ' d σ' K' x r=>?_
 refine At.stand (At.hold (λhb=>?_))
 refine not_of (wpAny_mono (En K' r (An hb)) (λc s'' q=>?_) λex s'' q=>?_)
 ·refine Fh.elim q λρ'' b σ'' e I'' x'' rb=>?_
  cases(show b=c from rb)
  exact⟨ρ'',.bool (!c),σ'',by simp only[bnd,e,ret1],I'',x'',rfl⟩
 ·exact Bc.bnd q
theorem Rz{α β:Type}{R:Heap->List Addr->β->α->Prop}{t:Sem α}{m:Mn β}{vs ks:List Value}(h:At G A env s ρ st R t m):At G A env s ρ st R (release vs ks >>= λ_=>t) m:=λhb=>wpAny_bind (wpAny_release' (h hb))
noncomputable def Fc (G:Gd) (op:CmpOp) (f:D->D->Mn D):Prop:=
 ∀C A P env s ρ st d1 d2 v1 v2,Ok G C A P env s ρ st->C9 G s.heap ρ d1 v1->C9 G s.heap ρ d2 v2->At G A env s ρ st (RV G) (compareOp op v1 v2) (f d1 d2)
theorem zER{l r:Expr}{op:CmpOp}{pos:Pos}{m1 m2:Mn D}{f:D->D->Mn D}(ho:Fc G op f) (h1:SE G C l m1) (h2:SE G C r m2) (hm:behindInMarks op r=false):
  SE G C (.Compare l [op] [r] pos) (bnd m1 λa=>bnd m2 λb=>f a b):=.mk <| λA P env s ρ st K=>by
 show At G A env s ρ st (RV G) (eval l env >>= λa=>holding [a] (markedBehindIn op r (eval r env)) >>= λb=>standAt pos >>= λ_=>operate [a,b] (compareOp op a b)) _
 rw[markedBehindIn_of_false hm];refine At.bind K (h1.run A P env s ρ st K) λv s' ρ' d σ' K' x r1=>?_
 refine At.bind K' (h2.run A P env s' ρ' _ K').hold λv2 s'' ρ'' d2 σ'' K'' x2 r2=>?_
 exact At.stand (At.operate (ho C A P env s'' ρ'' _ d d2 v v2 K'' (C9.mono (x2.stb K'.inv .nil) _ _ r1) r2))
theorem zDr{l r:Expr}{op:CmpOp}{pos:Pos}{m1 m2:Mn D}{f:D->D->Mn D}(ho:Fc G op f) (h1:SE G C l m1) (h2:SE G C r m2) (hm:behindInMarks op r=false):
  SB G C (.Compare l [op] [r] pos) (bnd m1 λa=>bnd m2 λb=>bnd (f a b) Cf):=.mk <| λA P env s ρ st K=>by
 show At G A env s ρ st RB (eval l env >>= λa=>holding [a] (markedBehindIn op r (eval r env)) >>= λb=>standAt pos >>= λ_=>operate [a,b] (compareOp op a b) >>= λc=>holding [c] (truthy c)) _
 rw[markedBehindIn_of_false hm];refine At.bind K (h1.run A P env s ρ st K) λv s' ρ' d σ' K' x r1=>?_
 refine At.bind K' (h2.run A P env s' ρ' _ K').hold λv2 s'' ρ'' d2 σ'' K'' x2 r2=>?_
 refine At.stand (At.bind K'' (At.operate (ho C A P env s'' ρ'' _ d d2 v v2 K'' (C9.mono (x2.stb K'.inv .nil) _ _ r1) r2)) λc s₃ ρ₃ dc σ₃ K₃ x3 rc=>?_)
 exact At.hold (En K₃ rc)
theorem zBo{l r q:Expr}{op op':CmpOp}{pos:Pos}{m1 m2 m3:Mn D}{f g:D->D->Mn D}(ho:Fc G op f) (ho':Fc G op' g) (h1:SE G C l m1) (h2:SE G C r m2) (h3:SE G C q m3) (hm:lastMarks [op,op'] [r,q]=false):
  SB G C (.Compare l [op,op'] [r,q] pos) (bnd m1 λa=>bnd m2 λb=>bnd (f a b) λc=>bnd (Cf c) λt=>if t then(bnd m3 λc=>bnd (g b c) Cf)else ret1 false):=.mk <| λA P env s ρ st K=>by
 show At G A env s ρ st RB (eval l env >>= λa=>testChain pos a [op,op'] (markedEach [op,op'] [r,q] [eval r env,eval q env])) _
 simp only[markedEach_of_false _ _ _ hm];refine At.bind K (h1.run A P env s ρ st K) λv s' ρ' d σ' K' x r1=>?_
 refine At.bind K' (h2.run A P env s' ρ' _ K').hold λv2 s'' ρ'' d2 σ'' K'' x2 r2=>?_
 refine At.stand (At.bind K'' (At.hold (ho C A P env s'' ρ'' _ d d2 v v2 K'' (C9.mono (x2.stb K'.inv .nil) _ _ r1) r2)) λc s₃ ρ₃ dc σ₃ K₃ x3 rc=>?_)
 refine Rz (At.bind K₃ (At.hold (En K₃ rc)) λt s₄ ρ₄ b σ₄ K₄ x4 rb=>?_)
 cases(show b=t from rb)
 cases t with
 |false=>exact At.pure K₄ rfl
 |true=>
  refine At.bind K₄ (h3.run A P env s₄ ρ₄ _ K₄).hold λv3 s₅ ρ₅ d3 σ₅ K₅ x5 r3=>?_
  refine At.stand (At.bind K₅ (At.operate (ho' C A P env s₅ ρ₅ _ d2 d3 v2 v3 K₅ (C9.mono (x5.stb K₄.inv .nil) _ _ (C9.mono (x4.stb K₃.inv .nil) _ _ (C9.mono (x3.stb K''.inv .nil) _ _ r2))) r3)) λc s₆ ρ₆ dc σ₆ K₆ x6 rc=>?_)
  exact At.hold (En K₆ rc)
noncomputable def Uh:D->D->Mn D:=zBL (λa b=>ret1 (.int (a+b))) λx y=>if x.length+y.length<=sizeLine then ret1 (.str (x++y))else botM
noncomputable def Dz:D->D->Mn D:=zBL (λa b=>if b≠0 then ret1 (.int (a.fmod b))else botM) zFd
noncomputable def F0 (a:Int):Bool:=decide (-(2 ^ 63)<a)&&decide (a<2 ^ 63)
noncomputable def zAA:D->D->Mn D:=zBL (λa b=>if F0 a||F0 b then ret1 (.int (a*b))else botM) zFd
noncomputable def zAi:D->Mn D
 |.int a=>ret1 (.int (-a))
 |_=>botM
theorem K7{a:Int}(h:F0 a=true):Builtin.Int.intBits a<=64:=by
 simp only[F0,Bool.and_eq_true,decide_eq_true_eq]at h;exact intBits_le_64 (by omega) (by omega)
theorem zBR:Gj G .Sub M7:=λC A P env s ρ st d1 d2 v1 v2 K r1 r2=>by
 refine At.leaf (λhb=>?_) K
 rcases Hl hb with⟨a,b,rfl,rfl⟩|⟨x,y,rfl,rfl⟩
 ·obtain⟨t,rfl⟩:=r1;obtain⟨u,rfl⟩:=r2;exact PySem.P.sub_int ⟨_,rfl,Av.same,_,rfl⟩
 ·exact absurd rfl hb
theorem zBn:Gj G .FloorDiv Hk:=λC A P env s ρ st d1 d2 v1 v2 K r1 r2=>by
 refine At.leaf (λhb=>?_) K
 rcases Hl hb with⟨a,b,rfl,rfl⟩|⟨x,y,rfl,rfl⟩
 ·obtain⟨t,rfl⟩:=r1;obtain⟨u,rfl⟩:=r2;by_cases h:b≠0/\b.natAbs<1073741824
  ·exact floordiv_int h.1 ⟨_,C3 h,Av.same,_,rfl⟩ (.inl (PyProof.noPylong_small h.2))
  ·exact absurd (Ik h) hb
 ·exact absurd rfl hb
theorem zBg:Gj G .Mod Dz:=λC A P env s ρ st d1 d2 v1 v2 K r1 r2=>by
 refine At.leaf (λhb=>?_) K
 rcases Hl hb with⟨a,b,rfl,rfl⟩|⟨x,y,rfl,rfl⟩
 ·obtain⟨t,rfl⟩:=r1;obtain⟨u,rfl⟩:=r2;by_cases h:b≠0
  ·exact mod_int' h ⟨_,C3 h,Av.same,_,rfl⟩
  ·exact absurd (Ik h) hb
 ·exact absurd rfl hb
theorem zAV:Gj G .Mult zAA:=λC A P env s ρ st d1 d2 v1 v2 K r1 r2=>by
 refine At.leaf (λhb=>?_) K
 rcases Hl hb with⟨a,b,rfl,rfl⟩|⟨x,y,rfl,rfl⟩
 ·obtain⟨t,rfl⟩:=r1;obtain⟨u,rfl⟩:=r2;by_cases h:(F0 a||F0 b)=true
  ·refine PySem.P.mul_int ⟨_,C3 h,Av.same,_,rfl⟩ ?_
   rcases Bool.or_eq_true_iff.mp h with h|h
   ·exact IntMulOk.of_left (K7 h)
   ·exact IntMulOk.of_right (K7 h)
  ·exact absurd (Ik h) hb
 ·exact absurd rfl hb
theorem L1{x y:Str}(h:(x.length==0)=true):x++y=y:=by
 have:x=Str.empty:=by
  obtain⟨c⟩:=x;have:c.size=0:=by simpa [Str.length]using h
  simp[Str.empty,Array.eq_empty_of_size_eq_zero this]
 rw[this];exact Str.empty_append y
theorem L4{x y:Str}(h:(y.length==0)=true):x++y=x:=by
 obtain⟨c⟩:=y;have hc:c.size=0:=by simpa [Str.length]using h
 obtain⟨b⟩:=x;show Str.mk (b++c)=_
 rw[Array.eq_empty_of_size_eq_zero hc];simp
theorem Vu{x y:Str}{t u:Tok}(K:Ok G C A P env s ρ st):At G A env s ρ st (RV G) (binaryOp .Add (.str x t) (.str y u)) (if x.length+y.length<=sizeLine then ret1 (.str (x++y))else botM):=by
 refine At.leaf (λhb=>?_) K
 have hz:x.length+y.length<=sizeLine:=by
  by_cases h:x.length+y.length<=sizeLine
  ·exact h
  ·exact absurd (Ik h) hb
 simp only[hz,if_true];refine PySem.P.add_str ?_
 split
 ·rename_i h;rw[L1 h];exact⟨_,rfl,Av.same0,_,rfl⟩
 ·split
  ·rename_i h;rw[L4 h];exact⟨_,rfl,Av.same0,_,rfl⟩
  ·exact⟨by rw[Str.length_append];exact hz,_,rfl,Av.same,_,rfl⟩
theorem Ws:Gj G .Add Uh:=λC A P env s ρ st d1 d2 v1 v2 K r1 r2 hb=>by
 rcases Hl hb with⟨a,b,rfl,rfl⟩|⟨x,y,rfl,rfl⟩
 ·obtain⟨t,rfl⟩:=r1;obtain⟨u,rfl⟩:=r2;exact At.leaf (m:=Uh (.int a) (.int b)) (λhb=>PySem.P.add_int ⟨_,rfl,Av.same,_,rfl⟩) K hb
 ·obtain⟨t,rfl⟩:=r1;obtain⟨u,rfl⟩:=r2;exact Vu K hb
theorem zDT{e:Expr}{pos:Pos}{m:Mn D}(h:SE G C e m):SE G C (.UnaryOp .USub e pos) (bnd m zAi):=.mk <| λA P env s ρ st K=>by
 refine At.bind K (h.run A P env s ρ st K) λv s' ρ' d σ' K' x r=>?_
 refine At.stand (At.hold (At.leaf (λhb=>?_) K'))
 cases d<;>first|exact absurd rfl hb|skip
 obtain⟨t,rfl⟩:=r;exact PySem.P.neg_int ⟨_,rfl,Av.same,_,rfl⟩
noncomputable def Z8:D->D->Mn D:=zBL (λa b=>ret1 (.bool (decide (a<b)))) λx y=>ret1 (.bool (decide (x.cps.toList<y.cps.toList)))
noncomputable def zED:D->D->Mn D:=zBL (λa b=>ret1 (.bool (a==b))) λx y=>ret1 (.bool (x.cps.toList==y.cps.toList))
noncomputable def zDj:D->D->Mn D:=zBL (λa b=>ret1 (.bool (a !=b))) λx y=>ret1 (.bool (x.cps.toList !=y.cps.toList))
theorem zEJ:Fc G .Lt Z8:=λC A P env s ρ st d1 d2 v1 v2 K r1 r2=>by
 refine At.leaf (λhb=>?_) K
 rcases Hl hb with⟨a,b,rfl,rfl⟩|⟨x,y,rfl,rfl⟩<;>obtain⟨t,rfl⟩:=r1<;>obtain⟨u,rfl⟩:=r2
 ·exact PySem.P.lt_int ⟨_,rfl,Av.same0,rfl⟩
 ·exact PySem.P.lt_str ⟨_,rfl,Av.same0,rfl⟩
theorem zB0:Fc G .Eq zED:=λC A P env s ρ st d1 d2 v1 v2 K r1 r2=>by
 refine At.leaf (λhb=>?_) K
 rcases Hl hb with⟨a,b,rfl,rfl⟩|⟨x,y,rfl,rfl⟩<;>obtain⟨t,rfl⟩:=r1<;>obtain⟨u,rfl⟩:=r2
 ·exact PySem.P.eq_int ⟨_,rfl,Av.same0,rfl⟩
 ·exact PySem.P.eq_str ⟨_,rfl,Av.same0,rfl⟩
theorem zA4:Fc G .NotEq zDj:=λC A P env s ρ st d1 d2 v1 v2 K r1 r2=>by
 refine At.leaf (λhb=>?_) K
 rcases Hl hb with⟨a,b,rfl,rfl⟩|⟨x,y,rfl,rfl⟩<;>obtain⟨t,rfl⟩:=r1<;>obtain⟨u,rfl⟩:=r2
 ·exact PySem.P.ne_int ⟨_,rfl,Av.same0,rfl⟩
 ·exact PySem.P.ne_str ⟨_,rfl,Av.same0,rfl⟩
end
section
variable {G:Gd}{C:Cx}{A:Around}{P:List Addr}{env:Env}{s:Shared}{ρ:List Addr}{st:St}
noncomputable def E5 (i:Int):Bool:=decide (-(2 ^ 63)<=i)&&decide (i<2 ^ 63)
theorem E3{i:Int}:E5 i=true↔ -(2 ^ 63)<=i/\i<2 ^ 63:=by simp[E5]
noncomputable def Kx {α:Type}:Option α->Mn α
 |some a=>ret1 a
 |none=>botM
noncomputable def Ag:D->D->Mn D
 |.str x,.int i=>if E5 i then Kx (((seqIndex? i x.length).bind (x.cps[·]?)).map λc=>.str ⟨#[c]⟩)else botM
 |.tup ds,.int i=>if E5 i then Kx ((seqIndex? i ds.length).bind (ds[·]?))else botM
 |.ref k,.int i=>λst=>match st.sto[k]? with
  |some (.list ds)=>if E5 i then Kx ((seqIndex? i ds.length).bind (ds[·]?)) st else .bot
  |_=>.bot
 |.scr ns,.int i=>if 0<=i/\i<2 ^ 63 then Kx (ns[i.toNat]?.map D.int)else botM
 |_,_=>botM
theorem Au.size{h:Heap}{ds:List D}{vs:Array Value}(r:Au G h ρ ds vs.toList):vs.size=ds.length:=by have:=r.all2.length;simpa using this
theorem Jm.size{vs:Array Value}{ns:List Int}(r:Jm vs.toList ns):vs.size=ns.length:=by have:=Bs.length r;simpa using this
theorem Ko{α:Type}{c:Bool}{f:Mn α}(h:(if c then f else botM) st≠.bot):c=true:=by
 cases c with
 |true=>rfl
 |false=>exact absurd rfl h
theorem Ds{α:Type}{c:Prop} [Decidable c] {f:Mn α}(h:(if c then f else botM) st≠.bot):c:=by
 by_cases z:c
 ·exact z
 ·exact absurd (Ik z) h
theorem I7{α:Type}{o:Option α}(h:Kx o st≠.bot):∃a,o=some a:=by
 cases o with
 |none=>exact absurd rfl h
 |some a=>exact⟨a,rfl⟩
theorem Pt{l:Addr}{items:Array Value}{k:Int}{t:Tok}{j:Nat}{x:Value}{Q:Value->Shared->Prop}{E:Value->Shared->Prop}(hl:s.heap.IsList l items) (hi:E5 k=true) (hj:seqIndex? k items.size=some j) (hx:items[j]? =some x) (h:Q x s):
  wpAny G.M A (getItem (.ref l) (.int k t)) Q E s:=by
 have hi':=E3.mp hi;by_cases h0:0<=k
 ·have:j=k.toNat:=by
   unfold seqIndex? at hj
   simp only[show¬k<0 by exactλZ=>Ac [_] [A7 x0 (.n 0),A9 (.n 0) x0] rT Z h0,if_false]at hj
   split at hj
   ·cases hj;rfl
   ·cases hj
  subst this;exact wpAny_getItem_list hl h0 hi'.2 hx h
 ·have h1: -(items.size:Int)<=k:=by
   unfold seqIndex? at hj
   simp only[show k<0 by exact Dq λZ=>Ac [_] [A9 (.n 0) x0,A7 x0 (.n 0)] rT Z (Int.not_le.mp h0),if_true]at hj
   split at hj
   ·rename_i z;simp only[Bool.and_eq_true,decide_eq_true_eq]at z;omega
   ·cases hj
  simp only[seqIndex_neg (by exact Dq λZ=>Ac [_] [A9 (.n 0) x0,A7 x0 (.n 0)] rT Z (Int.not_le.mp h0)) h1]at hj
  cases hj;exact wpAny_getItem_list_neg hl (by exact Dq λZ=>Ac [_] [A9 (.n 0) x0,A7 x0 (.n 0)] rT Z (Int.not_le.mp h0)) h1 hi'.1 hx h
theorem zDp{d1 d2:D}{o i:Value}{value slice:Expr}(K:Ok G C A P env s ρ st) (r1:C9 G s.heap ρ d1 o) (r2:C9 G s.heap ρ d2 i) (hs:∀o i,subscripted slice false o i=operate [o,i] (getItem o i)):
  At G A env s ρ st (RV G) (subscriptTail value slice o i) (Ag d1 d2):=by
 refine At.leaf (λhb=>?_) K
 cases d1<;>cases d2<;>first|exact absurd rfl hb|skip
 ·
  obtain⟨t,rfl⟩:=r1;obtain⟨u,rfl⟩:=r2;unfold Ag at hb ⊢; dsimp only at hb ⊢;have h1:=Ko hb;rw[C3 h1]at hb ⊢;obtain⟨y,hy⟩:=I7 hb;rw[hy];obtain⟨c,hc,rfl⟩:=Option.map_eq_some_iff.mp hy;have h1':=E3.mp h1;exact tail_any (typeIs_str s _ t) F.slot_str_getitem.lookup (PySem.P.getItem_str (by simp;exact⟨Bi λZ=>Ac [_] [A7 x0 (.s (.n 0) (.n 9223372036854775808)),A9 (.s (.n 0) (.n 9223372036854775808)) x0] rT Z h1'.1,Dq λZ=>Ac [_] [A9 (.n 9223372036854775808) x0,A7 x0 (.n 9223372036854775808)] rT Z h1'.2⟩) hc ⟨_,rfl,Av.same,_,rfl⟩) (hs _ _)
 ·
  obtain⟨a,vs,rfl,hna,⟨n,ho⟩,r⟩:=r1;obtain⟨u,rfl⟩:=r2;unfold Ag at hb ⊢; dsimp only at hb ⊢;have h1:=Ko hb;rw[C3 h1]at hb ⊢;obtain⟨y,hy⟩:=I7 hb;rw[hy];obtain⟨j,hj,hd⟩:=Option.bind_eq_some_iff.mp hy;have h1':=E3.mp h1;have hlen:=r.size;obtain⟨v,hv,rv⟩:=r.all2.get j y hd;have ht:IsTup s.heap a vs:=⟨_,ho,rfl,n,rfl⟩
  exact tail_any ht.typeIs slot_tuple_getitem.lookup (getItem_tuple ht h1'.1 h1'.2 (hlen▸hj) (by simpa using hv) ⟨_,rfl,Av.same0,rv⟩) (hs _ _)
 ·
  rename_i k i';obtain⟨a,rfl,e1⟩:=r1;obtain⟨u,rfl⟩:=r2
  cases e:st.sto[k]? with
  |none=>exact absurd (by unfold Ag;simp only[e]) hb
  |some o=>
   cases o with
   |list ds=>
    unfold Ag at hb ⊢; simp only[e]at hb ⊢;have h1:E5 i'=true:=by
     cases z:E5 i' with
     |true=>rfl
     |false=>exact absurd (by simp[z]) hb
    rw[if_pos h1]at hb ⊢;obtain⟨y,hy⟩:=I7 hb;rw[hy];apply yo;intro _ k0
    obtain⟨vs,hl,r⟩:=K.inv.sto k a _ e1 e;obtain⟨j,hj,hd⟩:=Option.bind_eq_some_iff.mp hy;apply k0
    have hlen:=r.size;obtain⟨v,hv,rv⟩:=r.all2.get j y hd;exact tail_any hl.list.typeIs slot_list_getitem.lookup (Pt hl.list h1 (hlen▸hj) (by simpa using hv) ⟨_,rfl,Av.same0,rv⟩) (hs _ _)
   |_=>exact absurd (by unfold Ag;simp only[e]) hb
 ·
  obtain⟨a,vs,rfl,hl,hi⟩:=r1;obtain⟨u,rfl⟩:=r2;unfold Ag at hb ⊢; dsimp only at hb ⊢;have h1:=Ds hb;rw[C3 h1]at hb ⊢;obtain⟨y,hy⟩:=I7 hb;rw[hy];apply yo;intro _ k0
  obtain⟨c,hc,rfl⟩:=Option.map_eq_some_iff.mp hy;obtain⟨v,hv,t,rfl⟩:=hi.get _ _ hc;apply k0
  have hl':=Av.list K.inv.base hl;exact tail_any hl'.typeIs slot_list_getitem.lookup (wpAny_getItem_list hl' h1.1 h1.2 (by simpa using hv) ⟨_,rfl,Av.same0,_,rfl⟩) (hs _ _)
theorem zEO{v sl:Expr}{pos:Pos}{m1 m2:Mn D}(h1:SE G C v m1) (h2:SE G C sl m2) (hs:∀o i,subscripted sl false o i=operate [o,i] (getItem o i)):
  SE G C (.Subscript v sl pos) (bnd m1 λa=>bnd m2 λb=>Ag a b):=.mk <| λA P env s ρ st K=>by
 refine At.ofEq (t':=do let o ←eval v env;let i ←holding [o] (eval sl env);standAt pos;subscriptTail v sl o i) (by rw[eval_Subscript];rfl) ?_
 refine At.bind K (h1.run A P env s ρ st K) λv s' ρ' d σ' K' x r1=>?_
 refine At.bind K' (h2.run A P env s' ρ' _ K').hold λv2 s'' ρ'' d2 σ'' K'' x2 r2=>?_
 exact At.stand (zDp K'' (C9.mono (x2.stb K'.inv .nil) _ _ r1) r2 hs)
noncomputable def E0:List D->Mn D
 |[.str x]=>if x.length<2 ^ 62 then ret1 (.int x.length)else botM
 |[.tup ds]=>if ds.length<2 ^ 62 then ret1 (.int ds.length)else botM
 |[.scr ns]=>if ns.length<2 ^ 62 then ret1 (.int ns.length)else botM
 |[.ref k]=>λst=>match st.sto[k]? with
  |some (.list ds)=>if ds.length<2 ^ 62 then .ok (.int ds.length) st else .bot
  |_=>.bot
 |_=>botM
theorem zDW:BF G "len" E0:=λC A P env s ρ st ds vs hC K r=>by
 refine At.leaf (λhb=>?_) K
 match ds,r with
 |[],_=>exact absurd rfl hb
 |[d],r=>
  obtain⟨v,_,rfl,r,rfl⟩:=r
  cases d<;>first|exact absurd rfl hb|skip
  ·obtain⟨t,rfl⟩:=r;unfold E0 at hb ⊢; dsimp only at hb ⊢;have h1:=Ds hb;rw[C3 h1];exact PySem.P.len_str (by exactλZ=>Ac [_] [A9 (.n 9223372036854775808) x0,A7 x0 (.n 4611686018427387904)] rT Z (Gi h1)) ⟨_,rfl,Av.same,_,rfl⟩
  ·obtain⟨a,vs,rfl,hna,⟨n,ho⟩,rr⟩:=r;unfold E0 at hb ⊢; dsimp only at hb ⊢;have h1:=Ds hb;rw[C3 h1];have hlen:=Au.size rr;exact len_tuple ⟨_,ho,rfl,n,rfl⟩ (by exact Dq λZ=>Ac [_,_] [A9 (.n 9223372036854775808) x0,A7 x1 (.n 4611686018427387904),B0 x0 x1] rT Z (Gi h1) (Kj hlen)) ⟨_,rfl,Av.same,_,by rw[hlen]⟩
  ·rename_i k;obtain⟨a,rfl,e1⟩:=r
   cases e:st.sto[k]? with
   |none=>exact absurd (by unfold E0;simp only[e]) hb
   |some o=>
    cases o with
    |list ds=>
     unfold E0 at hb ⊢; simp only[e]at hb ⊢;have h1:ds.length<2 ^ 62:=by
      by_cases z:ds.length<2 ^ 62
      ·exact z
      ·exact absurd (if_neg z) hb
     rw[if_pos h1];apply yo;intro _ k0
     obtain⟨vs,hl,r⟩:=K.inv.sto k a _ e1 e;apply k0
     have hlen:=r.size;exact Calls.call_len_list hl.list (by exact Dq λZ=>Ac [_,_] [A9 (.n 9223372036854775808) x0,A7 x1 (.n 4611686018427387904),B0 x0 x1] rT Z (Gi h1) (Kj hlen)) ⟨_,rfl,Av.same,_,by rw[hlen]⟩
    |_=>exact absurd (by unfold E0;simp only[e]) hb
  ·obtain⟨a,vs,rfl,hl,hi⟩:=r;unfold E0 at hb ⊢; dsimp only at hb ⊢;have h1:=Ds hb;rw[C3 h1];have hl':=Av.list K.inv.base hl;have hlen:=Jm.size hi;exact Calls.call_len_list hl' (by exact Dq λZ=>Ac [_,_] [A9 (.n 9223372036854775808) x0,A7 x1 (.n 4611686018427387904),B0 x0 x1] rT Z (Gi h1) (Kj hlen)) ⟨_,rfl,Av.same,_,by rw[hlen]⟩
 |a::b::l,_=>exact absurd (by cases a<;>rfl) hb
end
noncomputable def zFi:D->Bp->Option String
 |.none,_=>some "NoneType"
 |.bool _,_=>some "bool"
 |.int _,_=>some "int"
 |.str _,_=>some "str"
 |.tup _,_=>some "tuple"
 |.scr _,_=>some "list"
 |.ref k,σ=>match σ[k]? with
  |some (.list _)=>some "list"
  |some (.dict _)=>some "dict"
  |_=>none
 |.exc _,_=>none
noncomputable def Jd (T' T:String):Bool:=T'==T||(T'=="bool"&&T=="int")
noncomputable def Pr (T:String) (d:D):Mn D:=λst=>match zFi d st.sto with
 |some T'=>.ok (.bool (Jd T' T)) st
 |none=>.bot
structure zA2 (T:String):Prop where
 hty:typeOf (.type T)=pure (.type "type")
 sub:∀T',T'∈["NoneType","bool","int","str","tuple","list","dict"]→isSubtype (.type T') (.type T)=pure (Jd T' T)
theorem zE9{T:String}(hty:typeOf (.type T)=pure (.type "type")) (h1:isSubtype (.type "NoneType") (.type T)=pure (Jd "NoneType" T)) (h2:isSubtype (.type "bool") (.type T)=pure (Jd "bool" T)) (h3:isSubtype (.type "int") (.type T)=pure (Jd "int" T))
  (h4:isSubtype (.type "str") (.type T)=pure (Jd "str" T)) (h5:isSubtype (.type "tuple") (.type T)=pure (Jd "tuple" T)) (h6:isSubtype (.type "list") (.type T)=pure (Jd "list" T)) (h7:isSubtype (.type "dict") (.type T)=pure (Jd "dict" T)):zA2 T:=
 ⟨hty,λT' m=>by
  simp only[List.mem_cons,List.not_mem_nil,or_false]at m;rcases m with rfl|rfl|rfl|rfl|rfl|rfl|rfl<;>assumption⟩
theorem zBv:zA2 "str":=zE9 (by kernel_rfl) (by rw[isSubtype_type];kernel_rfl) (by rw[isSubtype_type];kernel_rfl) (by rw[isSubtype_type];kernel_rfl) (by rw[isSubtype_type];kernel_rfl) (by rw[isSubtype_type];kernel_rfl) (by rw[isSubtype_type];kernel_rfl) (by rw[isSubtype_type];kernel_rfl)
section
variable {G:Gd}{C:Cx}{A:Around}{P:List Addr}{env:Env}{s:Shared}{ρ:List Addr}{st:St}
theorem zBb{x:Value}{Tx T:String}{Q:Value→Shared→Prop}{E:Value→Shared→Prop}(F:zA2 T) (hx:s.TypeIs x Tx) (hm:Tx∈["NoneType","bool","int","str","tuple","list","dict"]) (hb:Jd Tx T=true) (h:Q (.bool true) s):
  wpAny G.M A (call (.builtin "isinstance") [x,.type T]) Q E s:=
 call_isinstance (isinstance_true (Tx:=Tx) F.hty (by rw[F.sub Tx hm,hb])) ⟨hx,h⟩
theorem zC4{T' T:String}(h:Jd T' T=false):(Value.type T'==Value.type T)=false:=by
 cases e:(Value.type T'==Value.type T)with
 |false=>rfl
 |true=>
  have:=eq_of_beq e
  cases this;simp[Jd]at h
noncomputable def zGZ:List String:=["NoneType","bool","int","str","tuple","list","dict"]
noncomputable def zD6 (G:Gd) (A:Around) (s:Shared) (v:Value) (T':String):Prop:=∀T,zA2 T→∀(Q:Value→Shared→Prop) (E:Value→Shared→Prop),(∀t,Q (.bool (Jd T' T)) {s with toks:=t})→wpAny G.M A (call (.builtin "isinstance") [v,.type T]) Q E s
theorem Mq{v:Value}{T':String}(hx:s.TypeIs v T') (hm:T'∈zGZ) (hf:∀T,zA2 T→(Value.type T'==Value.type T)=false→isSubtype (.type T') (.type T)=pure false→∀(Q:Value→Shared→Prop) (E:Value→Shared→Prop),(∀t,Q (.bool false) {s with toks:=t})→wpAny G.M A (call (.builtin "isinstance") [v,.type T]) Q E s):zD6 G A s v T':=λT F Q E h=>by
 cases hs:Jd T' T with
 |true=>rw[hs]at h;exact zBb F hx hm hs (h s.toks)
 |false=>rw[hs]at h;exact hf T F (zC4 hs) (by rw[F.sub _ hm,hs]) Q E h
theorem Mh{a:Addr}{o:Obj}{T':String}(ho:s.heap.get? a=some o) (hc:o.cls=.type T') (hT:T'="tuple"∨T'="list"∨T'="dict"):zD6 G A s (.ref a) T':=by
 refine Mq ⟨o,ho,hc⟩ (by rcases hT with rfl|rfl|rfl<;>decide) ?_
 rcases hT with rfl|rfl|rfl
 ·exactλT F h1 h2 Q E h=>call_isinstance (isinstance_false_tuple h1 F.hty h2) ⟨⟨o,ho,hc⟩,h _⟩
 ·exactλT F h1 h2 Q E h=>call_isinstance (isinstance_false_list h1 F.hty h2) ⟨⟨o,ho,hc⟩,h _⟩
 ·exactλT F h1 h2 Q E h=>call_isinstance (isinstance_false_dict h1 F.hty h2) ⟨⟨o,ho,hc⟩,h _⟩
theorem Yk{d:D}{v:Value}{T':String}(I:Ci G s ρ st.sto) (r:C9 G s.heap ρ d v) (hd:zFi d st.sto=some T'):zD6 G A s v T':=by
 cases d with
 |none=>cases hd;cases(show v=.none from r);exact Mq rfl (by decide) λT F h1 h2 Q E h=>call_isinstance (isinstance_false_none h1 F.hty h2) (h _)
 |bool b=>cases hd;cases(show v=.bool b from r);exact Mq rfl (by decide) λT F h1 h2 Q E h=>call_isinstance (isinstance_false_bool h1 F.hty h2) (h _)
 |int i=>cases hd;obtain⟨t,rfl⟩:=r;exact Mq (typeIs_int s i t) (by decide) λT F h1 h2 Q E h=>call_isinstance (isinstance_false_int h1 F.hty h2) (h _)
 |str x=>cases hd;obtain⟨t,rfl⟩:=r;exact Mq (typeIs_str s x t) (by decide) λT F h1 h2 Q E h=>call_isinstance (isinstance_false_str h1 F.hty h2) (h _)
 |tup ds=>cases hd;obtain⟨a,vs,rfl,hna,⟨n,ho⟩,r⟩:=r;exact Mh ho rfl (.inl rfl)
 |scr ns=>
  cases hd;obtain⟨a,vs,rfl,hl,hi⟩:=r;obtain⟨o,ho,hc,_⟩:=Av.list I.base hl;exact Mh ho hc (.inr (.inl rfl))
 |ref k=>
  obtain⟨a,rfl,e1⟩:=r;unfold zFi at hd
  cases e:st.sto[k]? with
  |none=>simp only[e]at hd;cases hd
  |some o=>
   simp only[e]at hd
   cases o with
   |list ds=>
    cases hd;obtain⟨vs,⟨n,ho⟩,r⟩:=I.sto k a _ e1 e;exact Mh ho rfl (.inr (.inl rfl))
   |dict kvs=>
    cases hd;obtain⟨xs,⟨o,es,ep,ho,hx,_⟩,_⟩:=I.sto k a _ e1 e;exact Mh ho hx.1 (.inr (.inr rfl))
   |_=>cases hd
 |exc c=>cases hd
theorem zDV{T:String}{d:D}{v:Value}(F:zA2 T) (K:Ok G C A P env s ρ st) (r:C9 G s.heap ρ d v):At G A env s ρ st (RV G) (call (.builtin "isinstance") [v,.type T]) (Pr T d):=At.leaf (λhb=>by
 cases hd:zFi d st.sto with
 |none=>exact absurd (by unfold Pr;simp only[hd]) hb
 |some T'=>exact Yk K.inv r hd T F _ _ λt=>⟨.bool (Jd T' T),by unfold Pr;simp only[hd],Av.same,rfl⟩) K
theorem zEZ{T:String}{Tn:Str}{e:Expr}{m:Mn D}{np tp pos:Pos}(F:zA2 T) (hg:E8 G "isinstance" (.builtin "isinstance")) (hn:C.names.lookup ("isinstance":Str)=some .globalImplicit)
  (hgT:E8 G Tn (.type T)) (hnT:C.names.lookup Tn=some .globalImplicit) (hdT:(Tn==("__debug__":Str))=false) (he:SE G C e m) (hst:∀env,starEach [e,.Name Tn tp] env=[(false,eval e env),(false,eval (.Name Tn tp) env)]):
  SE G C (.Call (.Name "isinstance" np) [e,.Name Tn tp] [] pos) (bnd m (Pr T)):=.mk <| λA P env s ρ st K hb=>by
 refine wpAny_bind (Gb K hg hn (by decide) ?_)
 rw[hst];refine Calls.callWith_builtin rfl (Calls.evalArgs_plain (Calls.spliced_cons (wpAny_mono (he.run A P env s ρ st K (An hb)) (λv s' q=>?_) λx s' q=>?_)))
 ·refine Fh.elim q λρ' d σ' e' I' x' r=>?_
  have K':=K.step I' x';refine Calls.spliced_cons (Gb K' hgT hnT hdT ?_)
  refine Calls.spliced_nil ?_
  have e2:bnd m (Pr T) st=Pr T d ⟨st.loc,σ'⟩:=by simp only[bnd,e']
  rw[e2]at hb ⊢;refine wpAny_mono (zDV F K' r hb) (λw s'' q=>?_) λw s'' q=>?_
  ·exact Fh.tr q x'
  ·exact Bc.tr q x'
 ·exact Bc.bnd q
noncomputable def H2:List D->Option (List Int)
 |[]=>some []
 |.int i::r=>(H2 r).map (i:: ·)
 |_=>none
noncomputable def Jt (best:List Int->Option Int):List D->Mn D
 |[.int a,.int b]=>Kx ((best [a,b]).map D.int)
 |[.ref k]=>λst=>match st.sto[k]? with
  |some (.list ds)=>Kx (((H2 ds).bind best).map D.int) st
  |_=>.bot
 |_=>botM
noncomputable def zBI (ns:List Int):Option Int:=ns.max?
noncomputable def zAr (ns:List Int):Option Int:=ns.min?
noncomputable def Jx:List D->Mn D:=Jt zBI
noncomputable def P7:List D->Mn D:=Jt zAr
theorem Ha{h:Heap}:∀{ds:List D}{vs:List Value}{ns:List Int},Au G h ρ ds vs->H2 ds=some ns->∃xs:List (Int×Tok),vs=xs.map (λp=>Value.int p.1 p.2)/\xs.map (·.1)=ns
 |[],vs,ns,r,e=>by
  subst r
  cases(show some []=some ns from e)
  exact⟨[],rfl,rfl⟩
 |d::ds,vs,ns,r,e=>by
  obtain⟨v,vr,rfl,r1,r2⟩:=r
  cases d with
  |int i=>
   obtain⟨ns',e',rfl⟩:=Option.map_eq_some_iff.mp e;obtain⟨xs,rfl,rfl⟩:=Ha r2 e';obtain⟨t,rfl⟩:=r1;exact⟨(i,t)::xs,rfl,rfl⟩
  |_=>cases(show none=some ns from e)
theorem Ex{xs:List (Int×Tok)}{i:Nat}(h:i<xs.length):numAt xs.toArray i=(xs.map (·.1))[i]'(by simpa using h):=by
 simp[numAt,h]
theorem Pv{gt:Bool}{xs:List (Int×Tok)}{l:Addr}{m:Int}{Q:Value->Shared->Prop}{E:Value->Shared->Prop}(hh:A.handled=none) (hl:s.heap.IsList l (xs.map (λp=>Value.int p.1 p.2)).toArray)
  (hm:(if gt then zBI else zAr) (xs.map (·.1))=some m) (h:∀t h' tk,Av s.heap h'→Q (.int m t) {s with heap:=h',toks:=tk}):wpAny G.M A (call (.builtin (if gt then "max" else "min")) [.ref l]) Q E s:=by
 have hl':s.heap.IsList l (intItems xs.toArray):=by
  have:intItems xs.toArray=(xs.map (λp=>Value.int p.1 p.2)).toArray:=by simp[intItems]
  rw[this];exact hl
 have hne:0<xs.length:=by
  cases xs with
  |nil=>cases gt<;>cases hm
  |cons _ _=>simp
 cases gt with
 |true=>
  refine max_intList hh hl' (by simpa using hne) λv h' tk hv hk=>?_
  obtain⟨t,rfl⟩:=intItems_at hv;obtain⟨h1,h2⟩:=argBest_gt (numAt xs.toArray) (xs.toArray.size - 1)
  have hlt:argBest (λi j=>decide (numAt xs.toArray i>numAt xs.toArray j)) (xs.toArray.size - 1)<xs.length:=by simp at h1 ⊢; exact Bw λZ=>A5 [_,_,_] [A9 x0 x1,A9 x1 x2,B0 (.a x2 (.n 1)) x0] rT Z h1 (B8 (Ar λY=>A5 [_] [A7 x0 (.n 1),A7 (.n 0) x0] rT Y hne))
  have hm':=List.max?_eq_some_iff.mp hm;have:numAt xs.toArray (argBest (λi j=>decide (numAt xs.toArray i>numAt xs.toArray j)) (xs.toArray.size - 1))=m:=by
   refine Int.le_antisymm (hm'.2 _ ?_) ?_
   ·rw[Ex hlt];exact List.getElem_mem _
   ·obtain⟨j,hj,e⟩:=List.getElem_of_mem hm'.1;simp only[←e,←Ex (by simpa using hj)];exact h2 j (by simp at hj ⊢; exact Ar λZ=>A5 [_,_,_] [A7 x0 x1,A7 x1 x2,A9 x2 (.a x0 (.n 1))] rT Z hj (Bh _ _))
  rw[this];exact h t h' tk hk
 |false=>
  refine min_intList hh hl' (by simpa using hne) λv h' tk hv hk=>?_
  obtain⟨t,rfl⟩:=intItems_at hv;obtain⟨h1,h2⟩:=argBest_lt (numAt xs.toArray) (xs.toArray.size - 1)
  have hlt:argBest (λi j=>decide (numAt xs.toArray i<numAt xs.toArray j)) (xs.toArray.size - 1)<xs.length:=by simp at h1 ⊢; exact Bw λZ=>A5 [_,_,_] [A9 x0 x1,A9 x1 x2,B0 (.a x2 (.n 1)) x0] rT Z h1 (B8 (Ar λY=>A5 [_] [A7 x0 (.n 1),A7 (.n 0) x0] rT Y hne))
  have hm':=List.min?_eq_some_iff.mp hm;have:numAt xs.toArray (argBest (λi j=>decide (numAt xs.toArray i<numAt xs.toArray j)) (xs.toArray.size - 1))=m:=by
   refine Int.le_antisymm ?_ (hm'.2 _ ?_)
   ·obtain⟨j,hj,e⟩:=List.getElem_of_mem hm'.1;simp only[←e,←Ex (by simpa using hj)];exact h2 j (by simp at hj ⊢; exact Ar λZ=>A5 [_,_,_] [A7 x0 x1,A7 x1 x2,A9 x2 (.a x0 (.n 1))] rT Z hj (Bh _ _))
   ·rw[Ex hlt];exact List.getElem_mem _
  rw[this];exact h t h' tk hk
theorem Ud(gt:Bool):BF G (if gt then "max" else "min") (Jt (if gt then zBI else zAr)):=λC A P env s ρ st ds vs hC K r=>by
 refine At.leaf (λhb=>?_) K
 match ds,r with
 |[],_=>exact absurd rfl hb
 |[d],r=>
  obtain⟨v,_,rfl,r,rfl⟩:=r
  cases d<;>first|exact absurd rfl hb|skip
  rename_i k;obtain⟨a,rfl,e1⟩:=r
  cases e:st.sto[k]? with
  |none=>exact absurd (by unfold Jt;simp only[e]) hb
  |some o=>
   cases o with
   |list ds=>
    unfold Jt at hb ⊢; simp only[e]at hb ⊢;obtain⟨y,hy⟩:=I7 hb;rw[hy];apply yo;intro _ k0
    obtain⟨m,hm,rfl⟩:=Option.map_eq_some_iff.mp hy;obtain⟨ns,hns,hm⟩:=Option.bind_eq_some_iff.mp hm;obtain⟨vs,hl,r⟩:=K.inv.sto k a _ e1 e;obtain⟨xs,hvs,rfl⟩:=Ha r hns;apply k0
    refine Pv (K.room.hd hC) (xs:=xs) (by rw[←hvs];exact hl.list) hm λt h' tk g=>⟨_,rfl,⟨h',tk,rfl,g⟩,_,rfl⟩
   |_=>exact absurd (by unfold Jt;simp only[e]) hb
 |[d1,d2],r=>
  obtain⟨v1,_,rfl,r1,v2,_,rfl,r2,rfl⟩:=r
  cases d1<;>cases d2<;>first|exact absurd rfl hb|skip
  rename_i a b;obtain⟨t,rfl⟩:=r1;obtain⟨u,rfl⟩:=r2;simp only[Jt]
  cases gt with
  |true=>
   refine max_two_ints (K.room.hd hC) λh' tk g=>⟨.int (max a b),rfl,⟨h',tk,rfl,g⟩,?_⟩
   by_cases z:b>a
   ·rw[if_pos z];exact⟨u,by rw[Int.max_eq_right (by exact Bi λZ=>Ac [_,_] [A7 x1 x0,A7 x0 x1] rT Z z)]⟩
   ·rw[if_neg z];exact⟨t,by rw[Int.max_eq_left (by exact Bi λZ=>Ac [_,_] [A7 x1 x0,A9 x0 x1] rT Z (Int.not_lt.mp z))]⟩
  |false=>
   refine min_two_ints (K.room.hd hC) λh' tk g=>⟨.int (min a b),rfl,⟨h',tk,rfl,g⟩,?_⟩
   by_cases z:b<a
   ·rw[if_pos z];exact⟨u,by rw[Int.min_eq_right (by exact Bi λZ=>Ac [_,_] [A7 x1 x0,A7 x0 x1] rT Z z)]⟩
   ·rw[if_neg z];exact⟨t,by rw[Int.min_eq_left (by exact Bi λZ=>Ac [_,_] [A7 x1 x0,A9 x0 x1] rT Z (Int.not_lt.mp z))]⟩
 |a::b::c::l,_=>exact absurd (by cases a<;>cases b<;>rfl) hb
theorem zD4:BF G "max" Jx:=Ud true
theorem zDn:BF G "min" P7:=Ud false
end
section
open Builtin.Str
section
variable {G:Gd}{C:Cx}{A:Around}{P:List Addr}{env:Env}{s:Shared}{ρ:List Addr}{st:St}
noncomputable def Bt (ds:List D):Mn D:=λst=>.ok (.ref st.sto.length) ⟨st.loc,st.sto++[.list ds]⟩
theorem Cz(I:Ci G s ρ st.sto){vs:Array Value}{n:Nat}{ds:List D}(r:Au G s.heap ρ ds vs.toList) (tk:Nat):
  Fh G s ρ st (RV G) (Bt ds st) (.ref s.heap.objs.size) {s with heap:=s.heap.push (F6 vs n),toks:=tk}:=by
 obtain⟨I',x'⟩:=I.alloc (o:=F6 vs n) (p:=.list ds) ⟨(by show Value.type "list"≠Value.type "tuple";decide),λc=>(by intro z;cases z)⟩ rfl (λS=>⟨vs,⟨n,Heap.get?_push_size _ rfl⟩,Au.mono S _ _ r⟩) tk
 refine⟨_,.ref st.sto.length,_,rfl,I',x' [],?_⟩
 show C9 _ _ _ _ _
 exact⟨_,rfl,by rw[←I.len];simp⟩
theorem Ry{vs:List Value}{ds:List D}(K:Ok G C A P env s ρ st) (r:Au G s.heap ρ ds vs):At G A env s ρ st (RV G) (newList vs) (if ds.length<=sizeLine then Bt ds else botM):=λhb=>by
 have hz:=Ds hb;rw[C3 hz];exact wpAny_newList (Cz (vs:=vs.toArray) (n:=0) K.inv r s.toks) (by rw[r.all2.length];exact hz)
theorem Qg{vs:List Value}{ds:List D}(K:Ok G C A P env s ρ st) (r:Au G s.heap ρ ds vs):At G A env s ρ st (RV G) (newTuple vs) (if ds.length<=sizeLine then ret1 (.tup ds)else botM):=λhb=>by
 have hz:=Ds hb;rw[C3 hz];refine wpAny_newTuple ?_ (by rw[r.all2.length];exact hz)
 have g:=Av.push s.heap (Sf vs.toArray 0);refine⟨ρ,.tup ds,st.sto,rfl,K.inv.grow g Am s.toks,g.ev Am,?_⟩
 show C9 _ _ _ _ _
 exact⟨_,vs.toArray,rfl,K.inv.size_notin,⟨0,Heap.get?_push_size _ rfl⟩,Au.mono g.stb _ _ r⟩
noncomputable def D1 (ms:Mn (List D)):Mn D:=bnd ms λds=>if ds.length<=sizeLine then Bt ds else botM
noncomputable def Ek (ms:Mn (List D)):Mn D:=bnd ms λds=>if ds.length<=sizeLine then ret1 (.tup ds)else botM
theorem zAx{es:List Expr}{pos:Pos}{ms:Mn (List D)}(h:SA G C es ms):SE G C (.List es pos) (D1 ms):=.mk <| λA P env s ρ st K=>by
 exact At.stand (At.bind K (h.run A P env s ρ st pos K) λv s' ρ' d σ' K' x r=>Ry K' r)
theorem Yw{es:List Expr}{k:Nat}{pos:Pos}{ms:Mn (List D)}(h:SA G C es ms):SE G C (.Tuple es k pos) (Ek ms):=.mk <| λA P env s ρ st K=>by
 exact At.stand (At.bind K (h.run A P env s ρ st pos K) λv s' ρ' d σ' K' x r=>Qg K' r)
noncomputable def Sd (G:Gd) (T:String) (tg:Expr->Prop) (F:List D->Mn Gz):Prop:=
 ∀C A P env s ρ st ds vs,C.inh=false->Ok G C A P env s ρ st->Au G s.heap ρ ds vs->F ds st≠.bot->wpAny G.M A (call (.type T) vs) (λx s₁=>wpAny G.M A (pyIter x) (Vz G s ρ st tg (F ds st)) (Bc G env s ρ st (F ds st)) s₁) (Bc G env s ρ st (F ds st)) s
theorem Y3{T:String}{f:Str}{tg:Expr→Prop}{F:List D→Mn Gz}{e:Expr}{es:List Expr}{ms:Mn (List D)}{np pos:Pos}(hg:E8 G f (.type T)) (hn:C.names.lookup f=some .globalImplicit) (hd:(f==("__debug__":Str))=false)
  (hC:C.inh=false) (hF:Sd G T tg F) (hs:SA G C (e::es) ms) (hst:∀env,starEach (e::es) env=(false,eval e env)::starEach es env) (hpl:∀env,(backTo pos (starEach es env)).any (·.1)=false):
  SI G C (.Call (.Name f np) (e::es) [] pos) tg (bnd ms F):=.mk <| λA P env s ρ st K hb=>by
 refine wpAny_bind (Gb K hg hn hd ?_)
 have hev:backTo pos (starEach (e::es) env)=(false,eval e env)::backTo pos (starEach es env):=by rw[hst];rfl
 have h1:=hs.run A P env s ρ st pos K (An hb);rw[hev]at h1 ⊢;refine PySem.callWith_type (by show(false||_)=false;rw[Bool.false_or];exact hpl env) (Calls.evalArgs_plain (wpAny_mono h1 (λvs s' q=>?_) λx s' q=>?_))
 ·refine Fh.elim q λρ' ds σ' e' I' x' r=>?_
  have K':=K.step I' x';have e2:bnd ms F st=F ds ⟨st.loc,σ'⟩:=by simp only[bnd,e']
  rw[e2]at hb ⊢;refine wpAny_mono (hF C A P env s' ρ' ⟨st.loc,σ'⟩ ds vs hC K' r hb) (λw s'' q=>wpAny_mono q (λw s'' q=>?_) λw s'' q=>?_) λw s'' q=>?_
  ·obtain⟨ρ'',src,σ'',I,S,T,Md,e2,I'',x2,rfl,X,X',T0,hS⟩:=q;exact⟨ρ'',src,σ'',I,S,T,Md,e2,I'',x'.trans x2,rfl,X,X',T0,λq m=>Nat.le_trans x'.size (hS q m)⟩
  ·exact Bc.tr q x'
  ·exact Bc.tr q x'
 ·exact Bc.bnd q
noncomputable def okR (n:Int):Bool:=decide (-(2 ^ 40)<=n)&&decide (n<2 ^ 40)
theorem Cl{n:Int}:okR n=true↔ -(2 ^ 40)<=n/\n<2 ^ 40:=by simp[okR]
noncomputable def Wd:D->Option Int
 |.int n=>some n
 |_=>none
theorem Gs{d:D}{n:Int}(h:Wd d=some n):d=.int n:=by
 cases d<;>first|cases h;rfl|cases h
noncomputable def U8:List (Option Int)->Mn Gz
 |[some n]=>if okR n then ret1 ⟨Di 0 1 n.toNat,λ_=>True⟩else botM
 |[some a,some b]=>if okR a&&okR b then ret1 ⟨Di a 1 (b - a).toNat,λ_=>True⟩else botM
 |[some a,some b,some c]=>if okR a&&okR b&&(decide (1<=c)&&decide (c<1000))then ret1 ⟨Di a c (Builtin.Range.rangeSize a b c).toNat,λ_=>True⟩else botM
 |_=>botM
noncomputable def C4 (ds:List D):Mn Gz:=U8 (ds.map Wd)
theorem Ur{ds:List D}(hb:C4 ds st≠.bot):(∃n,ds=[.int n]/\okR n=true)∨(∃a b,ds=[.int a,.int b]/\(okR a&&okR b)=true)∨∃a b c,ds=[.int a,.int b,.int c]/\(okR a&&okR b&&(decide (1<=c)&&decide (c<1000)))=true:=by
 have hb:U8 (ds.map Wd) st≠.bot:=hb
 rcases ds with _|⟨d,_|⟨e,_|⟨f,_|⟨g,l⟩⟩⟩⟩
 ·exact absurd rfl hb
 ·rw[List.map_cons,List.map_nil]at hb
  cases h:Wd d with
  |none=>rw[h]at hb;exact absurd rfl hb
  |some n=>rw[h]at hb;exact .inl ⟨n,by rw[Gs h],Ko hb⟩
 ·rw[List.map_cons,List.map_cons,List.map_nil]at hb
  cases h:Wd d with
  |none=>rw[h]at hb;exact absurd rfl hb
  |some n=>
   cases k:Wd e with
   |none=>rw[h,k]at hb;exact absurd rfl hb
   |some m=>rw[h,k]at hb;exact .inr (.inl ⟨n,m,by rw[Gs h,Gs k],Ko hb⟩)
 ·simp only[List.map_cons,List.map_cons,List.map_cons,List.map_nil]at hb
  cases h:Wd d with
  |none=>rw[h]at hb;exact absurd rfl hb
  |some n=>
   cases k:Wd e with
   |none=>rw[h,k]at hb;exact absurd rfl hb
   |some m=>
    cases q:Wd f with
    |none=>rw[h,k,q]at hb;exact absurd rfl hb
    |some c=>rw[h,k,q]at hb;exact .inr (.inr ⟨n,m,c,by rw[Gs h,Gs k,Gs q],Ko hb⟩)
 ·simp only[List.map_cons,List.map_cons,List.map_cons,List.map_cons]at hb
  cases h:Wd d with
  |none=>rw[h]at hb;exact absurd rfl hb
  |some n=>
   cases k:Wd e with
   |none=>rw[h,k]at hb;exact absurd rfl hb
   |some m=>
    cases q:Wd f<;>(rw[h,k,q]at hb;exact absurd rfl hb)
theorem M1{a b c:Int}(hc:1<=c):0<=Builtin.Range.rangeSize a b c:=by
 unfold Builtin.Range.rangeSize;rw[if_pos (by exact Dq λZ=>Ac [_] [A9 x0 (.n 0),A9 (.n 1) x0] rT Z hc)]
 split
 ·have:0<=(b - a - 1) / c:=Int.ediv_nonneg (by omega) (by exact Bi λZ=>Ac [_] [A7 x0 (.n 0),A9 (.n 1) x0] rT Z hc)
  exact Bi λZ=>Ac [_] [A7 (.a x0 (.n 1)) (.n 0),A9 (.n 0) x0] rT Z this
 ·exact Bi λZ=>Ac [] [A7 (.n 0) (.n 0)] rT Z
theorem Mk{o:Obj}{a b c:Int}{t u v:Tok}{g:Bp→Prop}{m:Mn Gz}(K:Ok G C A P env s ρ st) (hr:o={cls:=.type "range",data:=.fields #[.int a t,.int b u,.int c v]}) (hsm:Builtin.Range.small a b c=true) (hc:1≤c) (tk:Nat)
  (hm:m st=.ok ⟨Di a c (Builtin.Range.rangeSize a b c).toNat,λ_=>True⟩ st):
  wpAny G.M A (pyIter (.ref s.heap.objs.size)) (Vz G s ρ st (λ_=>True) (m st)) (Bc G env s ρ st (m st)) {s with heap:=s.heap.push o,toks:=tk}:=by
 subst hr;have K':=K.grow (Av.push s.heap {cls:=.type "range",data:=.fields #[.int a t,.int b u,.int c v]}) Am tk;refine wpAny_pyIter_range (IsRange.new ..) hsm ?_
 generalize hh:s.heap.push {cls:=.type "range",data:=.fields #[.int a t,.int b u,.int c v]}=h1 at K'
 have z1:s.heap.objs.size<=h1.objs.size:=by rw[←hh];exact Am
 have g1:Av s.heap h1:=by rw[←hh];exact Av.push _ _
 have gg:=Av.push h1 {cls:=.type "range_iterator",data:=.fields #[rawInt a,rawInt (Builtin.Range.rangeSize a b c),rawInt c]};refine⟨ρ,_,st.sto,h1.objs.size,[h1.objs.size],Xz G h1.objs.size c,λ_=>Xz G h1.objs.size c,hm,K'.inv.grow gg Am tk,(g1.ev z1).trans (gg.ev Am),rfl,zAu,Z5,?_,λq m=>by rw[lq0 m];exact z1⟩
 refine⟨Me K'.inv (by decide) 0,a,(Builtin.Range.rangeSize a b c).toNat,?_,rfl⟩
 have e:(((Builtin.Range.rangeSize a b c).toNat:Nat):Int)=Builtin.Range.rangeSize a b c:=by have:=M1 (a:=a) (b:=b) hc;exact Gh (λZ=>Ac [_,_] [A7 x1 x0,A9 x0 x1] rT Z (G6 _)) (λZ=>Ac [_,_] [A7 x0 x1,B0 x1 x0] rT Z (Ch (Bi λY=>Ac [_] [A7 x0 (.n 0),A9 (.n 0) x0] rT Y this)))
 rw[e];exact Heap.get?_push_size _ rfl
theorem Ic{a b c:Int}(h3: -(2 ^ 40)<=a/\a<2 ^ 40) (h4: -(2 ^ 40)<=b/\b<2 ^ 40) (h6:1<=c) (h7:c<1000):Builtin.Range.small a b c=true:=by
 have hs0:=M1 (a:=a) (b:=b) h6;have hs1:Builtin.Range.rangeSize a b c<=2 ^ 42:=by
  unfold Builtin.Range.rangeSize;rw[if_pos (by exact Dq λZ=>Ac [_] [A9 x0 (.n 0),A9 (.n 1) x0] rT Z h6)]
  split
  ·have:(b - a - 1) / c<=b - a - 1:=Int.ediv_le_self _ (by omega)
   exact Bi λZ=>Ac [_,_,_] [A7 (.n 4398046511104) (.a x0 (.n 1)),A9 (.s (.n 0) (.n 1099511627776)) x1,A7 x2 (.n 1099511627776),A9 x0 (.s (.s x2 x1) (.n 1))] rT Z h3.1 h4.2 this
  ·exact Bi λZ=>Ac [] [A7 (.n 4398046511104) (.n 0)] rT Z
 unfold Builtin.Range.small;simp only[Builtin.Range.rangeFitsLong,Bool.and_eq_true,Bool.or_eq_true,decide_eq_true_eq,beq_iff_eq,show c>0 by exact Dq λZ=>Ac [_] [A9 x0 (.n 0),A9 (.n 1) x0] rT Z h6,if_true]
 have hmul:Builtin.Range.rangeSize a b c*c<=2 ^ 42*1000:=by
  calc _<=2 ^ 42*c:=Int.mul_le_mul_of_nonneg_right hs1 (by exact Bi λZ=>Ac [_] [A7 x0 (.n 0),A9 (.n 1) x0] rT Z h6)
   _<=_:=Int.mul_le_mul_of_nonneg_left (by exact Bi λZ=>Ac [_] [A7 (.n 1000) x0,A7 x0 (.n 1000)] rT Z h7) (by exact Bi λZ=>Ac [_,_] [A7 x0 (.n 0),A9 (.n 0) x1,A9 x1 x0] rT Z hs0 hs1)
 refine⟨?_,?_⟩<;>omega
theorem Oy{a b:Int}:(Builtin.Range.rangeSize a b 1).toNat=(b - a).toNat:=by
 rw[rangeSize_one];by_cases z:a<b
 ·rw[if_pos z]
 ·rw[if_neg z,Int.toNat_of_nonpos (Int.sub_nonpos_of_le (Int.not_lt.mp z))];rfl
theorem Zh:Sd G "range" (λ_=>True) C4:=λC A P env s ρ st ds vs hC K r hb=>by
 rcases Ur hb with⟨n,rfl,h1⟩|⟨a,b,rfl,h1⟩|⟨a,b,c,rfl,h1⟩
 ·obtain⟨v,_,rfl,⟨t,rfl⟩,rfl⟩:=r;have h1':=Cl.mp h1;refine call_range_1 (Mk (g:=λ_=>True) K rfl (Ic ⟨by decide,by decide⟩ h1' (Int.le_refl 1) (by decide)) (Int.le_refl 1) _ ?_)
  show(if okR n then ret1 _ else botM:Mn Gz) st=_
  rw[C3 h1,Oy,Int.sub_zero];rfl
 ·obtain⟨v1,_,rfl,⟨t,rfl⟩,v2,_,rfl,⟨u,rfl⟩,rfl⟩:=r;have h2:=Bool.and_eq_true_iff.mp h1;refine call_range_2 (Mk (g:=λ_=>True) K rfl (Ic (Cl.mp h2.1) (Cl.mp h2.2) (Int.le_refl 1) (by decide)) (Int.le_refl 1) _ ?_)
  show(if okR a&&okR b then ret1 _ else botM:Mn Gz) st=_
  rw[C3 h1,Oy];rfl
 ·obtain⟨v1,_,rfl,⟨t,rfl⟩,v2,_,rfl,⟨u,rfl⟩,v3,_,rfl,⟨v,rfl⟩,rfl⟩:=r;have h2:=Bool.and_eq_true_iff.mp h1;have h2':=Bool.and_eq_true_iff.mp h2.1;have h5:=Bool.and_eq_true_iff.mp h2.2;have h6:=of_decide_eq_true h5.1;have h7:=of_decide_eq_true h5.2;refine call_range_3 (by exactλZ=>Ac [_] [B0 x0 (.n 0),A9 (.n 1) x0] rT Z h6) (Mk (g:=λ_=>True) K rfl (Ic (Cl.mp h2'.1) (Cl.mp h2'.2) h6 h7) h6 _ ?_) (.inl (PyProof.noPylong_small (by omega)))
  show(if okR a&&okR b&&(decide (1<=c)&&decide (c<1000))then ret1 _ else botM:Mn Gz) st=_
  rw[C3 h1];rfl
noncomputable def zGR (name:Str) (id:String):Prop:=Slot "str" name id∧typeOf (.builtin id)=pure (.type "method_descriptor")
theorem Pj{name:Str}{id:String}(slot:Slot "str" name id) (ty:typeOf (.builtin id)=pure (.type "method_descriptor")):zGR name id:=⟨slot,ty⟩
noncomputable def SM (G:Gd) (name:Str) (id:String) (F:Str->List D->Mn D):Prop:=
 zGR name id/\
 ∀C A P env s ρ st x t ds vs,Ok G C A P env s ρ st->Au G s.heap ρ ds vs->At G A env s ρ st (RV G) (call (.builtin id) (.str x t::vs)) (F x ds)
noncomputable def El (F:Str->Mn D):D->Mn D
 |.str x=>F x
 |_=>botM
theorem X5{name:Str}{id:String}{Fm:Str->List D->Mn D}{o e:Expr}{es:List Expr}{mo:Mn D}{ms:Mn (List D)}{apos pos:Pos}(hM:SM G name id Fm) (ho:SE G C o mo) (hs:SA G C (e::es) ms)
  (hbase:∀env,attributeBase o name env (eval o env)=eval o env) (hst:∀env,starEach (e::es) env=(false,eval e env)::starEach es env) (hpl:∀env,(backTo pos (starEach es env)).any (·.1)=false)
  (hfew:∀env,methodCallForm ((e::es).length+([]:List Keyword).length) (backTo pos (starEach (e::es) env)) (backToKw pos (keywordEach [] env))=true) (hline:(apos.endLine==pos.line)=true):
  SE G C (.Call (.Attribute o name apos) (e::es) [] pos) (bnd mo (El λx=>bnd ms (Fm x))):=.mk <| λA P env s ρ st K hb=>by
 refine wpAny_Call_method_lateS (hbase env) (hfew env) hline (wpAny_mono (ho.run A P env s ρ st K (An hb)) (λov s' q=>?_) λx s' q=>?_)
 ·refine Fh.elim q λρ' d σ' e' I' x' r=>?_
  have K':=K.step I' x';have e2:bnd mo (El λx=>bnd ms (Fm x)) st=El (λx=>bnd ms (Fm x)) d ⟨st.loc,σ'⟩:=by simp only[bnd,e']
  rw[e2]at hb ⊢
  cases d with
  |str x=>
   obtain⟨t,rfl⟩:=r;dsimp only[El]at hb ⊢
   refine⟨"str",id,F.plainAttrs_str,hM.1.1,hM.1.2,typeIs_str _ _ _,(λ_ e=>nomatch e),?_⟩
   have hev:backTo pos (starEach (e::es) env)=(false,eval e env)::backTo pos (starEach es env):=by rw[hst];rfl
   have h1:=hs.run A P env s' ρ' ⟨st.loc,σ'⟩ pos K' (An hb);rw[hev]at h1 ⊢;refine Calls.callWith_builtin (by show(false||_)=false;rw[Bool.false_or];exact hpl env) (Calls.evalArgs_plain (wpAny_mono h1 (λvs s'' q=>?_) λx s'' q=>?_))
   ·refine Fh.elim q λρ'' ds σ'' e3 I'' x'' r=>?_
    have K'':=K'.step I'' x'';have e4:bnd ms (Fm x) ⟨st.loc,σ'⟩=Fm x ds ⟨st.loc,σ''⟩:=by simp only[bnd,e3]
    rw[e4]at hb ⊢;refine wpAny_mono (hM.2 C A P env s'' ρ'' ⟨st.loc,σ''⟩ x t ds vs K'' r hb) (λw s3 q=>?_) λw s3 q=>?_
    ·exact Fh.tr q (x'.trans x'')
    ·exact Bc.tr q (x'.trans x'')
   ·exact Bc.tr (Bc.bnd q) x'
  |_=>exact absurd rfl hb
 ·exact Bc.bnd q
noncomputable def Ge (x:Str):List D->Mn D
 |[.str y]=>if(y.length==0)=false/\x.length<=sizeLine/\(partsBetween x (occurrences x y 0 x.length (x.length+1)) y.length).length<=sizeLine then Bt ((Txt.split x y).map D.str)else botM
 |_=>botM
theorem On{h:Heap}:∀(n:Nat) (xs:List Str),Au G h ρ (xs.map D.str) (strsFrom n xs)
 |_,[]=>by simp[Au,strsFrom]
 |n,x::r=>by
  dsimp only[List.map_cons,Au,strsFrom]
  exact⟨_,_,rfl,⟨_,rfl⟩,On (n+1) r⟩
theorem X6:SM G "split" "str.split" Ge:=⟨by with_reducible exact Pj F.slot_str_split F.type_str_split,λC A P env s ρ st x t ds vs K r hb=>by
 match ds,r with
 |[],_=>exact absurd rfl hb
 |[d],r=>
  obtain⟨v,_,rfl,r,rfl⟩:=r
  cases d<;>first|exact absurd rfl hb|skip
  rename_i y;obtain⟨u,rfl⟩:=r;unfold Ge at hb ⊢; dsimp only at hb ⊢;obtain⟨hy,hx,hn⟩:=Ds hb;rw[C3 ⟨hy,hx,hn⟩];have one:Txt.split x y=[x]→wpAny G.M A (call (.builtin "str.split") [.str x t,.str y u]) (Fh G s ρ st (RV G) (Bt ((Txt.split x y).map D.str) st)) (Bc G env s ρ st (Bt ((Txt.split x y).map D.str) st)) s→
    wpAny G.M A (call (.builtin "str.split") [.str x t,.str y u]) (Fh G s ρ st (RV G) (Bt ((Txt.split x y).map D.str) st)) (Bc G env s ρ st (Bt ((Txt.split x y).map D.str) st)) s:=λ_ h=>h
  have itself:Txt.split x y=[x]→(Fh G s ρ st (RV G) (Bt ((Txt.split x y).map D.str) st)) (.ref s.heap.objs.size) {s with heap:=s.heap.push {cls:=.type "list",data:=.seq [Value.str x t].toArray}}:=λe=>by
   rw[e];exact Cz (vs:=[Value.str x t].toArray) (n:=0) K.inv (ds:=[.str x]) (by exact⟨_,_,rfl,⟨_,rfl⟩,rfl⟩) s.toks
  cases h1:(decide (x.length<y.length)||decide (strKind x<strKind y))
  ·cases hf:(occurrences x y 0 x.length (x.length+1)).isEmpty
   ·refine call_meets F.slot_str_split (typeIs_str _ _ _) F.entry_str_split (F.args_str_split_2 _ _) (meets_str_split_sep x y t u h1 hy hf hx hn) ?_
    have e:Txt.split x y=partsBetween x (occurrences x y 0 x.length (x.length+1)) y.length:=(if_neg (ne_true_of_eq_false h1)).trans (if_neg (ne_true_of_eq_false hf))
    simp only[e];exact Cz (vs:=(strsFrom s.toks (partsBetween x (occurrences x y 0 x.length (x.length+1)) y.length)).toArray) (n:=0) K.inv (On _ _) _
   ·exact call_meets F.slot_str_split (typeIs_str _ _ _) F.entry_str_split (F.args_str_split_2 _ _) (meets_str_split_not_found x y t u h1 hy hf) (itself ((if_neg (ne_true_of_eq_false h1)).trans (if_pos hf)))
  ·exact call_meets F.slot_str_split (typeIs_str _ _ _) F.entry_str_split (F.args_str_split_2 _ _) (meets_str_split_cannot_occur x y t u h1) (itself (if_pos h1))
 |a::b::l,_=>exact absurd (by cases a<;>rfl) hb⟩
noncomputable def Hr:List D->Option (List Str)
 |[]=>some []
 |.str x::r=>(Hr r).map (x:: ·)
 |_=>none
theorem Kw{h:Heap}:∀{ds:List D}{vs:List Value}{xs:List Str},Au G h ρ ds vs->Hr ds=some xs->∃l:List (Str×Tok),vs=strValues l/\l.map (·.1)=xs
 |[],vs,ns,r,e=>by
  subst r
  cases(show some []=some ns from e)
  exact⟨[],rfl,rfl⟩
 |d::ds,vs,ns,r,e=>by
  obtain⟨v,vr,rfl,r1,r2⟩:=r
  cases d with
  |str i=>
   obtain⟨ns',e',rfl⟩:=Option.map_eq_some_iff.mp e;obtain⟨xs,rfl,rfl⟩:=Kw r2 e';obtain⟨t,rfl⟩:=r1;exact⟨(i,t)::xs,rfl,rfl⟩
  |_=>cases(show none=some ns from e)
noncomputable def Dw (x:Str):List D->Mn D
 |[.ref k]=>λst=>match st.sto[k]? with
  |some (.list ds)=>match Hr ds with
   |some xs=>if JoinOk x xs=true then .ok (.str (Str.join x xs)) st else .bot
   |none=>.bot
  |_=>.bot
 |_=>botM
theorem zCZ:SM G "join" "str.join" Dw:=⟨by with_reducible exact Pj F.slot_str_join F.type_str_join,λC A P env s ρ st x t ds vs K r=>by
 refine At.leaf (λhb=>?_) K
 match ds,r with
 |[],_=>exact absurd rfl hb
 |[d],r=>
  obtain⟨v,_,rfl,r,rfl⟩:=r
  cases d<;>first|exact absurd rfl hb|skip
  rename_i k;obtain⟨a,rfl,e1⟩:=r
  cases e:st.sto[k]? with
  |none=>exact absurd (by unfold Dw;simp only[e]) hb
  |some o=>
   cases o with
   |list ds=>
    unfold Dw at hb ⊢; simp only[e]at hb ⊢
    cases e2:Hr ds with
    |none=>exact absurd (by simp only[e2]) hb
    |some xs=>
     simp only[e2]at hb ⊢;have h1:JoinOk x xs=true:=by
      cases z:JoinOk x xs with
      |true=>rfl
      |false=>exact absurd (by simp[z]) hb
     simp only[h1,if_true];apply yo;intro _ k0
     obtain⟨vs,hl,r⟩:=K.inv.sto k a _ e1 e;obtain⟨l,hvs,rfl⟩:=Kw r e2;apply k0
     refine SC.join (l:=l) (by rw[←hvs];exact hl.list) rfl h1 λt' k=>⟨_,rfl,Av.same,?_⟩
     show C9 _ _ _ _ _
     exact⟨t',by rw[←StrLaws.glued_eq_join];rfl⟩
   |_=>exact absurd (by unfold Dw;simp only[e]) hb
 |a::b::l,_=>exact absurd (by cases a<;>rfl) hb⟩
noncomputable def Mc (x:Str):List D->Mn D
 |[.str y]=>if x.length<=sizeLine then ret1 (.str (Txt.rstripChars x y))else botM
 |_=>botM
noncomputable def Pd (x:Str):List D->Mn D
 |[.str y]=>ret1 (.int (Txt.count x y))
 |_=>botM
theorem Vj:SM G "rstrip" "str.rstrip" Mc:=⟨by with_reducible exact Pj F.slot_str_rstrip F.type_str_rstrip,λC A P env s ρ st x t ds vs K r=>by
 refine At.leaf (λhb=>?_) K
 match ds,r with
 |[],_=>exact absurd rfl hb
 |[d],r=>
  obtain⟨v,_,rfl,r,rfl⟩:=r
  cases d<;>first|exact absurd rfl hb|skip
  obtain⟨u,rfl⟩:=r;unfold Mc at hb ⊢; dsimp only at hb ⊢;have h1:=Ds hb;rw[C3 h1];exact SC.rstripChars (λt' k=>⟨_,rfl,Av.same,_,rfl⟩) h1
 |a::b::l,_=>exact absurd (by cases a<;>rfl) hb⟩
theorem zAJ:SM G "count" "str.count" Pd:=⟨by with_reducible exact Pj F.slot_str_count F.type_str_count,λC A P env s ρ st x t ds vs K r=>by
 refine At.leaf (λhb=>?_) K
 match ds,r with
 |[],_=>exact absurd rfl hb
 |[d],r=>
  obtain⟨v,_,rfl,r,rfl⟩:=r
  cases d<;>first|exact absurd rfl hb|skip
  obtain⟨u,rfl⟩:=r;exact SC.count ⟨_,rfl,Av.same,_,rfl⟩
 |a::b::l,_=>exact absurd (by cases a<;>rfl) hb⟩
end
end
section
variable {G:Gd}{C:Cx}{A:Around}{P:List Addr}{env:Env}{s:Shared}{ρ:List Addr}{σ:Bp}{st:St}
theorem Ci.growPriv(I:Ci G s ρ σ){h':Heap}(g:Av s.heap h') (z:s.heap.objs.size<=h'.objs.size){q:Addr}(hq:s.heap.objs.size<=q) (hp:Wu h' q) (t:Nat):
  Ci G {s with heap:=h',toks:=t} (ρ++[q]) (σ++[.priv])/\Ev [] s.heap ρ h' (ρ++[q])/\Jg s.heap ρ h' (ρ++[q]):=by
 have hqr:q∉ρ:=λm=>Nat.lt_irrefl _ (Nat.lt_of_lt_of_le (I.mem_lt m) hq)
 have S:Jg s.heap ρ h' (ρ++[q]):=g.ext E6 λa o n1 ho _ m=>by
  rcases List.mem_append.mp m with m|m
  ·exact n1 m
  ·rw[lq0 m]at ho;exact Nat.lt_irrefl _ (Nat.lt_of_lt_of_le (Heap.lt_size ho) hq)
 refine⟨⟨λb o e=>g b o (I.base b o e),λa m=>?_,?_,by simp[I.len],λk a p' e1 e2=>?_,I.os,I.gens⟩,Hw (g.ev z) hq,S⟩
 ·rcases List.mem_append.mp m with m|m
  ·exact I.new a m
  ·rw[lq0 m];exact I.h0_le hq
 ·refine List.nodup_append.mpr ⟨I.nodup,by simp,λa m b m' e=>?_⟩
  rw[lq0 m']at e;exact hqr (e▸m)
 ·by_cases hk:k<ρ.length
  ·rw[List.getElem?_append_left hk]at e1;rw[List.getElem?_append_left (by rw[←I.len];exact hk)]at e2
   exact(I.sto k a p' e1 e2).mono S (λo' ho'=>g a o' ho') z
  ·have:k=ρ.length:=by
    have:=(lq2 e1).1
    simp at this
    exact Gw (λZ=>A5 [_,_] [A7 x1 x0,A9 x0 x1] rT Z (Nat.not_lt.mp hk)) (λZ=>A5 [_,_] [A7 x0 x1,A7 x1 (.a x0 (.n 1))] rT Z this)
   subst this;simp at e1
   rw[I.len]at e2;simp at e2
   subst e1 e2;exact hp
theorem zBa{z TI TO i1 i2 l1 l2:Addr}{k1 k2:Nat}{xs ys:Array Value}{a b:Value}{Q:Option Value->Shared->Prop}{E:Value->Shared->Prop}(hh:A.handled=none) (Ap:ZipApart z TI TO i1 i2 l1 l2)
  (hz:IsZip s.heap z TI TO .none) (hTI:IsPair s.heap TI (.ref i1) (.ref i2)) (hTO:IsPair s.heap TO a b)
  (h1:s.heap.IsListIter i1 l1 k1) (h2:s.heap.IsListIter i2 l2 k2) (hl1:s.heap.IsList l1 xs) (hl2:s.heap.IsList l2 ys) (hend:xs[k1]? =none∨ys[k2]? =none)
  (hQ:∀h',(∀c o,c≠z->c≠TO->c≠i1->c≠i2->s.heap.get? c=some o->h'.get? c=some o)->Wu h' TO->Q none {s with heap:=h'}):wpAny G.M A (pyNext (.ref z)) Q E s:=by
 have hT:s.TypeIs (.ref z) "zip":=⟨_,hz,rfl⟩
 have fin:∀h' e,(∀c o,c≠z→c≠TO→c≠i1→c≠i2→s.heap.get? c=some o→h'.get? c=some o)→Wu h' TO→(∃o,h'.get? e=some o∧o.cls=.type "StopIteration")→
   wpAny G.M A (do if ←isInstance (.ref e) (.type "StopIteration")then pure none else throw (.ref e)) Q E {s with heap:=h'}:=λh' e hk hp ho=>by
  apply yo;intro _ k0
  obtain⟨o,ho,hc⟩:=ho;apply k0
  refine wpAny_bind (wpAny_isInstance (T:="StopIteration") (b:=true) ⟨o,ho,hc⟩ isSubtype_stop ?_)
  exact wpAny_pure (hQ h' hk hp)
 refine wpAny_bind (wpAny_attempt (wpAny_callSpecial?_slot (name:=Str.ofString "__next__") hT F.slot_zip_next
  (wpAny_call_entry F.slot_zip_next hT F.entry_zip_next ?_ (F.args_zip_next_1 _))))
 show wpAny _ _ (field (.ref z) 2 >>= _) _ _ _
 refine wpAny_bind (wpAny_field hz rfl (x:=.bool false) rfl ?_)
 refine wpAny_bind (wpAny_field hz rfl (x:=.ref TI) rfl (wpAny_bind (wpAny_seqItems hTI rfl ?_)))
 refine wpAny_bind (wpAny_bind (wpAny_field hz rfl (x:=.none) rfl (wpAny_pure ?_)))
 dsimp only[if_true]
 refine wpAny_bind (wpAny_rule (wpAny_bind (wpAny_field hz rfl (x:=.ref TO) rfl (wpAny_bind (wpAny_setField_rec hz (by simp) λg1 z1 u1=>?_)))))
 replace z1:IsZip g1 z TI TO .ellipsis:=z1
 refine wpAny_bind ?_
 simp only[List.zipIdx_cons,List.zipIdx_nil,List.forIn_cons,List.forIn_nil];refine wpAny_bind (wpAny_bind (wpAny_onRaise ?_))
 cases hx:xs[k1]? with
 |none=>
  refine wpAny_bind (wpAny_nextOf_list_end hh (h1.extBut u1.extBut Ap.i1z) (hl1.extBut u1.extBut Ap.l1z) hx λg2 e u2 he=>?_)
  obtain⟨oe,hoe,hce⟩:=he;have z2:IsZip g2 z TI TO .ellipsis:=u2 _ _ Ap.i1z.symm z1
  have hez:e≠z:=λq=>by subst q;rw[z2]at hoe;cases hoe;simp at hce
  refine wpAny_setField_rec z2 (by simp) λg3 _ u3=>?_
  exact fin g3 e (λc o c1 _ c3 _ q=>u3.extBut _ _ c1 (u2 _ _ c3 (u1.extBut _ _ c1 q))) ⟨a,b,u3.extBut _ _ Ap.TOz (u2 _ _ Ap.TOi1 (u1.extBut _ _ Ap.TOz hTO))⟩ ⟨oe,u3.extBut _ _ hez hoe,hce⟩
 |some x=>
  have hy:ys[k2]? =none:=by rcases hend with h|h;rw[hx]at h;cases h;exact h
  refine wpAny_bind (wpAny_nextOf_list_item (h1.extBut u1.extBut Ap.i1z) (hl1.extBut u1.extBut Ap.l1z) hx λg2 _ u2=>wpAny_pure ?_)
  have t2:IsPair g2 TO a b:=u2.extBut _ _ Ap.TOi1 (u1.extBut _ _ Ap.TOz hTO)
  refine wpAny_bind (wpAny_seqItems t2 rfl (wpAny_bind (wpAny_updateSeq_pair t2 λg3 t3 u3=>?_)))
  replace t3:IsPair g3 TO x b:=t3
  refine wpAny_bind (wpAny_letGo (wpAny_pure (wpAny_bind (wpAny_bind (wpAny_onRaise ?_)))))
  refine wpAny_bind (wpAny_nextOf_list_end hh (((h2.extBut u1.extBut Ap.i2z).extBut u2.extBut Ap.i12.symm).extBut u3.extBut Ap.TOi2.symm)
   (((hl2.extBut u1.extBut Ap.l2z).extBut u2.extBut Ap.l2i1).extBut u3.extBut Ap.l2TO) hy λg4 e u4 he=>?_)
  obtain⟨oe,hoe,hce⟩:=he;have z4:IsZip g4 z TI TO .ellipsis:=u4 _ _ Ap.i2z.symm (u3.extBut _ _ Ap.TOz.symm (u2.extBut _ _ Ap.i1z.symm z1))
  have hez:e≠z:=λq=>by subst q;rw[z4]at hoe;cases hoe;simp at hce
  refine wpAny_setField_rec z4 (by simp) λg5 _ u5=>?_
  exact fin g5 e (λc o c1 c2 c3 c4 q=>u5.extBut _ _ c1 (u4 _ _ c4 (u3.extBut _ _ c2 (u2.extBut _ _ c3 (u1.extBut _ _ c1 q))))) ⟨x,b,u5.extBut _ _ Ap.TOz (u4 _ _ Ap.TOi2 t3)⟩ ⟨oe,u5.extBut _ _ hez hoe,hce⟩
noncomputable def Ep (ds1 ds2:List D):List D:=(ds1.zip ds2).map λp=>D.tup [p.1,p.2]
inductive ZX (i1 i2:Addr) (k1 k2:Nat) (ds1 ds2 rem:List D) (h:Heap) (ρ:List Addr):Prop
 |mk (l1 l2:Addr) (i:Nat) (e1:ρ[k1]? =some l1) (e2:ρ[k2]? =some l2) (h1:h.IsListIter i1 l1 i) (h2:h.IsListIter i2 l2 i) (e3:rem=(Ep ds1 ds2).drop i)
theorem zDz{P:Addr->Prop}{a b c d:Addr}(h1:P a) (h2:P b) (h3:P c) (h4:P d) (q:Addr) (m:q∈[a,b,c,d]):P q:=by
 simp only[List.mem_cons,List.not_mem_nil,or_false]at m;rcases m with rfl|rfl|rfl|rfl<;>assumption
theorem zCe{x a:Addr}{l:List Addr}(n:x∉a::l):x≠a:=λe=>n (by rw[e];exact lq1)
theorem zDI{x a b:Addr}{l:List Addr}(n:x∉a::b::l):x≠b:=zCe λm=>n (lq4 _ m)
theorem zGF{x a b c:Addr}{l:List Addr}(n:x∉a::b::c::l):x≠c:=zDI λm=>n (lq4 _ m)
theorem zGS{x a b c d:Addr}{l:List Addr}(n:x∉a::b::c::d::l):x≠d:=zGF λm=>n (lq4 _ m)
structure ZS (G:Gd) (z TI TO i1 i2:Addr) (k1 k2 kp:Nat) (ds1 ds2:List D) (f0:Value) (rem:List D) (h:Heap) (ρ:List Addr) (σ:Bp):Prop where
 iz:O1 G h ρ z
 j1:O1 G h ρ i1
 j2:O1 G h ρ i2
 s1:σ[k1]? =some (.list ds1)
 s2:σ[k2]? =some (.list ds2)
 sp:σ[kp]? =some .priv
 rp:ρ[kp]? =some TO
 ti:TI∉ρ
 n12:i1≠i2
 zip:IsZip h z TI TO f0
 pair:IsPair h TI (.ref i1) (.ref i2)
 ex:ZX i1 i2 k1 k2 ds1 ds2 rem h ρ
noncomputable def Ye (k1 k2 kp:Nat) (ds1 ds2:List D) (σ:Bp):Prop:=σ[k1]? =some (.list ds1)/\σ[k2]? =some (.list ds2)/\σ[kp]? =some .priv
theorem zBc{h h':Heap}{ρ':List Addr}(x:Ev P h ρ h' ρ') (N:NT h P){a:Addr}{o:Obj}(ho:h.get? a=some o) (hn:a∉ρ) (hd:∀es n,o.data≠.dict es n) (hc:∀v,o.data≠.cell v) (hl:o.cls≠.type "list"):a∉ρ'∧h'.get? a=some o:=by
 obtain⟨o',ho',q⟩:=x.keep a o ho hn (λm=>by
  obtain⟨o',ho',z⟩:=N a m;rw[ho]at ho';cases ho';rcases z with⟨_,_,z⟩|⟨_,z⟩|⟨_,_,z⟩
  ·exact hd _ _ z
  ·exact hc _ z
  ·rw[z]at hl;exact hl rfl)
 rw[q.eq hd]at ho';exact⟨x.notin ho hn,ho'⟩
theorem ZS.apart{z TI TO i1 i2:Addr}{k1 k2 kp:Nat}{ds1 ds2 rem:List D}{f0:Value}(Z:ZS G z TI TO i1 i2 k1 k2 kp ds1 ds2 f0 rem s.heap ρ σ) (I:Ci G s ρ σ){l1 l2:Addr}{i:Nat}(e1:ρ[k1]? =some l1) (e2:ρ[k2]? =some l2)
  (h1:s.heap.IsListIter i1 l1 i) (h2:s.heap.IsListIter i2 l2 i):ZipApart z TI TO i1 i2 l1 l2:=by
 obtain⟨o1,ho1,hc1,_⟩:=h1;obtain⟨o2,ho2,hc2,_⟩:=h2;have hz:s.heap.get? z=some _:=Z.zip
 have hp:s.heap.get? TI=some _:=Z.pair
 have inr:∀{a b:Addr},a∈ρ->b∉ρ->a≠b:=λm n e=>n (e▸m)
 have mTO:=List.mem_of_getElem? Z.rp;have m1:=List.mem_of_getElem? e1;have m2:=List.mem_of_getElem? e2;refine⟨λe=>?_,inr mTO Z.iz.2.1,λe=>?_,λe=>?_,λe=>Z.ti (e▸mTO),λe=>?_,λe=>?_,inr mTO Z.j1.2.1,inr mTO Z.j2.2.1,Z.n12,inr m1 Z.iz.2.1,λe=>?_,inr m1 Z.j1.2.1,inr m1 Z.j2.2.1,inr m2 Z.iz.2.1,λe=>?_,inr m2 Z.j1.2.1,inr m2 Z.j2.2.1⟩
 ·rw[e,hz]at hp;simp at hp
 ·rw[e,hz]at ho1;cases ho1;simp at hc1
 ·rw[e,hz]at ho2;cases ho2;simp at hc2
 ·rw[e,ho1]at hp;cases hp;simp at hc1
 ·rw[e,ho2]at hp;cases hp;simp at hc2
 ·subst e;have:=Bj I.nodup e1 Z.rp
  subst this;have:=Z.s1;rw[Z.sp]at this;cases this
 ·subst e;have:=Bj I.nodup e2 Z.rp
  subst this;have:=Z.s2;rw[Z.sp]at this;cases this
theorem Sn{ds1 ds2:List D}{i:Nat}{d:D}(h:(Ep ds1 ds2)[i]? =some d):∃a b,ds1[i]? =some a/\ds2[i]? =some b/\d=.tup [a,b]:=by
 rw[Ep,List.getElem?_map,Option.map_eq_some_iff]at h;obtain⟨⟨a,b⟩,h,rfl⟩:=h;obtain⟨h1,h2⟩:=List.getElem?_zip_eq_some.mp h
 exact⟨a,b,h1,h2,rfl⟩
theorem Sx{ds1 ds2:List D}:(Ep ds1 ds2).length=min ds1.length ds2.length:=by simp[Ep]
theorem ZS.own{z TI TO i1 i2:Addr}{k1 k2 kp:Nat}{ds1 ds2 rem:List D}{f0:Value}{h:Heap}(t:ZS G z TI TO i1 i2 k1 k2 kp ds1 ds2 f0 rem h ρ σ):∀q,q∈[z,TO,i1,i2]->R5 G h ρ σ q:=zDz (.inl (.inl t.iz)) (.inr ⟨kp,t.rp,t.sp⟩) (.inl (.inl t.j1)) (.inl (.inl t.j2))
theorem ZS.np{z TI TO i1 i2:Addr}{k1 k2 kp:Nat}{ds1 ds2 rem:List D}{f0:Value}{h:Heap}(t:ZS G z TI TO i1 i2 k1 k2 kp ds1 ds2 f0 rem h ρ σ):∀q,q∈[z,TO,i1,i2]->Wu h q->q=TO:=zDz (λp=>absurd p t.iz.notPrv) (λ_=>rfl) (λp=>absurd p t.j1.notPrv) (λp=>absurd p t.j2.notPrv)
noncomputable def Fz (e:Expr):Prop:=∃elts k pos,e=.Tuple elts k pos
theorem zCW{z TI TO i1 i2:Addr}{k1 k2 kp:Nat}{ds1 ds2:List D}:zA0 G z [z,TO,i1,i2] Fz (Ye k1 k2 kp ds1 ds2) (ZS G z TI TO i1 i2 k1 k2 kp ds1 ds2 .none)
  (λv rem h ρ σ=>∃T,v=.ref T/\ZS G z TI TO i1 i2 k1 k2 kp ds1 ds2 (rawInt T) rem h ρ σ) where
 own rem h ρ σ t:=t.own
 ownM v rem h ρ σ t:=t.elim λT z=>z.2.own
 keep P rem s ρ σ s' ρ' σ' t I0 I' x N g:=by
  apply yo;intro _ k0
  obtain⟨l1,l2,i,e1,e2,h1,h2,e3⟩:=t.ex;obtain⟨iz',ez⟩:=t.iz.keep x N;obtain⟨j1',ej1⟩:=t.j1.keep x N;obtain⟨j2',ej2⟩:=t.j2.keep x N;obtain⟨ti',hp'⟩:=zBc x N t.pair t.ti (λ_ _ z=>by cases z) (λ_ z=>by cases z) (by intro z;simp at z)
  obtain⟨o1,ho1,r1⟩:=h1;obtain⟨o2,ho2,r2⟩:=h2;apply k0
  exact⟨iz',j1',j2',g.1,g.2.1,g.2.2,x.pre _ _ t.rp,ti',t.n12,ez.trans t.zip,hp',l1,l2,i,x.pre _ _ e1,x.pre _ _ e2,⟨o1,ej1.trans ho1,r1⟩,⟨o2,ej2.trans ho2,r2⟩,e3⟩
 next A s ρ σ rem Q E hh I0 t h1 h2:=by
  obtain⟨l1,l2,i,e1,e2,hi1,hi2,e3⟩:=t.ex;have Dd:=t.apart I0 e1 e2 hi1 hi2;obtain⟨a,b,hTO⟩:=I0.sto kp TO .priv t.rp t.sp;obtain⟨xs,hl1,r1⟩:=I0.sto k1 l1 _ e1 t.s1;obtain⟨ys,hl2,r2⟩:=I0.sto k2 l2 _ e2 t.s2;have np:=t.np
  cases rem with
  |nil=>
   have hend:xs[i]? =none∨ys[i]? =none:=by
    have h3:=Ef e3;rw[Sx]at h3;rw[←r1.size,←r2.size]at h3;rcases Nat.le_total xs.size ys.size with h|h
    ·left;simp;omega
    ·right;simp;omega
   refine Dm (zBa hh Dd t.zip t.pair hTO hi1 hi2 hl1.list hl2.list hend λh' hk hp zz=>?_)
   exact h1 rfl h' s.toks ⟨λc o n e=>hk c o (zCe n) (zDI n) (zGF n) (zGS n) e,zz,λq m p=>by rw[np q m p];exact hp⟩
  |cons d rest=>
   apply yo;intro _ k0
   obtain⟨hd,hr⟩:=Cw e3;obtain⟨da,db,ha,hb,rfl⟩:=Sn hd;obtain⟨va,hva,ra⟩:=r1.all2.get i da ha;obtain⟨vb,hvb,rb⟩:=r2.all2.get i db hb;apply k0
   refine wpAny_pyNext_zip_item Dd t.zip t.pair hTO hi1 hi2 hl1.list hl2.list (by simpa using hva) (by simpa using hvb) λh' a1 a2 a3 a4 a5 a6 hk=>?_
   have ho:Gg [z,TO,i1,i2] s.heap h':=⟨λc o n e=>hk c o (zCe n) (zDI n) (zGF n) (zGS n) e,by exact Ar λZ=>A5 [_,_] [A7 x0 x1,Cg x0 (.a x1 (.n 1))] rT Z a6,λq m p=>by rw[np q m p];exact⟨_,_,a2⟩⟩
   have S:=ho.stb t.own;refine h2 _ rest rfl (.ref s.heap.objs.size) h' s.toks ho ?_ ⟨_,rfl,?_⟩
   ·refine⟨_,#[va,vb],rfl,I0.size_notin,⟨0,a5⟩,?_⟩
    exact⟨_,_,rfl,C9.mono S _ _ ra,_,_,rfl,C9.mono S _ _ rb,rfl⟩
   ·have it1:O1 G h' ρ i1:=by obtain⟨o,ho,hc,hd⟩:=a3;exact⟨t.j1.1,t.j1.2.1,o,_,_,ho,hc,by decide,hd⟩
    have it2:O1 G h' ρ i2:=by obtain⟨o,ho,hc,hd⟩:=a4;exact⟨t.j2.1,t.j2.2.1,o,_,_,ho,hc,by decide,hd⟩
    exact⟨⟨t.iz.1,t.iz.2.1,_,_,_,a1,rfl,by decide,rfl⟩,it1,it2,t.s1,t.s2,t.sp,t.rp,t.ti,t.n12,a1,hk _ _ Dd.TIz Dd.TITO Dd.TIi1 Dd.TIi2 t.pair,l1,l2,i+1,e1,e2,a3,a4,hr⟩
 go A s ρ σ tgt v rest Q E ht I0 t h:=by
  obtain⟨T,rfl,t⟩:=t;obtain⟨elts,k,pos,rfl⟩:=ht;obtain⟨l1,l2,i,e1,e2,hi1,hi2,e3⟩:=t.ex;have Dd:=t.apart I0 e1 e2 hi1 hi2;refine wpAny_letOwnedTupleGo_zip t.zip λh' hz' hs'=>h h' ⟨λb o n e=>hs'.extBut _ _ (zCe n) e,Nat.le_of_eq hs'.1.symm,λq m p=>?_⟩ ?_
  ·obtain⟨x,y,p⟩:=p;by_cases hq:q=z
   ·subst hq;exact absurd ⟨x,y,p⟩ t.iz.notPrv
   ·exact⟨x,y,hs'.extBut _ _ hq p⟩
  ·apply yo;intro _ k0
   obtain⟨_,_,o1,T1,vs1,ho1,hc1,hT1,hd1⟩:=id t.j1;obtain⟨_,_,o2,T2,vs2,ho2,hc2,hT2,hd2⟩:=id t.j2;apply k0
   exact⟨⟨t.iz.1,t.iz.2.1,_,_,_,hz',rfl,by decide,rfl⟩,⟨t.j1.1,t.j1.2.1,o1,T1,vs1,hs'.extBut _ _ Dd.i1z ho1,hc1,hT1,hd1⟩,⟨t.j2.1,t.j2.2.1,o2,T2,vs2,hs'.extBut _ _ Dd.i2z ho2,hc2,hT2,hd2⟩,t.s1,t.s2,t.sp,t.rp,t.ti,t.n12,hz',hs'.extBut _ _ Dd.TIz t.pair,
    l1,l2,i,e1,e2,hi1.extBut hs'.extBut Dd.i1z,hi2.extBut hs'.extBut Dd.i2z,e3⟩
theorem Zx{z TI TO i1 i2:Addr}{k1 k2 kp:Nat}{ds1 ds2:List D}:Hm G z (ZS G z TI TO i1 i2 k1 k2 kp ds1 ds2 .none):=λA s ρ σ rem Q E hh t h=>wpAny_pyIter_zip t.zip h
noncomputable def Vo (st:St) (k1 k2:Nat):Gq Gz:=match zDF st.sto[k1]?,zDF st.sto[k2]? with
 |some a,some b=>.ok ⟨Ep a b,Ye k1 k2 st.sto.length a b⟩ ⟨st.loc,st.sto++[.priv]⟩
 |_,_=>.bot
noncomputable def M6:List D->Mn Gz
 |[d1,d2]=>λst=>match zEd d1,zEd d2 with
  |some k1,some k2=>Vo st k1 k2
  |_,_=>.bot
 |_=>botM
theorem zBj{P:Prop}{ds:List D}{st:St}(hb:M6 ds st≠.bot) (k:∀k1 k2 a b,ds=[.ref k1,.ref k2]->st.sto[k1]? =some (.list a)->st.sto[k2]? =some (.list b)->P):P:=by
 rcases ds with _|⟨d1,_|⟨d2,_|⟨d3,l⟩⟩⟩
 ·exact absurd rfl hb
 ·exact absurd rfl hb
 ·cases h1:zEd d1 with
  |none=>exact absurd (by unfold M6;simp only[h1]) hb
  |some k1=>
   cases h2:zEd d2 with
   |none=>exact absurd (by unfold M6;simp only[h1,h2]) hb
   |some k2=>
    have hz:Vo st k1 k2≠.bot:=λz=>hb (by unfold M6;simp only[h1,h2];exact z)
    cases h3:zDF st.sto[k1]? with
    |none=>exact absurd (by unfold Vo;simp only[h3]) hz
    |some a=>
     cases h4:zDF st.sto[k2]? with
     |none=>exact absurd (by unfold Vo;simp only[h3,h4]) hz
     |some b=>exact k k1 k2 a b (by rw[Mt h1,Mt h2]) (Np h3) (Np h4)
 ·exact absurd rfl hb
theorem U1{k1 k2:Nat}{a b:List D}{st:St}(q1:st.sto[k1]? =some (.list a)) (q2:st.sto[k2]? =some (.list b)):M6 [.ref k1,.ref k2] st=.ok ⟨Ep a b,Ye k1 k2 st.sto.length a b⟩ ⟨st.loc,st.sto++[.priv]⟩:=by
 show Vo st k1 k2=_
 unfold Vo;rw[q1,q2];rfl
theorem Yh{P:Prop}{h:Heap}{k1 k2:Nat}{vs:List Value}(r:Au G h ρ [.ref k1,.ref k2] vs) (k:∀l1 l2,vs=[.ref l1,.ref l2]->ρ[k1]? =some l1->ρ[k2]? =some l2->P):P:=by
 obtain⟨v1,_,rfl,⟨l1,rfl,e1⟩,v2,_,rfl,⟨l2,rfl,e2⟩,rfl⟩:=r;exact k l1 l2 rfl e1 e2
theorem zDZ:Sd G "zip" Fz M6:=λC A P env s ρ st ds vs hC K r hb=>zBj hb λk1 k2 a b ed q1 q2=>by
 subst ed;refine Yh r λl1 l2 ev e1 e2=>?_
 subst ev;apply yo;intro _ k0
 obtain⟨xs,hl1,rr1⟩:=K.inv.sto k1 l1 _ e1 q1;obtain⟨ys,hl2,rr2⟩:=K.inv.sto k2 l2 _ e2 q2;apply k0
 refine Dm (call_zip_2 hl1.list hl2.list λh' hz hTI hTO hi1 hi2 hsz hk zz=>?_)
 refine wpAny_pyIter_zip hz ?_
 obtain⟨I',x',S'⟩:=K.inv.growPriv (h':=h') hk zz (q:=s.heap.objs.size+3) (Nat.le_add_right _ _) ⟨_,_,hTO⟩ s.toks
 have hnew:∀j,j≠3->s.heap.objs.size+j∉ρ++[s.heap.objs.size+3]:=λj hj m=>by
  rcases List.mem_append.mp m with m|m
  ·exact Nat.lt_irrefl _ (Nat.lt_of_lt_of_le (K.inv.mem_lt m) (Nat.le_add_right _ j))
  ·exact hj (Nat.add_left_cancel (lq0 m))
 have h0:∀j,G.h0.get? (s.heap.objs.size+j)=none:=λj=>K.inv.h0_le (Nat.le_add_right _ _)
 have klt1:k1<st.sto.length:=(lq2 q1).1
 have klt2:k2<st.sto.length:=(lq2 q2).1
 apply yo;intro _ k0
 obtain⟨o1,ho1,hc1,hd1⟩:=id hi1;obtain⟨o2,ho2,hc2,hd2⟩:=id hi2;apply k0
 exact⟨_,⟨Ep a b,Ye k1 k2 st.sto.length a b⟩,_,s.heap.objs.size+4,[s.heap.objs.size+4,s.heap.objs.size+3,s.heap.objs.size,s.heap.objs.size+1],_,_,U1 q1 q2,I',x',rfl,zCW (TI:=s.heap.objs.size+2),Zx,
  ⟨⟨h0 4,hnew 4 (by decide),_,_,_,hz,rfl,by decide,rfl⟩,⟨h0 0,hnew 0 (by decide),o1,_,_,ho1,hc1,by decide,hd1⟩,⟨h0 1,hnew 1 (by decide),o2,_,_,ho2,hc2,by decide,hd2⟩,
   (List.getElem?_append_left klt1).trans q1,(List.getElem?_append_left klt2).trans q2,lq3,by rw[←K.inv.len];exact lq3,hnew 2 (by decide),Nat.ne_of_lt (Nat.lt_succ_self _),hz,hTI,l1,l2,0,E6 _ _ e1,E6 _ _ e2,hi1,hi2,rfl⟩,
  zDz (Nat.le_add_right _ _) (Nat.le_add_right _ _) (Nat.le_refl _) (Nat.le_add_right _ _)⟩
end
section
open W
structure zCS (G:Gd) (K:Frag):Prop where
 kin:K.In G.h0
 g:∃mg,G.h0.Ns mainGlobals mg
 b:∃mb,G.h0.Ns builtinsNs mb∧∀x:Str,x≠"__name__"→mb x=bootBuiltins x
 lim:G.h0.NoLimit
section
variable {G:Gd}{K:Frag}{C:Cx}
theorem zCS.glob(L:zCS G K){x:Str}{v:Value}(e:nsIn K mainGlobals x=some (some v)):G9 G x v:=by
 obtain⟨mg,n⟩:=L.g;exact⟨mg,n,mg_of L.kin n e⟩
theorem zCS.bui(L:zCS G K){x:Str}{v:Value}(e:nsIn K mainGlobals x=some none) (e2:bootBuiltins x=some v) (hn:(x==("__name__":Str))=false):E8 G x v:=by
 obtain⟨mg,n⟩:=L.g;obtain⟨mb,n',h⟩:=L.b;refine⟨mg,mb,n,mg_none_of L.kin n e,n',?_⟩
 rw[h x (λz=>by rw[z]at hn;simp at hn)]
 exact e2
noncomputable def zEa {α:Type}(o:Option α) (f:α->Bool):Bool:=match o with
 |some a=>f a
 |none=>false
theorem My{P:Prop}{α:Type}{o:Option α}{f:α->Bool}(q:zEa o f=true) (k:∀a,o=some a->f a=true->P):P:=by
 cases o with
 |none=>cases q
 |some a=>exact k a rfl q
theorem Z7{x:Str}{i:Int}{pos:Pos}(hg:∃t,G9 G x (.int i t)) (hn:C.names.lookup x=some .globalImplicit) (hd:(x==("__debug__":Str))=false):SE G C (.Name x pos) (ret1 (.int i)):=
 let⟨_,h⟩:=hg;T4 h hn hd
noncomputable def zAK:Data->Option FuncData
 |.func fd=>some fd
 |_=>none
theorem zB8{d:Data}{fd:FuncData}(h:zAK d=some fd):d=.func fd:=by
 cases d<;>first|(cases h;done)|(cases h;rfl)
noncomputable def zGP (K:Frag) (a:Addr):Option FuncData:=(K.lookup a).bind λo=>zAK o.data
noncomputable def H5 (K:Frag) (a:Addr):FuncData:=(zGP K a).getD default
noncomputable def zCp:Data->Option (Array Value)
 |.fields vs=>some vs
 |_=>none
theorem zE0{d:Data}{vs:Array Value}(h:zCp d=some vs):d=.fields vs:=by
 cases d<;>first|(cases h;done)|(cases h;rfl)
noncomputable def zFG:Value->Option Addr
 |.ref a=>some a
 |_=>none
theorem zBh{v:Value}{a:Addr}(h:zFG v=some a):v=.ref a:=by
 cases v<;>first|(cases h;done)|(cases h;rfl)
noncomputable def zFK (q:Str):Value->Bool
 |.str q' _=>q'==q
 |_=>false
theorem zBz{P:Prop}{q:Str}{v:Value}(h:zFK q v=true) (k:∀t,v=.str q t->P):P:=by
 cases v<;>first|(cases h;done)|(cases(beq_iff_eq.mp h);exact k _ rfl)
noncomputable def zCf (K:Frag) (cd:Value) (q:Str):Bool:=zEa (zFG cd) λc=>zEa (K.lookup c) λo=>zEa (zCp o.data) λvs=>zEa (vs[1]?:Option Value) (zFK q)
noncomputable def Q5 (K:Frag) (a:Addr):Bool:=(zGP K a).isSome
noncomputable def zEw:NameKind->Bool:=λk=>k== .local||k== .cell
noncomputable def zFm (names:List (Str×NameKind)) (xs:List Str):Bool:=xs.all λx=>zEa (names.lookup x) zEw
noncomputable def Gx (names:List (Str×NameKind)):Bool:=names.all λp=>p.2 !=.free
theorem J1{a:Addr}(h:Q5 K a=true):∃o,K.lookup a=some o/\o.data=.func (H5 K a):=by
 obtain⟨fd,e⟩:=Option.isSome_iff_exists.mp h;obtain⟨o,e1,e2⟩:=Option.bind_eq_some_iff.mp e;refine⟨o,e1,?_⟩
 unfold H5;rw[e];exact zB8 e2
theorem zBe{cd:Value}{q:Str}(L:zCS G K) (h:zCf K cd q=true):G.h0.CodeRec cd q:=
 My h λc e1 h=>My h λo e2 h=>My h λvs e3 h=>My h λv e4 h=>zBz h λt e5=>⟨c,o,vs,t,zBh e1,L.kin _ _ e2,zE0 e3,by rw[e4,e5]⟩
theorem Ce{l:List Value}{n:Nat}(h:l.length=n+1):∃a r,l=a::r/\r.length=n:=by
 cases l with
 |nil=>cases h
 |cons a r=>exact⟨a,r,rfl,Nat.succ.inj h⟩
theorem Ho{fd:FuncData}{x:Str}(h:∀a,bindArgs fd ⟨[a],[]⟩=pure [(x,a)]):∀vs:List Value,vs.length=[x].length->bindArgs fd ⟨vs,[]⟩=pure ([x].zip vs):=λvs hl=>by
 obtain⟨a,r1,rfl,k1⟩:=Ce hl;rw[List.eq_nil_of_length_eq_zero (l:=r1) k1]
 exact h a
theorem Ug{fd:FuncData}{x y:Str}(h:∀a b,bindArgs fd ⟨[a,b],[]⟩=pure [(x,a),(y,b)]):∀vs:List Value,vs.length=[x,y].length->bindArgs fd ⟨vs,[]⟩=pure ([x,y].zip vs):=λvs hl=>by
 apply yo;intro _ k0
 obtain⟨a,r1,rfl,k1⟩:=Ce hl;obtain⟨b,r2,rfl,k2⟩:=Ce k1;apply k0
 rw[List.eq_nil_of_length_eq_zero (l:=r2) k2]
 exact h a b
theorem Y5{fd:FuncData}{x y z:Str}(h:∀a b c,bindArgs fd ⟨[a,b,c],[]⟩=pure [(x,a),(y,b),(z,c)]):∀vs:List Value,vs.length=[x,y,z].length->bindArgs fd ⟨vs,[]⟩=pure ([x,y,z].zip vs):=λvs hl=>by
 apply yo;intro _ k0
 obtain⟨a,r1,rfl,k1⟩:=Ce hl;obtain⟨b,r2,rfl,k2⟩:=Ce k1;obtain⟨c,r3,rfl,k3⟩:=Ce k2;apply k0
 rw[List.eq_nil_of_length_eq_zero (l:=r3) k3]
 exact h a b c
theorem zCm{fd:FuncData}{x y z u:Str}(h:∀a b c d,bindArgs fd ⟨[a,b,c,d],[]⟩=pure [(x,a),(y,b),(z,c),(u,d)]):∀vs:List Value,vs.length=[x,y,z,u].length->bindArgs fd ⟨vs,[]⟩=pure ([x,y,z,u].zip vs):=λvs hl=>by
 apply yo;intro _ k0
 obtain⟨a,r1,rfl,k1⟩:=Ce hl;obtain⟨b,r2,rfl,k2⟩:=Ce k1;obtain⟨c,r3,rfl,k3⟩:=Ce k2;obtain⟨d,r4,rfl,k4⟩:=Ce k3;apply k0
 rw[List.eq_nil_of_length_eq_zero (l:=r4) k4]
 exact h a b c d
theorem zF8{fd:FuncData}{x y z u v:Str}(h:∀a b c d e,bindArgs fd ⟨[a,b,c,d,e],[]⟩=pure [(x,a),(y,b),(z,c),(u,d),(v,e)]):∀vs:List Value,vs.length=[x,y,z,u,v].length->bindArgs fd ⟨vs,[]⟩=pure ([x,y,z,u,v].zip vs):=λvs hl=>by
 apply yo;intro _ k0
 obtain⟨a,r1,rfl,k1⟩:=Ce hl;obtain⟨b,r2,rfl,k2⟩:=Ce k1;obtain⟨c,r3,rfl,k3⟩:=Ce k2;obtain⟨d,r4,rfl,k4⟩:=Ce k3;obtain⟨e,r5,rfl,k5⟩:=Ce k4;apply k0
 rw[List.eq_nil_of_length_eq_zero (l:=r5) k5]
 exact h a b c d e
noncomputable def zFM (K:Frag) (a:Addr) (xs:List Str):Bool:=
 Q5 K a&&zCf K (H5 K a).code (H5 K a).qualname&&(H5 K a).closure.isEmpty&&((H5 K a).globals==mainGlobals)&&((H5 K a).builtins==builtinsNs)&&
 (H5 K a).scope.kind== .function&&!(H5 K a).scope.isCoroutine&&!(H5 K a).scope.isGenerator&&zFm (H5 K a).scope.names xs&&Gx (H5 K a).scope.names
theorem C2{a:Addr}{body:List Stmt}{xs:List Str}(L:zCS G K) (h:zFM K a xs=true) (hb:(H5 K a).body=.stmts body) (hbind:∀vs:List Value,vs.length=xs.length->bindArgs (H5 K a) ⟨vs,[]⟩=pure (xs.zip vs)):zDU G a (H5 K a) body xs:=by
 simp only[zFM,Bool.and_eq_true,beq_iff_eq,Bool.not_eq_true',List.isEmpty_iff]at h;apply yo;intro _ k0
 obtain⟨⟨⟨⟨⟨⟨⟨⟨⟨h1,h2⟩,h3⟩,h4⟩,h5⟩,h6⟩,h7⟩,h8⟩,h9⟩,h10⟩:=h;obtain⟨o,ho,hd⟩:=J1 h1;apply k0
 refine⟨⟨o,L.kin _ _ ho,hd⟩,hb,h4,h3,h5,zBe L h2,L.lim,h6,h7,h8,hbind,λx m=>?_,λx m=>?_⟩
 ·exact My (List.all_eq_true.mp h9 x m) λk e h=>by
   rw[e];rcases Bool.or_eq_true_iff.mp h with z|z
   ·exact .inl (by rw[beq_iff_eq.mp z])
   ·exact .inr (by rw[beq_iff_eq.mp z])
 ·have:=List.all_eq_true.mp h10 x m
  intro z;rw[z]at this;simp at this
theorem Dx{a:Addr}{body:List Stmt}{names:List (Str×NameKind)}{xs:List Str}{is:List Nat}{tbl:List Str}{n:Nat}{m:Mn Fl}(Fi:zDU G a (H5 K a) body xs) (hn:(H5 K a).scope.names=names){code:Value}(hcd:(H5 K a).code=code){qual:Str}(hql:(H5 K a).qualname++".<locals>."=qual) (tnd:tbl.Nodup)
  (hi:is.map (λi=>tbl[i]?)=xs.map some) (hb:Uc G ⟨names,tbl,n,false,code,qual⟩ body m):SF G (n+1) a (Dv is m):=by
 subst hn hcd hql;refine zCH Fi tnd ?_ hb
 clear hb Fi
 induction is generalizing xs with
 |nil=>cases xs with
  |nil=>exact .nil
  |cons _ _=>simp at hi
 |cons i is ih=>cases xs with
  |nil=>simp at hi
  |cons x xs=>
   simp only[List.map_cons,List.cons.injEq]at hi;exact .cons hi.1 (ih hi.2)
theorem zCS.fd(L:zCS G K){a:Addr}(h:Q5 K a=true):∃o fd,G.h0.get? a=some o/\o.data=.func fd:=by
 obtain⟨o,ho,hd⟩:=J1 h;exact⟨o,_,L.kin _ _ ho,hd⟩
noncomputable abbrev Ai:Mn (List D):=ret1 []
noncomputable abbrev A6 (m:Mn D) (ms:Mn (List D)):Mn (List D):=bnd m λd=>bnd ms λds=>ret1 (d::ds)
noncomputable abbrev Ab (f:D->D->Mn D) (m1 m2:Mn D):Mn D:=bnd m1 λa=>bnd m2 λb=>f a b
noncomputable abbrev Dl (f:D->D->Mn D) (m1 m2:Mn D):Mn Bool:=bnd m1 λa=>bnd m2 λb=>bnd (f a b) Cf
noncomputable abbrev zEv (f g:D->D->Mn D) (m1 m2 m3:Mn D):Mn Bool:=bnd m1 λa=>bnd m2 λb=>bnd (f a b) λc=>bnd (Cf c) λt=>if t then(bnd m3 λc=>bnd (g b c) Cf)else ret1 false
noncomputable abbrev E1 (m:Mn D):Mn Fl:=bnd m λd=>ret1 (.ret d)
noncomputable abbrev Aj (i:Nat):D->Be->Option Be:=λd loc=>some (B9 loc i d)
noncomputable def zGU:Stmt->Option (List Stmt×List (Str×NameKind))
 |.FunctionDef _ _ b _ _ _ s _ _ _=>some (b,s.names)
 |_=>none
noncomputable def Cr (p:Program) (n:Nat):List Stmt:=((p.main.body[n]?.bind zGU).map (·.1)).getD []
noncomputable def C1 (p:Program) (n:Nat):List (Str×NameKind):=((p.main.body[n]?.bind zGU).map (·.2)).getD []
noncomputable def Yp (C:Cx) (scope:Scope) (cls:List Nat):Bool:=
 scope.kind== .function&&(scope.names.all λp=>p.2 !=.cell)&&(scope.names.all λp=>p.2 !=.local||scope.names.lookup p.1==some .local)&&
 (scope.names.all λp=>p.2 !=.free||((C.names.lookup p.1==some .cell||C.names.lookup p.1==some .free)&&C.tbl.contains p.1))&&
 ((List.range C.tbl.length).all λi=>match C.tbl[i]? with
  |some x=>scope.names.lookup x !=some .local||cls.contains i
  |none=>true)
theorem Vl{scope:Scope}{cls:List Nat}(h:Yp C scope cls=true):Mv C scope cls:=by
 simp only[Yp,Bool.and_eq_true,beq_iff_eq]at h;obtain⟨⟨⟨⟨h1,h2⟩,h3⟩,h4⟩,h5⟩:=h;refine⟨h1,λx m z=>?_,λx m z=>?_,λx m z=>?_,λi x e z=>?_⟩
 ·have:=List.all_eq_true.mp h2 x m
  rw[z]at this;simp at this
 ·have:=List.all_eq_true.mp h3 x m
  rw[z]at this;simpa using this
 ·have:=List.all_eq_true.mp h4 x m
  rw[z]at this;simpa using this
 ·have:=List.all_eq_true.mp h5 i (List.mem_range.mpr (lq2 e).1)
  simp only[e]at this;rw[z]at this;simpa using this
theorem Vh{elt:Expr}{gens:List Comprehension}{scope:Scope}{cpos np:Pos}{x:Str}{line:Nat}(h1:(np.line==cpos.line)=true) (h2:(scope.names.any λp=>p.1==x&&(p.2== .local||p.2== .cell))=false) (env:Env) (hk:env.kindOf x=some .local) (hb:env.blockKind=.function):
  swapsWith (.ListComp elt gens scope cpos) (some (.Name x np)) line env=pure true:=by
 show(pure (env.blockKind== .function&&env.kindOf x==some .local&&np.line==cpos.line&&!(scope.names.any λp=>p.1==x&&(p.2== .local||p.2== .cell))):Sem Bool)=pure true
 rw[h1,h2,hk,hb];rfl
theorem T3{elt:Expr}{gens:List Comprehension}{scope:Scope}{cpos np:Pos}{x:Str}{line:Nat}(env:Env) (hk:env.kindOf x=some .cell):
  swapsWith (.ListComp elt gens scope cpos) (some (.Name x np)) line env=pure false:=by
 show(pure (env.blockKind== .function&&env.kindOf x==some .local&&np.line==cpos.line&&!(scope.names.any λp=>p.1==x&&(p.2== .local||p.2== .cell))):Sem Bool)=pure false
 rw[hk];have:(some NameKind.cell==some NameKind.local)=false:=by decide
 rw[this];simp
end
end
section
open W
end
section
open Builtin.Str
noncomputable def Bl (v:Option Int) (dflt n:Int):Int:=match v with
 |none=>dflt
 |some i=>max 0 (min (if i<0 then i+n else i) n)
noncomputable def Eg {α:Type}(lo hi:Option Int) (l:List α):List α:=(l.drop (Bl lo 0 l.length).toNat).take (Bl hi l.length l.length - Bl lo 0 l.length).toNat
theorem I9{v:Option Int}{d n:Int}(hn:0<=n) (hd:0<=d) (hd2:d<=n):0<=Bl v d n/\Bl v d n<=n:=by
 cases v with
 |none=>exact⟨hd,hd2⟩
 |some i=>exact⟨Int.le_max_left _ _,Int.max_le.mpr ⟨hn,Int.min_le_right _ _⟩⟩
theorem V9(lo hi:Option Int) (n:Nat):sliceBounds lo hi none n=(Bl lo 0 n,Bl hi n n,1):=by
 cases lo<;>cases hi<;>rfl
theorem R6{a b:Int}(ha:0<=a):sliceRange a b 1=(List.range (b - a).toNat).map λk=>a.toNat+k:=by
 unfold sliceRange;simp only[show(1:Int)>0 by decide,if_true,Int.ediv_one]
 have e:(if a<b then b - a+1 - 1 else 0).toNat=(b - a).toNat:=by
  split
  ·rw[Int.add_sub_cancel]
  ·rename_i h;rw[Int.toNat_of_nonpos (Int.sub_nonpos_of_le (Int.not_lt.mp h))];rfl
 simp only[e];refine List.map_congr_left λk _=>?_
 show(a+1*(k:Int)).toNat=a.toNat+k
 simp only[Int.one_mul,Int.toNat_add ha (Int.natCast_nonneg k),Int.toNat_natCast]
theorem P1{α:Type}(lo hi:Option Int) (l:List α):(sliceRange (Bl lo 0 l.length) (Bl hi l.length l.length) 1).filterMap (l[·]?)=Eg lo hi l:=by
 obtain⟨h1,h2⟩:=I9 (v:=lo) (d:=0) (n:=(l.length:Int)) (by exact Bi λZ=>Ac [_] [A7 x0 (.n 0),A9 (.n 0) x0] rT Z (Az _)) (by exact Bi λZ=>Ac [] [A7 (.n 0) (.n 0)] rT Z) (by exact Bi λZ=>Ac [_] [A7 x0 (.n 0),A9 (.n 0) x0] rT Z (Az _))
 obtain⟨h3,h4⟩:=I9 (v:=hi) (d:=(l.length:Int)) (n:=(l.length:Int)) (by exact Bi λZ=>Ac [_,_] [A7 x0 (.n 0),A9 (.n 0) x1,A9 x1 x0] rT Z h1 h2) (by exact Bi λZ=>Ac [_,_] [A7 x0 (.n 0),A9 (.n 0) x1,A9 x1 x0] rT Z h1 h2) (by exact Bi λZ=>Ac [_] [A7 x0 x0] rT Z)
 simp only[R6 h1];unfold Eg;by_cases h:Bl lo 0 l.length<=Bl hi l.length l.length
 ·exact StrLaws.picks l _ _ (by exact Hj (Bi λZ=>Ac [(↑l.length),(↑(Bl lo 0 ↑l.length).toNat),(↑(Bl hi ↑l.length ↑l.length - Bl lo 0 ↑l.length).toNat),(Bl hi ↑l.length ↑l.length),(Bl lo 0 ↑l.length)] [A7 x0 (.a x1 x2),A9 x3 x0,B0 x1 x4,B0 x2 (.s x3 x4)] rT Z h4 (Ch (Bi λY=>Ac [(Bl lo 0 ↑l.length)] [A7 x0 (.n 0),A9 (.n 0) x0] rT Y h1)) (Ch (Bi λY=>Ac [(Bl lo 0 ↑l.length),(Bl hi ↑l.length ↑l.length)] [A7 (.s x1 x0) (.n 0),A9 x0 x1] rT Y h))))
 ·have e:(Bl hi l.length l.length - Bl lo 0 l.length).toNat=0:=by(clear h4 h3 h2 h1;omega)
  rw[e];simp
theorem Pb(items:Array Value) (lo hi:Option Int):slicePick items lo hi none=(Eg lo hi items.toList).toArray:=by
 unfold slicePick;rw[V9];congr 1
 have:=P1 lo hi items.toList
 simpa using this
theorem Qz{α:Type}(lo hi:Option Int) (l:List α):(Eg lo hi l).length<=l.length:=((List.take_sublist _ _).trans (List.drop_sublist _ _)).length_le
theorem Bs.cut{α β:Type}{R:α->β->Prop}{l:List α}{l':List β}(h:Bs R l l') (lo hi:Option Int):Bs R (Eg lo hi l) (Eg lo hi l'):=by
 unfold Eg;rw[h.length];exact(h.drop _).take _
inductive SO (G:Gd) (C:Cx):Option Expr->Option (Mn D)->Prop
 |none:SO G C none none
 |some {e m}:SE G C e m->SO G C (some e) (some m)
noncomputable def zAF:D->Mn (Option Int)
 |.int i=>ret1 (some i)
 |_=>botM
noncomputable def Gt:Option (Mn D)->Mn (Option Int)
 |none=>ret1 none
 |some m=>bnd m zAF
noncomputable def G3 (d:D) (l h:Option Int):Mn D:=match d with
 |.ref k=>λst=>match st.sto[k]? with
  |some (.list ds)=>if ds.length<=sizeLine then Bt (Eg l h ds) st else .bot
  |_=>.bot
 |.tup ds=>if ds.length<=sizeLine then ret1 (.tup (Eg l h ds))else botM
 |_=>botM
noncomputable def Eo (m:Mn D) (lo hi:Option (Mn D)):Mn D:=bnd m λa=>bnd (bnd (Gt lo) λl=>bnd (Gt hi) λh=>ret1 (l,h)) λp=>G3 a p.1 p.2
section
variable {G:Gd}{C:Cx}{A:Around}{P:List Addr}{env:Env}{s:Shared}{ρ:List Addr}{st:St}
noncomputable abbrev RP:Heap->List Addr->Option Int->Value->Prop:=λ_ _ k v=>IsPart v k
noncomputable abbrev zGM:Heap->List Addr->Option Int×Option Int->Value->Prop:=λh ρ p v=>∃a vl vu,v=.ref a/\h.IsSliceOf a vl vu .none/\IsPart vl p.1/\IsPart vu p.2
theorem zAw:SO G C none none:=.none
theorem zB6{e:Expr}{m:Mn D}(h:SE G C e m):SO G C (some e) (some m):=.some h
theorem Tw{oe:Option Expr}{om:Option (Mn D)}(h:SO G C oe om) (K:Ok G C A P env s ρ st):At G A env s ρ st RP (evalPart oe env) (Gt om):=by
 cases h with
 |none=>exact At.pure K .none
 | @some e m h=>
  refine At.ofEq (t':=eval e env >>= λv=>pure v) (by rw[evalPart_some];simp) ?_
  refine At.bind K (h.run A P env s ρ st K) λv s' ρ' d σ' K' x r hb=>?_
  cases d<;>first|exact absurd rfl hb|skip
  obtain⟨t,rfl⟩:=r;exact At.pure K' (.int _ t) hb
theorem Wg{lo hi:Option Expr}{ml mh:Option (Mn D)}{p:Pos}(h1:SO G C lo ml) (h2:SO G C hi mh) (K:Ok G C A P env s ρ st):
  At G A env s ρ st zGM (eval (.Slice lo hi none p) env) (bnd (Gt ml) λl=>bnd (Gt mh) λh=>ret1 (l,h)):=λhb=>by
 refine wpAny_Slice (wpAny_mono (Tw h1 K (An hb)) (λvl s' q=>?_) λx s' q=>?_)
 ·refine Fh.elim q λρ' l σ' e I' x r=>?_
  have K':=K.step I' x;have e':bnd (Gt ml) (λl=>bnd (Gt mh) λh=>ret1 (l,h)) st=bnd (Gt mh) (λh=>ret1 (l,h)) ⟨st.loc,σ'⟩:=by unfold bnd;rw[e]
  rw[e']at hb ⊢;refine wpAny_mono (Tw h2 K' (An hb)) (λvu s'' q=>?_) λex s'' q=>?_
  ·refine Fh.elim q λρ'' h σ'' e2 I'' x2 r2=>?_
   simp only[evalPart_none];refine wpAny_pure ?_
   have g:=Av.push s''.heap {cls:=.type "slice",data:=.fields #[vl,vu,.none]};exact⟨ρ'',(l,h),σ'',by simp only[bnd,e2,ret1],I''.grow g Am s''.toks,(x.trans x2).trans (g.ev Am),_,vl,vu,rfl,Heap.IsSliceOf.new ..,r,r2⟩
  ·exact Bc.tr (Bc.bnd q) x
 ·exact Bc.bnd q
theorem V5(lo hi:Option Int) (n:Nat):Builtin.Slice.sliceAdjust lo hi 1 (n:Int)=(Bl lo 0 n,Bl hi n n):=by
 have c:∀i:Int,(if i<0 then max (i+(n:Int)) 0 else min i (n:Int))=max 0 (min (if i<0 then i+n else i) n):=λi=>by
  by_cases z:i<0
  ·rw[if_pos z,if_pos z,Int.min_eq_left (by have:=Int.add_le_add_right (Int.le_of_lt z) (n:Int);rwa [Int.zero_add]at this),Int.max_comm]
  ·rw[if_neg z,if_neg z,Int.max_eq_right (Int.le_min.mpr ⟨Int.not_lt.mp z,Int.natCast_nonneg n⟩)]
 unfold Builtin.Slice.sliceAdjust Bl;simp only[show¬((1:Int)<0)by decide,if_false]
 cases lo<;>cases hi<;>simp only[c]
theorem W3(a b:Int):Builtin.Slice.slicePlaces a b 1=(b - a).toNat:=by
 unfold Builtin.Slice.slicePlaces;simp only[show(1:Int)>0 by decide,if_true,Int.ediv_one]
 by_cases z:a<b
 ·rw[if_pos z,Int.sub_add_cancel]
 ·rw[if_neg z,Int.toNat_of_nonpos (Int.sub_nonpos_of_le (Int.not_lt.mp z))];rfl
theorem Qp{E:Value->Shared->Prop}{v:Value}{k:Option Int}{Q:Option Int->Shared->Prop}(p:IsPart v k) (h:Q k s):wpAny G.M A (Builtin.Slice.slicePartIndex v) Q E s:=by
 cases p with
 |none=>exact slicePart_none h
 |int i t=>exact slicePart_int h
theorem Vk{E:Value->Shared->Prop}{t sl:Addr}{items:Array Value}{vl vu:Value}{lo hi:Option Int}{Q:Value->Shared->Prop}(ht:IsTup s.heap t items) (hs:s.heap.IsSliceOf sl vl vu .none) (pl:IsPart vl lo) (pu:IsPart vu hi)
  (h1:Eg lo hi items.toList=items.toList->Q (.ref t) s)
  (h2:Q (.ref s.heap.objs.size) {s with heap:=s.heap.push {cls:=.type "tuple",data:=.seq (Eg lo hi items.toList).toArray}})
  (hsz:items.size<=sizeLine):wpAny G.M A (getItem (.ref t) (.ref sl)) Q E s:=by
 have hdrop:sizeOk (.seq (Eg lo hi items.toList).toArray):=by
  show(Eg lo hi items.toList).toArray.size<=sizeLine
  rw[List.size_toArray];exact Nat.le_trans (Qz ..) (by rw[Array.length_toList];exact hsz)
 apply yo;intro _ k0
 obtain⟨os,hos,hcs,hds⟩:=id hs;apply k0
 have hTs:s.TypeIs (.ref sl) "slice":=⟨os,hos,hcs⟩
 have cr:=I9 (v:=lo) (d:=0) (n:=(items.size:Int)) (by omega) (by omega) (by omega);have pick:((List.range (Bl hi items.size items.size - Bl lo 0 items.size).toNat).filterMap λ(k:Nat)=>items[(Bl lo 0 items.size+(k:Int)*1).toNat]?)=Eg lo hi items.toList:=by
  have:=P1 lo hi items.toList
  simp only[Array.length_toList,R6 cr.1,List.filterMap_map]at this;simp only[←this];congr 1
  funext k
  have e:(Bl lo 0 items.size+(k:Int)*1).toNat=(Bl lo 0 items.size).toNat+k:=by omega
  simp only[e];simp
 unfold getItem
 try with_reducible refine wpAny_holding ?_
 first|refine wpAny_bind (wpAny_pure ?_)|skip
 refine wpAny_bind (wpAny_sequenceKey ht.typeIs (by decide) ?_)
 refine wpAny_bind (wpAny_callSpecial?_slot (name:=Str.ofString "__getitem__") ht.typeIs slot_tuple_getitem
  (wpAny_call_entry slot_tuple_getitem ht.typeIs entry_tuple_getitem ?_ (args_tuple_getitem _ _)))
 show wpAny _ _ (Builtin.Tuple.tupleItemsOf (.ref t) >>= _) _ _ s
 refine wpAny_bind (tupleItemsOf_ ht ?_)
 refine wpAny_bind (wpAny_typeOf hTs ?_)
 rw[if_pos (by decide)];refine wpAny_bind (m:=Builtin.Slice.sliceApplied (.ref sl) (pure (items.size:Int))) ?_
 refine wpAny_bind (wpAny_bind (wpAny_field hos hds (x:=vl) rfl (wpAny_bind (wpAny_field hos hds (x:=vu) rfl (wpAny_bind (wpAny_field hos hds (x:=.none) rfl (wpAny_pure ?_)))))))
 refine wpAny_bind (slicePart_none ?_)
 rw[if_neg (by decide)];refine wpAny_bind (Qp pl (wpAny_bind (Qp pu (wpAny_bind (wpAny_pure ?_)))))
 show wpAny _ _ (match Builtin.Slice.sliceAdjust lo hi 1 (items.size:Int)with|(lo,hi)=>pure (lo,(1:Int),Builtin.Slice.slicePlaces lo hi 1)) _ _ s
 rw[V5];show wpAny _ _ (pure (Bl lo 0 items.size,(1:Int),Builtin.Slice.slicePlaces (Bl lo 0 items.size) (Bl hi items.size items.size) 1)) _ _ s
 rw[W3];refine wpAny_pure ?_
 by_cases hw:(Bl lo 0 items.size==0&&(1:Int)==1&&(Bl hi items.size items.size - Bl lo 0 items.size).toNat==items.size)=true
 ·show wpAny _ _ (if(Bl lo 0 items.size==0&&(1:Int)==1&&(Bl hi items.size items.size - Bl lo 0 items.size).toNat==items.size)=true then _ else _) _ _ s
  rw[if_pos hw];refine wpAny_bind (wpAny_bind (wpAny_typeOf ht.typeIs (wpAny_pure ?_)))
  rw[if_pos (by decide)];refine wpAny_bind (wpAny_rule (wpAny_pure ⟨_,rfl,wpAny_pure (h1 ?_)⟩))
  simp only[Bool.and_eq_true,beq_iff_eq]at hw;unfold Eg;rw[Array.length_toList,hw.2,hw.1.1];exact List.take_of_length_le (by rw[Array.length_toList.symm];exact Nat.le_refl _)
 ·show wpAny _ _ (if(Bl lo 0 items.size==0&&(1:Int)==1&&(Bl hi items.size items.size - Bl lo 0 items.size).toNat==items.size)=true then _ else _) _ _ s
  rw[if_neg hw];rw[pick]
  first
   |exact wpAny_bind (m:=Builtin.Tuple.tupleExact _) (wpAny_newObj_type (wpAny_pure ⟨_,rfl,wpAny_pure h2⟩) hdrop)
   |exact wpAny_bind (m:=Builtin.Tuple.tupleExact _) (wpAny_newObj_type (wpAny_bind (wpAny_pure (wpAny_pure ⟨_,rfl,wpAny_pure h2⟩))) hdrop)
theorem Pn{P:Prop}{α:Type}{c:Prop} [Decidable c] {a:Gq α}(hb:(if c then a else .bot)≠.bot) (w:c->(if c then a else .bot)=a->P):P:=by
 by_cases z:c
 ·exact w z (if_pos z)
 ·exact absurd (if_neg z) hb
theorem Wv{P:Prop}{d:D}{l h:Option Int}{st:St}(hb:G3 d l h st≠.bot) (w1:∀k ds,d=.ref k->st.sto[k]? =some (.list ds)->ds.length<=sizeLine->G3 (.ref k) l h st=Bt (Eg l h ds) st->P)
  (w2:∀ds,d=.tup ds->ds.length<=sizeLine->G3 (.tup ds) l h st=.ok (.tup (Eg l h ds)) st->P):P:=by
 cases d<;>first|exact absurd rfl hb|skip
 ·rename_i ds;have hz:ds.length<=sizeLine:=Ds hb
  exact w2 ds rfl hz (C3 hz)
 ·rename_i k;have e:G3 (.ref k) l h st=Hi st.sto[k]? λds=>if ds.length<=sizeLine then Bt (Eg l h ds) st else .bot:=by
   generalize ho:st.sto[k]? =o
   unfold G3;dsimp only;rw[ho]
   cases o with
   |none=>rfl
   |some o=>cases o<;>rfl
  rw[e]at hb;refine Fe hb λds e1 e2=>?_
  rw[e2]at hb;exact Pn hb λhz e3=>w1 k ds rfl e1 hz (e.trans (e2.trans e3))
theorem Up{d:D}{o i:Value}{p:Option Int×Option Int}{value:Expr}{lo hi:Option Expr}{pp:Pos}(K:Ok G C A P env s ρ st) (r1:C9 G s.heap ρ d o) (r2:zGM s.heap ρ p i):
  At G A env s ρ st (RV G) (subscriptTail value (.Slice lo hi none pp) o i) (G3 d p.1 p.2):=λhb=>by
 obtain⟨a,vl,vu,rfl,hs,pl,pu⟩:=r2;have hsub:∀o,subscripted (.Slice lo hi none pp) false o (.ref a)=operate [.ref a,o] (getItem o (.ref a)):=λ_=>rfl
 refine Wv hb (λk ds ed e hz ee=>?_) λds ed hz ee=>?_
 ·subst ed;rw[ee];refine K8 r1 λal ev e1=>Gy K.inv e1 e λvs n hl r=>?_
  subst ev;have hl:s.heap.IsList al vs:=⟨_,hl,rfl,n,rfl⟩
  refine tail_any hl.typeIs slot_list_getitem.lookup (wpAny_getItem_list_slice hl hs pl pu .none (by simp) ?_ (by rw[r.size];exact hz)) (hsub _)
  rw[Pb];exact Cz (vs:=(Eg p.1 p.2 vs.toList).toArray) (n:=0) K.inv (Au.of_all2 (r.all2.cut _ _)) s.toks
 ·subst ed;rw[ee];refine Qa r1 λal vs n ev hna ho rr=>?_
  subst ev;have ht:IsTup s.heap al vs:=⟨_,ho,rfl,n,rfl⟩
  refine tail_any ht.typeIs slot_tuple_getitem.lookup (Vk ht hs pl pu (λe=>?_) ?_ (by rw[rr.size];exact hz)) (hsub _)
  ·exact⟨ρ,.tup (Eg p.1 p.2 ds),st.sto,rfl,K.inv.tok s.toks,Ev.refl,⟨al,vs,rfl,hna,⟨n,ho⟩,by rw[←e];exact Au.of_all2 (rr.all2.cut _ _)⟩⟩
  ·have g:=Av.push s.heap (Sf (Eg p.1 p.2 vs.toList).toArray 0);exact⟨ρ,.tup (Eg p.1 p.2 ds),st.sto,rfl,K.inv.grow g Am s.toks,g.ev Am,⟨_,(Eg p.1 p.2 vs.toList).toArray,rfl,K.inv.size_notin,⟨0,Heap.get?_push_size _ rfl⟩,Au.of_all2 ((Au.mono g.stb _ _ rr).all2.cut _ _)⟩⟩
theorem zAR{v:Expr}{lo hi:Option Expr}{p pos:Pos}{m:Mn D}{ml mh:Option (Mn D)}(h:SE G C v m) (h1:SO G C lo ml) (h2:SO G C hi mh):SE G C (.Subscript v (.Slice lo hi none p) pos) (Eo m ml mh):=.mk <| λA P env s ρ st K=>by
 refine At.ofEq (t':=do let o ←eval v env;let i ←holding [o] (eval (.Slice lo hi none p) env);standAt pos;subscriptTail v (.Slice lo hi none p) o i) (by rw[eval_Subscript];rfl) ?_
 refine At.bind K (h.run A P env s ρ st K) λo s' ρ' d σ' K' x r1=>?_
 refine At.bind K' (At.hold (Wg h1 h2 K')) λi s'' ρ'' q σ'' K'' x2 r2=>?_
 exact At.stand (Up (lo:=lo) (hi:=hi) (value:=v) K'' (C9.mono (x2.stb K'.inv .nil) _ _ r1) r2)
noncomputable def Ao:D->D->Mn D
 |.ref a,.ref b=>λst=>match st.sto[a]?,st.sto[b]? with
  |some (.list x),some (.list y)=>if x.length+y.length<=sizeLine then Bt (x++y) st else .bot
  |_,_=>.bot
 |.tup x,.tup y=>if x.length+y.length<=sizeLine then ret1 (.tup (x++y))else botM
 |a,b=>Uh a b
theorem zA1{P:Prop}{d1 d2:D}(k1:∀a b,d1=.ref a->d2=.ref b->P) (k2:∀x y,d1=.tup x->d2=.tup y->P) (k3:Ao d1 d2=Uh d1 d2->P):P:=by
 cases d1 with
 |ref a=>cases d2<;>first|exact k1 _ _ rfl rfl|exact k3 rfl
 |tup x=>cases d2<;>first|exact k2 _ _ rfl rfl|exact k3 rfl
 |_=>exact k3 rfl
theorem zAh{P:Prop}{ka kb:Nat}{st:St}(hb:Ao (.ref ka) (.ref kb) st≠.bot) (w:∀x y,st.sto[ka]? =some (.list x)->st.sto[kb]? =some (.list y)->x.length+y.length<=sizeLine->Ao (.ref ka) (.ref kb) st=Bt (x++y) st->P):P:=by
 have e:Ao (.ref ka) (.ref kb) st=Hi st.sto[ka]? λx=>Hi st.sto[kb]? λy=>if x.length+y.length<=sizeLine then Bt (x++y) st else .bot:=by
  generalize h1:st.sto[ka]? =o
  generalize h2:st.sto[kb]? =q
  unfold Ao;dsimp only;rw[h1,h2]
  cases o with
  |none=>rfl
  |some o=>
   cases o with
   |list x=>
    cases q with
    |none=>rfl
    |some q=>cases q<;>rfl
   |_=>rfl
 rw[e]at hb;refine Fe hb λx e1 e2=>?_
 rw[e2]at hb;refine Fe hb λy e3 e4=>?_
 rw[e4]at hb;exact Pn hb λhz e5=>w x y e1 e3 hz (e.trans (e2.trans (e4.trans e5)))
theorem zBr{ka kb:Nat}{v1 v2:Value}(K:Ok G C A P env s ρ st) (r1:C9 G s.heap ρ (.ref ka) v1) (r2:C9 G s.heap ρ (.ref kb) v2):At G A env s ρ st (RV G) (binaryOp .Add v1 v2) (Ao (.ref ka) (.ref kb)):=λhb=>by
 refine zAh hb λx y qa qb hz e=>K8 r1 λa e1 ea=>K8 r2 λb e2 eb=>Gy K.inv ea qa λvs n1 hl1 rr1=>Gy K.inv eb qb λws n2 hl2 rr2=>?_
 subst e1 e2;rw[e];exact PySem.P.add_list hl1 hl2 (Cz (vs:=vs++ws) (n:=0) K.inv (Au.of_all2 (by rw[Array.toList_append];exact rr1.all2.append rr2.all2)) s.toks) (by rw[rr1.size,rr2.size];exact hz)
theorem Tj{G:Gd}{h:Heap}{ρ:List Addr}{x:List D}{vs:Array Value}(e1:vs.isEmpty=true) (r:Au G h ρ x vs.toList):x=[]/\vs= #[]:=by
 have e0:vs= #[]:=Array.isEmpty_iff.mp e1
 subst e0;exact⟨List.eq_nil_of_length_eq_zero r.size.symm,rfl⟩
theorem zCC{x y:List D}{v1 v2:Value}(K:Ok G C A P env s ρ st) (r1:C9 G s.heap ρ (.tup x) v1) (r2:C9 G s.heap ρ (.tup y) v2):At G A env s ρ st (RV G) (binaryOp .Add v1 v2) (Ao (.tup x) (.tup y)):=λhb=>by
 have hz:x.length+y.length<=sizeLine:=Ds hb
 have e:Ao (.tup x) (.tup y) st=.ok (.tup (x++y)) st:=C3 hz
 rw[e];refine Qa r1 λa vs n1 e1 na h1 rr1=>Qa r2 λb ws n2 e2 nb h2 rr2=>?_
 subst e1 e2;by_cases e1:vs.isEmpty=true
 ·obtain⟨rfl,rfl⟩:=Tj e1 rr1;exact concat_meets ⟨_,h1,rfl⟩ ⟨_,h2,rfl⟩ noFill_tuple_add seq_tuple_add PySem.F.slot_tuple_add PySem.F.entry_tuple_add (PySem.F.args_tuple_add_2 _ _) (tuple_addW0 a b #[] ws n1 n2 none none #[] #[] rfl) ⟨h1,h2,⟨ρ,.tup y,st.sto,rfl,K.inv.tok s.toks,Ev.refl,⟨b,ws,rfl,nb,⟨n2,h2⟩,rr2⟩⟩⟩
 by_cases e2:ws.isEmpty=true
 ·obtain⟨rfl,rfl⟩:=Tj e2 rr2;rw[List.append_nil];exact concat_meets ⟨_,h1,rfl⟩ ⟨_,h2,rfl⟩ noFill_tuple_add seq_tuple_add PySem.F.slot_tuple_add PySem.F.entry_tuple_add (PySem.F.args_tuple_add_2 _ _) (tuple_addW1 a b vs #[] n1 n2 none none #[] #[] e1 rfl) ⟨h1,h2,⟨ρ,.tup x,st.sto,rfl,K.inv.tok s.toks,Ev.refl,⟨a,vs,rfl,na,⟨n1,h1⟩,rr1⟩⟩⟩
 have g:=Av.push s.heap (Sf (vs++ws) 0);exact PySem.P.add_tuple h1 h2 e1 e2 ⟨ρ,.tup (x++y),st.sto,rfl,K.inv.grow g Am s.toks,g.ev Am,⟨_,vs++ws,rfl,K.inv.size_notin,⟨0,Heap.get?_push_size _ rfl⟩,Au.of_all2 (by rw[Array.toList_append];exact(Au.mono g.stb _ _ rr1).all2.append (Au.mono g.stb _ _ rr2).all2)⟩⟩ (by rw[rr1.size,rr2.size];exact hz)
theorem zBX:Gj G .Add Ao:=λC A P env s ρ st d1 d2 v1 v2 K r1 r2=>zA1 (d1:=d1) (d2:=d2) (λa b e1 e2=>by subst e1 e2;exact zBr K r1 r2) (λx y e1 e2=>by subst e1 e2;exact zCC K r1 r2) λe=>by rw[e];exact Ws C A P env s ρ st d1 d2 v1 v2 K r1 r2
end
end
section
open Builtin.Str
section
variable {G:Gd}{C:Cx}{A:Around}{P:List Addr}{env:Env}{s:Shared}{ρ:List Addr}{st:St}
noncomputable def L6 {α:Type}(n:Int) (l:List α):List α:=(List.replicate n.toNat l).flatten
noncomputable def De:D->D->Mn D
 |.ref k,.int n=>λst=>match st.sto[k]? with
  |some (.list ds)=>if E5 n=true/\ds.length*n.toNat<=16777216 then Bt (L6 n ds) st else .bot
  |_=>.bot
 |a,b=>zAA a b
theorem Bs.rep{α β:Type}{R:α->β->Prop}{l:List α}{l':List β}(h:Bs R l l'):∀k:Nat,Bs R (List.replicate k l).flatten (List.replicate k l').flatten
 |0=>by simp;exact .nil
 |k+1=>by exact h.append (h.rep k)
theorem zCN{l:Addr}{items:Array Value}{k:Nat}{x:Int}{u:Tok}{Q:Value->Shared->Prop}{E:Value->Shared->Prop}
  (hl:s.heap.get? l=some (F6 items k)) (hi:E5 x=true) (hsz:items.size*x.toNat<=16777216)
  (h:Q (.ref s.heap.objs.size) {s with heap:=s.heap.push (F6 (L6 x items.toList).toArray 0)}):wpAny G.M A (binaryOp .Mult (.ref l) (.int x u)) Q E s:=by
 have hi':=E3.mp hi;have e:List.foldl (λx1 x2=>x1++x2) #[] (List.replicate (if items.isEmpty=true then 0 else x.toNat) items)=(L6 x items.toList).toArray:=by
  rw[listMul_foldl];congr 1
  simp only[List.nil_append,L6];split
  ·rename_i h;rw[Array.isEmpty_iff.mp h];simp
  ·rfl
 refine wpAny_binaryOp_repeat_ref (T:="list") (U:="int") (by decide) ⟨_,hl,rfl⟩ (λs'=>typeIs_int s' x u) noFill_list_mul F.fills_int_mul F.slot_int_rmul repeat_list F.slot_int_index.lookup
  (call_meets F.slot_int_rmul (typeIs_int s x u) F.entry_int_rmul (F.args_int_rmul_2 _ _) (int___rmul___int_list x u l items k)
   ⟨hl,rfl,⟨_,hl,rfl⟩,call_meets F.slot_list_mul ⟨_,hl,rfl⟩ F.entry_list_mul (F.args_list_mul_2 _ _)
    (AutoListH.list___mul___list_int_3 l items k x u (by simp[Builtin.List.listFitsIndex];(clear e h hsz hi hl;omega)) (by(clear e hi' h hi hl;omega)) (by simp[Builtin.List.listTooLong,sizeLine];exact Ar λZ=>A5 [_] [A7 (.n 16777216) x0,A9 x0 (.n 16777216)] rT Z hsz))
    ⟨hl,?_⟩⟩)
 rw[e];exact h
theorem zAk{P:Prop}{d1 d2:D}(k1:∀k n,d1=.ref k->d2=.int n->P) (k3:De d1 d2=zAA d1 d2->P):P:=by
 cases d1 with
 |ref a=>cases d2<;>first|exact k1 _ _ rfl rfl|exact k3 rfl
 |_=>exact k3 rfl
theorem zCD{P:Prop}{k:Nat}{n:Int}{st:St}(hb:De (.ref k) (.int n) st≠.bot) (w:∀ds,st.sto[k]? =some (.list ds)->(E5 n=true/\ds.length*n.toNat<=16777216)->De (.ref k) (.int n) st=Bt (L6 n ds) st->P):P:=by
 have e:De (.ref k) (.int n) st=Hi st.sto[k]? λds=>if E5 n=true/\ds.length*n.toNat<=16777216 then Bt (L6 n ds) st else .bot:=by
  generalize ho:st.sto[k]? =o
  unfold De;dsimp only;rw[ho]
  cases o with
  |none=>rfl
  |some o=>cases o<;>rfl
 rw[e]at hb;refine Fe hb λds e1 e2=>?_
 rw[e2]at hb;exact Pn hb λhz e3=>w ds e1 hz (e.trans (e2.trans e3))
theorem zBS{k:Nat}{n:Int}{v1 v2:Value}(K:Ok G C A P env s ρ st) (r1:C9 G s.heap ρ (.ref k) v1) (r2:C9 G s.heap ρ (.int n) v2):At G A env s ρ st (RV G) (binaryOp .Mult v1 v2) (De (.ref k) (.int n)):=λhb=>by
 refine zCD hb λds e hz ee=>K8 r1 λa e1 ea=>zB3 r2 λu e2=>Gy K.inv ea e λvs nn hl r=>?_
 subst e1 e2;rw[ee];exact zCN hl hz.1 (by rw[r.size];exact hz.2) (Cz (vs:=(L6 n vs.toList).toArray) (n:=0) K.inv (Au.of_all2 (r.all2.rep _)) s.toks)
theorem zA8:Gj G .Mult De:=λC A P env s ρ st d1 d2 v1 v2 K r1 r2=>zAk (d1:=d1) (d2:=d2) (λk n e1 e2=>by subst e1 e2;exact zBS K r1 r2) λe=>by rw[e];exact zAV C A P env s ρ st d1 d2 v1 v2 K r1 r2
noncomputable def zAm:D->D->Mn D
 |.bool a,.bool b=>ret1 (.bool (a==b))
 |a,b=>zED a b
noncomputable def zAc:D->D->Mn D
 |.bool a,.bool b=>ret1 (.bool (a !=b))
 |a,b=>zDj a b
theorem Z4{P:Prop}{d1 d2:D}(k1:∀a b,d1=.bool a->d2=.bool b->P) (k2:zAm d1 d2=zED d1 d2->zAc d1 d2=zDj d1 d2->P):P:=by
 cases d1 with
 |bool a=>cases d2<;>first|exact k1 _ _ rfl rfl|exact k2 rfl rfl
 |_=>exact k2 rfl rfl
theorem zAn:Fc G .Eq zAm:=λC A P env s ρ st d1 d2 v1 v2 K r1 r2=>Z4 (d1:=d1) (d2:=d2) (λa b e1 e2=>by subst e1 e2;cases(show v1=.bool a from r1);cases(show v2=.bool b from r2);exact At.leaf (λhb=>eq_bool ⟨_,rfl,Av.same0,rfl⟩) K) λe _=>by rw[e];exact zB0 C A P env s ρ st d1 d2 v1 v2 K r1 r2
theorem zBN:Fc G .NotEq zAc:=λC A P env s ρ st d1 d2 v1 v2 K r1 r2=>Z4 (d1:=d1) (d2:=d2) (λa b e1 e2=>by subst e1 e2;cases(show v1=.bool a from r1);cases(show v2=.bool b from r2);exact At.leaf (λhb=>ne_bool ⟨_,rfl,Av.same0,rfl⟩) K) λ_ e=>by rw[e];exact zA4 C A P env s ρ st d1 d2 v1 v2 K r1 r2
end
end
structure SX where
 prog:Program
 w:World
 A:Around
 E:Value->Shared->Prop
 s:Shared
noncomputable def SW (X:SX){α:Type}(m:StateT SortSt Sem α) (Q:α->SortSt->Prop) (st:SortSt):Prop:=wpS (model X.prog X.w) X.A X.E X.s m Q st
section
variable {X:SX}
theorem Fp{α:Type}{a:α}{Q:α->SortSt->Prop}{st:SortSt}(h:Q a st):SW X (pure a:StateT SortSt Sem α) Q st:=wpS_pure h
theorem Dk{α β:Type}{m:StateT SortSt Sem α}{f:α->StateT SortSt Sem β}{Q:β->SortSt->Prop}{st:SortSt}
  (h:SW X m (λa st'=>SW X (f a) Q st') st):SW X (m >>= f) Q st:=wpS_bind h
theorem Jy{α:Type}{m:StateT SortSt Sem α}{Q Q':α->SortSt->Prop}{st:SortSt}(h:SW X m Q st) (hq:∀a st',Q a st'->Q' a st'):SW X m Q' st:=wpS_mono h hq
theorem Pc{Q:SortSt->SortSt->Prop}{st:SortSt}(h:Q st st):SW X (get:StateT SortSt Sem SortSt) Q st:=wpS_get h
theorem Vv{f:SortSt->SortSt}{Q:PUnit->SortSt->Prop}{st:SortSt}(h:Q ⟨⟩ (f st)):SW X (modify f:StateT SortSt Sem PUnit) Q st:=wpS_modify h
theorem J6{β:Type}(f:Nat->β->StateT SortSt Sem (ForInStep β)) (I:List Nat->β->SortSt->Prop) (Q:β->SortSt->Prop)
  (hstep:∀x rest b st,I (x::rest) b st->SW X (f x b) (λr st'=>match r with|.done b'=>Q b' st'|.yield b'=>I rest b' st') st)
  (hend:∀b st,I [] b st->Q b st):∀(l:List Nat) (b:β) (st:SortSt),I l b st->SW X (forIn l b f) Q st
 |[],b,st,h=>by rw[List.forIn_nil];exact Fp (hend _ _ h)
 |x::rest,b,st,h=>by
  rw[List.forIn_cons];refine Dk (Jy (hstep x rest b st h) λr st' h'=>?_)
  cases r with
  |done b'=>exact Fp h'
  |yield b'=>exact J6 f I Q hstep hend rest b' st' h'
theorem Sl{β:Type}{a b:Nat}{f:Nat->β->StateT SortSt Sem (ForInStep β)}(I:Nat->β->SortSt->Prop){Q:β->SortSt->Prop}{c:β}{st:SortSt}
  (h:I a c st) (hab:a<=b) (hstep:∀i c st,a<=i->i<b->I i c st->SW X (f i c) (λr st'=>match r with|.done c'=>Q c' st'|.yield c'=>I (i+1) c' st') st)
  (hend:∀c st,I b c st->Q c st):SW X (forIn [a:b] c f) Q st:=by
 simp only[Std.Legacy.Range.forIn_eq_forIn_range'];have hsz:([a:b]:Std.Legacy.Range).size=b - a:=by simp[Std.Legacy.Range.size]
 show SW X (forIn (List.range' a ([a:b]:Std.Legacy.Range).size 1) c f) Q st
 rw[hsz];refine J6 f (λl c st=>∃i,a<=i/\i<=b/\l=List.range' i (b - i) 1/\I i c st) Q ?_ ?_ _ c st ⟨a,Nat.le_refl _,hab,rfl,h⟩
 ·rintro x rest c st ⟨i,hai,hib,hl,hI⟩
  have hlt:i<b:=by
   rcases Nat.lt_or_ge i b with h'|h'
   ·exact h'
   ·rw[show b - i=0 by exact Gw (λZ=>A5 [_] [A7 x0 (.n 0),A9 (.n 0) x0] rT Z (lq5 _)) (λZ=>A5 [_,_,_] [A7 (.n 0) x0,A9 x1 x2,B0 (.a x0 x2) x1] rT Z h' (B8 (Ar λY=>A5 [_,_] [A7 x0 x1,A9 x1 x0] rT Y hib)))]at hl;simp at hl
  obtain⟨n,hn⟩:∃n,b - i=n+1:=⟨b - i - 1,by exact Gw (λZ=>A5 [_,_] [A7 x0 (.a x1 (.n 1)),B0 (.a x1 (.n 1)) x0] rT Z (B8 (Ar λY=>A5 [_,_,_] [A7 x0 (.n 1),A7 x2 x1,A9 x1 (.a x0 x2)] rT Y hlt (Bh _ _)))) (λZ=>A5 [_,_] [A7 (.a x1 (.n 1)) x0,A9 x0 (.a x1 (.n 1))] rT Z (Bh _ _))⟩
  rw[hn,List.range'_succ]at hl;obtain⟨rfl,rfl⟩:=List.cons.inj hl;refine Jy (hstep x c st hai hlt hI) λr st' h'=>?_
  cases r with
  |done c'=>exact h'
  |yield c'=>exact⟨x+1,by exact Ar λZ=>A5 [_,_] [A7 (.a x1 (.n 1)) x0,A9 x0 x1] rT Z hai,by exact Ar λZ=>A5 [_,_] [A7 x0 (.a x1 (.n 1)),A7 x1 x0] rT Z hlt,by congr 1;exact Gw (λZ=>A5 [_,_,_,_,_] [A7 x0 x1,B0 x2 (.a x0 (.n 1)),A9 x3 (.a x2 x4),B0 (.a x1 (.a x4 (.n 1))) x3] rT Z hn (Bh _ _) (B8 (Ar λY=>A5 [_,_] [A7 x0 (.a x1 (.n 1)),A7 x1 x0] rT Y hlt))) (λZ=>A5 [_,_,_,_,_] [A7 x1 x0,Cg x2 (.a x0 (.n 1)),A9 x3 (.a x1 (.a x4 (.n 1))),B0 (.a x2 x4) x3] rT Z hn (Bh _ _) (B8 (Ar λY=>A5 [_,_] [A7 x0 x1,A9 x1 x0] rT Y hib))),h'⟩
 ·intro c st h2z;apply yo;intro _ k0
  obtain⟨i,hai,hib,hl,hI⟩:=h2z;apply k0
  have:i=b:=by
   rcases Nat.lt_or_ge i b with h'|h'
   ·obtain⟨n,hn⟩:∃n,b - i=n+1:=⟨b - i - 1,by exact Gw (λZ=>A5 [_,_] [A7 x0 (.a x1 (.n 1)),B0 (.a x1 (.n 1)) x0] rT Z (B8 (Ar λY=>A5 [_,_,_] [A7 x0 (.n 1),A7 x2 x1,A9 x1 (.a x0 x2)] rT Y h' (Bh _ _)))) (λZ=>A5 [_,_] [A7 (.a x1 (.n 1)) x0,A9 x0 (.a x1 (.n 1))] rT Z (Bh _ _))⟩
    rw[hn,List.range'_succ]at hl;simp at hl
   ·exact Gw (λZ=>A5 [_,_] [A7 x1 x0,A9 x0 x1] rT Z h') (λZ=>A5 [_,_] [A7 x0 x1,A9 x1 x0] rT Z hib)
  subst this;exact hend _ _ hI
theorem Un{arr:Array Keyed}{i:Nat}{p:Keyed}{Q:Keyed->SortSt->Prop}{st:SortSt}(e:arr[i]? =some p) (h:Q p st):SW X (elem' arr i) Q st:=by
 rw[elem'_eq,e];exact Fp h
noncomputable def zGY (X:SX) (k:Keyed->Int) (κ:SortKind) (S:Keyed->Prop):Prop:=
 ∀x y,S x->S y->∀(st:SortSt) (Q:Option Bool->SortSt->Prop),kindOf st=κ->Q (some (decide (k x<k y))) st->SW X (lt' x y) Q st
variable {k:Keyed->Int}{κ:SortKind}{S:Keyed->Prop}
theorem Z9{α:Type}{c:Prop} [Decidable c] {m1 m2:StateT SortSt Sem α}{Q:α->SortSt->Prop}{st:SortSt}(h1:c->SW X m1 Q st) (h2:¬c->SW X m2 Q st):SW X (if c then m1 else m2) Q st:=by
 by_cases h:c
 ·rw[if_pos h];exact h1 h
 ·rw[if_neg h];exact h2 h
section
variable {left:Bool}{key:Keyed}{arr:Array Keyed}{base n:Nat}{st:SortSt}{B:Nat->Bool}
end
end
section
variable {X:SX}{k:Keyed->Int}{κ:SortKind}{S:Keyed->Prop}
noncomputable def zDO (X:SX) (st:SortSt) (n:Nat):Prop:=∀i,0<i->i<n->∀Q:Option Bool->SortSt->Prop,Q (some false) st->SW X (ltAt' (0+i) (0+i - 1)) Q st
theorem zEk(H:zGY X k κ S){st:SortSt}(hk:kindOf st=κ) (hS:∀p,p∈(arrOf st).toList->S p) (hu:((arrOf st).toList.map k).Pairwise (· < ·)):zDO X st (arrOf st).size:=λi h0 hi Q h=>by
 simp only[ltAt'_eq];refine Dk (Pc ?_)
 have h1:i - 1<(arrOf st).size:=by exact Bw λZ=>A5 [_,_,_] [A9 x0 x1,A7 x2 x0,A9 x1 x2] rT Z hi (L5 _ _)
 have e1:(arrOf st)[0+i]? =some (arrOf st)[i]:=by simp[hi]
 have e2:(arrOf st)[0+i - 1]? =some (arrOf st)[i - 1]:=by simp[h1]
 refine Dk (Un e1 (Dk (Un e2 ?_)))
 refine H _ _ (hS _ (by simp)) (hS _ (by simp)) st Q hk ?_
 have:=List.pairwise_iff_getElem.mp hu (i - 1) i (by simpa using h1) (by simpa using hi) (by exact Bw λZ=>A5 [_,_] [A9 x0 x1,B0 (.a x1 (.n 1)) x0] rT Z (B8 (Ar λY=>A5 [_] [A7 x0 (.n 1),A7 (.n 0) x0] rT Y h0)))
 simp at this
 rw[decide_eq_false (by exactλZ=>Ac [_,_] [A7 x1 x0,A7 x0 x1] rT Z this)];exact h
theorem Sm{st:SortSt}{n:Nat}{Q:Option Nat->SortSt->Prop}(h1:1<=n) (u:zDO X st n) (h:Q (some n) st):SW X (countRun' 0 n) Q st:=by
 unfold countRun';refine Dk (Jy (Sl (I:=λx c st'=>st'=st/\c=(none,x)) (Q:=λc st'=>st'=st/\c=(none,n)) ⟨rfl,rfl⟩ h1 ?_ ?_) ?_)
 ·rintro x c st' hax hxn ⟨rfl,rfl⟩
  dsimp only;refine Dk (u x hax hxn _ ?_)
  simp only[Bool.false_eq_true,if_false];exact Fp ⟨rfl,rfl⟩
 ·rintro c st' ⟨rfl,rfl⟩;exact⟨rfl,rfl⟩
 ·rintro c st' ⟨rfl,rfl⟩
  dsimp only;rw[if_pos (by simp)];exact Fp h
theorem Ox:∀(f n r:Nat),minRun' f n r<=n+r
 |0,n,r=>Nat.le_refl _
 |f+1,n,r=>by
  show(if n<64 then n+r else minRun' f (n / 2) (max r (n % 2)))<=n+r
  have:=Ox f (n / 2) (max r (n % 2))
  split<;>omega
theorem Xk{st:SortSt}{Q:Unit->SortSt->Prop}(u:zDO X st (arrOf st).size) (hf:failedOf st=none) (hp:pendingOf st= #[])
  (h:∀st',arrOf st'=arrOf st->failedOf st'=none->Q () st'):SW X sortRuns' Q st:=by
 unfold sortRuns';refine Dk (Pc ?_)
 have hm:=Ox (arrOf st).size (arrOf st).size 0;refine Dk (Jy (Sl (I:=λx c st'=>(x=0/\st'=st/\c=(none,0))∨(c=(none,(arrOf st).size)/\arrOf st'=arrOf st/\failedOf st'=none/\(pendingOf st').size<=1))
  (Q:=λc st'=>c.1=none/\arrOf st'=arrOf st/\failedOf st'=none/\(pendingOf st').size<=1) (.inl ⟨rfl,rfl,rfl⟩) (lq5 _) ?_ ?_) ?_)
 ·rintro x c st' _ hx (⟨rfl,rfl,rfl⟩|⟨rfl,ha,hf',hp'⟩)
  ·dsimp only;rw[if_neg (by exactλZ=>A5 [_] [A9 x0 (.n 0),A7 (.n 0) x0] rT Z hx)]
   refine Dk (Sm (by exact Ar λZ=>A5 [_] [A7 x0 (.n 1),A7 (.n 0) x0] rT Z hx) u ?_)
   refine Z9 (λc2=>absurd (show(arrOf st').size<minRun' (arrOf st').size (arrOf st').size 0 from c2) (by exactλZ=>A5 [_,_] [A7 x1 x0,A9 x0 (.a x1 (.n 0))] rT Z hm)) (λ_=>?_)
   refine Dk (Pc ?_)
   have e:(pendingOf st').back? =none:=by rw[hp];rfl
   split
   ·rename_i he;rw[e]at he;cases he
   ·refine Dk (Vv (Fp (.inr ⟨by simp,rfl,hf,?_⟩)))
    show((pendingOf st').push _).size<=1
    rw[hp];simp
  ·dsimp only;rw[if_pos (Nat.le_refl _)];exact Fp ⟨rfl,ha,hf',hp'⟩
 ·rintro c st' (⟨h0,rfl,rfl⟩|⟨rfl,ha,hf',hp'⟩)
  ·exact⟨rfl,rfl,hf,by rw[hp];simp⟩
  ·exact⟨rfl,ha,hf',hp'⟩
 rintro c st' ⟨hc,ha,hf',hp'⟩
 obtain⟨c1,c2⟩:=c
 cases hc;refine Dk (Jy (Sl (I:=λx c st2=>st2=st'/\c=(none,())) (Q:=λc st2=>st2=st'/\c=(none,())) ⟨rfl,rfl⟩ (lq5 _) ?_ ?_) ?_)
 ·rintro x c st2 _ hx ⟨rfl,rfl⟩
  refine Dk (Pc ?_)
  refine Z9 (λ_=>Fp ⟨rfl,rfl⟩) (λg=>absurd hp' g)
 ·rintro c st2 ⟨rfl,rfl⟩;exact⟨rfl,rfl⟩
 ·rintro c st2 ⟨rfl,rfl⟩
  exact Fp (h st2 ha hf')
end
noncomputable def Hh (p:Int×Int):Int:=p.1*1048576+p.2
structure Jk (F:List D->Mn D) (st:St) (ds:List D) (ks:List (Int×Int)):Prop where
 len:ds.length<=100000
 all:Bs (λd p=>F [d] st=.ok (.tup [.int p.1,.int p.2]) st/\0<=p.2/\p.2<1048576) ds ks
 up:(ks.map Hh).Pairwise (· < ·)
open Classical in
noncomputable def By (F:List D->Mn D):List D->Mn D
 |[.ref k]=>λst=>Hi st.sto[k]? λds=>if∃ks,Jk F st ds ks then Bt ds st else .bot
 |_=>botM
noncomputable def K6 (h:Heap) (v:Value):Int:=match v with
 |.ref a=>match h.get? a with
  |some o=>match o.data with
   |.seq xs _=>match xs.toList with
    |[.int r _,.int c _]=>Hh (r,c)
    |_=>0
   |_=>0
  |none=>0
 |_=>0
noncomputable def Hz (h:Heap) (v:Value) (p:Int×Int):Prop:=∃a t u,v=.ref a/\L0 h a #[.int p.1 t,.int p.2 u]
theorem Hz.rank{h:Heap}{v:Value}{p:Int×Int}(k:Hz h v p):K6 h v=Hh p:=by
 obtain⟨a,t,u,rfl,n,e⟩:=k;unfold K6;simp only[e]
theorem Zo{p q:Int×Int}(hp:0<=p.2) (hp2:p.2<1048576) (hq:0<=q.2) (hq2:q.2<1048576):(p.1<q.1∨(p.1=q.1/\p.2<q.2))↔Hh p<Hh q:=by
 unfold Hh;constructor
 ·intro h;rcases h with h|⟨h1,h2⟩
  ·omega
  ·omega
 ·intro h;rcases Int.lt_trichotomy p.1 q.1 with z|z|z
  ·exact .inl z
  ·exact .inr ⟨z,by omega⟩
  ·exfalso;omega
section
variable {prog:Program}{w:World}{A:Around}{E:Value->Shared->Prop}{s:Shared}
theorem zDb{x y:Value}{p q:Int×Int}(hx:Hz s.heap x p) (hy:Hz s.heap y q){Q:Bool->Shared->Prop}(h:Q (decide (p.1<q.1∨(p.1=q.1/\p.2<q.2))) s):wpAny (model prog w) A (keyLt' (tuples' true) x y) Q E s:=by
 apply yo;intro _ k0
 obtain⟨a,t,u,rfl,n,ea⟩:=hx;obtain⟨b,t',u',rfl,n',eb⟩:=hy;apply k0
 refine PySem.W.kat_lt ea rfl eb rfl ?_
 refine PySem.W.kat_cons (wpAny_eqBool_int ?_)
 by_cases h1:p.1=q.1
 ·rw[beq_iff_eq.mpr h1];refine PySem.W.kat_yes (PySem.W.kat_cons (wpAny_eqBool_int ?_))
  by_cases h2:p.2=q.2
  ·rw[beq_iff_eq.mpr h2];refine PySem.W.kat_yes (PySem.W.kat_nil ?_)
   rw[show decide (p.1<q.1∨p.1=q.1/\p.2<q.2)=false from decide_eq_false λz=>z.elim (λy=>Int.ne_of_lt y h1) λy=>Int.ne_of_lt y.2 h2]at h
   exact h
  ·rw[beq_false_of_ne h2];refine PySem.W.kat_no (PySem.W.kat_one _ _ (wpAny_lt_int ?_))
   rw[show decide (p.1<q.1∨p.1=q.1/\p.2<q.2)=decide (p.2<q.2)from decide_eq_decide.mpr ⟨λz=>z.elim (λy=>absurd h1 (Int.ne_of_lt y)) (·.2),λy=>.inr ⟨h1,y⟩⟩]at h
   exact h
 ·rw[beq_false_of_ne h1];refine PySem.W.kat_no (oneLt_int ?_)
  rw[show decide (p.1<q.1∨p.1=q.1/\p.2<q.2)=decide (p.1<q.1)from decide_eq_decide.mpr ⟨λz=>z.elim id λy=>absurd y.1 h1,.inl⟩]at h
  exact h
noncomputable def zFk (h:Heap) (x:Keyed):Prop:=∃p,Hz h x.1 p/\0<=p.2/\p.2<1048576
theorem zA7:zGY ⟨prog,w,A,E,s⟩ (λx=>K6 s.heap x.1) (tuples' true) (zFk s.heap):=by
 intro x y h2z h3z st Q hk h;apply yo;intro _ k0
 obtain⟨p,hp,p0,p1⟩:=h2z;obtain⟨q,hq,q0,q1⟩:=h3z;apply k0
 show wpS _ _ _ _ _ _ _
 simp only[lt'_eq];refine wpS_bind (wpS_get ?_)
 rw[hk];refine wpS_bind (wpS_lift (wpAny_attempt (zDb hp hq ⟨rfl,?_⟩)))
 refine wpS_pure ?_
 rw[show decide (p.1<q.1∨p.1=q.1/\p.2<q.2)=decide (K6 s.heap x.1<K6 s.heap y.1)from decide_eq_decide.mpr (by rw[hp.rank,hq.rank];exact Zo p0 p1 q0 q1)]
 exact h
end
theorem Bs.flip{α β:Type}{R:α->β->Prop}{l:List α}{m:List β}(h:Bs R l m):Bs (λb a=>R a b) m l:=by
 induction h with
 |nil=>exact .nil
 |cons r _ ih=>exact .cons r ih
noncomputable def zBV (p:Int×Int):D:=.tup [.int p.1,.int p.2]
section
variable {G:Gd}{A:Around}{env:Env}{s:Shared}{ρ:List Addr}{σ:Bp}{st:St}
theorem zAa{h:Heap}{p:Int×Int}{v:Value}(r:C9 G h ρ (zBV p) v):Hz h v p:=by
 dsimp only[zBV,C9,Au]at r
 apply yo;intro _ k0
 obtain⟨a,vs,rfl,_,t,v1,r1,e1,⟨t1,rfl⟩,v2,r2,e2,⟨t2,rfl⟩,rfl⟩:=r;apply k0
 subst e2;have:vs= #[.int p.1 t1,.int p.2 t2]:=by
  have:=congrArg List.toArray e1
  simpa using this
 subst this;exact⟨a,t1,t2,rfl,t⟩
theorem zAN{ρ ρ':List Addr}(pre:∀(k:Nat) (a:Addr),ρ[k]? =some a->ρ'[k]? =some a) (hl:ρ'.length=ρ.length):ρ'=ρ:=by
 refine List.ext_getElem? λi=>?_
 cases e:ρ[i]? with
 |some a=>exact pre i a e
 |none=>
  rw[List.getElem?_eq_none_iff]at e ⊢;exact Ar λZ=>A5 [_,_,_] [A7 x1 x0,B0 x0 x2,A9 x2 x1] rT Z hl e
theorem zAZ.keep{h h':Heap}{ρ':List Addr}(b:zAZ G A h ρ) (x:Ev [] h ρ h' ρ'):zAZ G A h' ρ':=⟨b.1,λfs e=>(b.2 fs e).keep x⟩
theorem zAZ.only{h h':Heap}(b:zAZ G A h ρ){S:List Addr}(x:Gg S h h') (i:∀q,q∈S->R5 G h ρ σ q):zAZ G A h' ρ:=⟨b.1,λfs e en m=>by
 apply yo;intro _ k0
 obtain⟨hk,L,o,es,n,hf,h0,hr,ho,hd⟩:=b.2 fs e en m;apply k0
 exact⟨hk,L,o,es,n,hf,h0,hr,x.1 L o (λmm=>((i _ mm).ne_dict hr ho).1 _ _ hd) ho,hd⟩⟩
structure zFB (G:Gd) (A:Around) (ρ:List Addr) (σ:Bp) (hs:Heap) (b kS:Addr) (e1:Nat) (kvs:List Value) (ks:List (Int×Int)) (s:Shared):Prop where
 inv:Ci G s ρ σ
 ev:Ev [] hs ρ s.heap ρ
 bel:zAZ G A s.heap ρ
 hb:hs.objs.size<=b
 hk:hs.objs.size<=kS
 ne:b≠kS
 atb:s.heap.get? b=some (F6 #[] e1)
 atk:∃e,s.heap.get? kS=some (F6 kvs.toArray e)
 rel:Au G s.heap ρ (ks.map zBV) kvs
theorem Gf{hs:Heap}{q:Addr}(I0:Ci G s ρ σ) (h:s.heap.objs.size<=q):G.h0.get? q=none/\q∉ρ:=⟨I0.h0_le h,λm=>Nat.lt_irrefl _ (Nat.lt_of_lt_of_le (I0.mem_lt m) h)⟩
theorem Mo{h:Heap}{q:Addr}{vs:Array Value}{n:Nat}{g:Array Value->Array Value}(e:h.get? q=some (F6 vs n)):Gg [q] h (h.update q (Obj.mapSeq g)):=
 Iy (λb o hne ho=>(Heap.get?_update_other _ _ (Ne.symm hne)).trans ho) (by rw[Heap.size_after_update];exact Nat.le_refl _) λ⟨x,y,z⟩=>by rw[e]at z;exact He (Option.some.inj z).symm
theorem Hu{h:Heap}{q:Addr}{vs:Array Value}{n:Nat}(g:Array Value->Array Value) (e:h.get? q=some (F6 vs n)):∃n',(h.update q (Obj.mapSeq g)).get? q=some (F6 (g vs) n'):=⟨_,get?_update_seq e g⟩
theorem Op(env:Env){F:List D->Mn D}{f:Addr}{n:Nat}{hs:Heap}(hF:∀s,Ev [] hs ρ s.heap ρ->V3 G n f F s ρ st.sto) (R:Nf n A){s₀:Shared}(I₀:Ci G s₀ ρ st.sto) (hs0:s₀.heap=hs){b kS:Addr}{e1:Nat}{E:Value->Shared->Prop}
  {body:Value->PUnit->Sem (ForInStep PUnit)}
  (hbody:∀x (s:Shared) (Q:ForInStep PUnit->Shared->Prop),wpAny G.M A (call (.ref f) [x]) (λk s'=>wpAny G.M A (Builtin.List.listUpdate (.ref kS) (·.push k)) (λ_ s''=>Q (.yield ⟨⟩) s'') (λ_ _=>False) s') (λ_ _=>False) s->wpAny G.M A (body x ⟨⟩) Q E s):
  ∀(vs:List Value) (ds:List D) (ks:List (Int×Int)) (kvs:List Value) (pre:List (Int×Int)) (s:Shared) (Q:PUnit->Shared->Prop),zFB G A ρ st.sto hs b kS e1 kvs pre s->Au G s.heap ρ ds vs->
   Bs (λd p=>F [d] st=.ok (.tup [.int p.1,.int p.2]) st/\0<=p.2/\p.2<1048576) ds ks->kvs.length+vs.length<=100000->
   (∀s' kvs',zFB G A ρ st.sto hs b kS e1 kvs' (pre++ks) s'->kvs'.length=kvs.length+vs.length->Ev [] s.heap ρ s'.heap ρ∨True->Q ⟨⟩ s')->wpAny G.M A (forIn vs PUnit.unit body) Q E s
 |[],ds,ks,kvs,pre,s,Q,J,r,a,hl,h=>by
  simp only[List.forIn_nil]
  cases ds with
  |nil=>
   cases a;refine wpAny_pure (h s kvs (by rw[List.append_nil];exact J) (by simp) (.inr trivial))
  |cons d ds=>obtain⟨v,r',e,_⟩:=r;cases e
 |x::vs,ds,ks,kvs,pre,s,Q,J,r,a,hl,h=>by
  rw[List.forIn_cons]
  cases ds with
  |nil=>cases r
  |cons d ds=>
   obtain⟨v,r',e,rx,rr⟩:=r
   cases e
   cases a with
   | @cons _ p _ ks' a1 a2=>
    obtain⟨aF,a0,am⟩:=a1;refine wpAny_bind (hbody x s _ ?_)
    have hcall:=hF s J.ev A env st.loc [d] [x] R J.inv J.bel (by exact⟨x,[],rfl,rx,rfl⟩) (by rw[aF];intro z;cases z)
    refine wpAny_mono hcall (λk s' q=>?_) λy s' q=>?_
    ·refine Fh.elim q λρ' d' σ' eF I' x' rk=>?_
     rw[aF]at eF;obtain⟨rfl,hst⟩:D.tup [.int p.1,.int p.2]=d'/\st=⟨st.loc,σ'⟩:=by injection eF with e1 e2;exact⟨e1,e2⟩
     have hσ:σ'=st.sto:=by rw[hst]
     subst hσ;have hρ:ρ=ρ':=(zAN x'.pre (by rw[I'.len,J.inv.len])).symm
     subst hρ;have nb:=Gf (hs:=hs) I₀ (q:=b) (by rw[hs0];exact J.hb)
     have nk:=Gf (hs:=hs) I₀ (q:=kS) (by rw[hs0];exact J.hk)
     obtain⟨ek,hek⟩:=J.atk;have keep:∀{q:Addr}{o:Obj},q∉ρ->s.heap.get? q=some o->(∀es n,o.data≠.dict es n)->s'.heap.get? q=some o:=λhq ho hd=>by
      obtain⟨o',ho',so⟩:=x'.keep _ _ ho hq (λm=>nomatch m)
      rw[so.eq hd]at ho';exact ho'
     have hb':=keep nb.2 J.atb (λ_ _ z=>by cases z)
     have hk':=keep nk.2 hek (λ_ _ z=>by cases z)
     have hsz:(100001:Nat)<=sizeLine:=by decide
     simp only[List.length_cons]at hl;refine listUpdate_at hk' rfl ?_ (by rw[List.size_toArray];exact Ar λZ=>A5 [_,_,_] [A7 x1 x0,A9 (.a x0 (.a x2 (.n 1))) (.n 100000),A9 (.n 100001) x1,A9 (.n 0) x2] rT Z hl hsz (lq5 _)) (by rw[Array.size_push,List.size_toArray];exact Ar λZ=>A5 [_,_,_] [A7 (.a x1 (.n 1)) (.a x0 (.n 1)),A9 (.a x0 (.a x2 (.n 1))) (.n 100000),A9 (.n 100001) x1,A9 (.n 0) x2] rT Z hl hsz (lq5 _))
     have hO:=Mo (g:=(·.push k)) hk';have hOwn:∀q,q∈[kS]->R5 G s'.heap ρ st.sto q:=λq m=>by
      simp only[lq0 m];exact .inl (.inr ⟨nk.1,nk.2,_,_,hk'⟩)
     have I2:=I'.only hO hOwn s'.toks;have S2:=hO.stb hOwn;have S1:=x'.stb J.inv .nil;obtain⟨n',hk2⟩:=Hu (·.push k) hk'
     have hb2:(s'.heap.update kS (Obj.mapSeq (·.push k))).get? b=some (F6 #[] e1):=(Heap.get?_update_other _ _ (Ne.symm J.ne)).trans hb'
     refine Op env hF R I₀ hs0 hbody vs ds ks' (kvs++[k]) (pre++[p]) _ Q ⟨I2,?_,(J.bel.keep x').only hO hOwn,J.hb,J.hk,J.ne,hb2,⟨n',?_⟩,?_⟩ (Au.mono S2 _ _ (Au.mono S1 _ _ rr)) a2 (by rw[lq7];exact Ar λZ=>A5 [_,_] [A7 (.n 100000) (.a (.a x0 (.a (.n 0) (.n 1))) x1),A9 (.a x0 (.a x1 (.n 1))) (.n 100000)] rT Z hl) (λs'' kvs' J' hl' _=>h s'' kvs' (by simpa using J') (by simp at hl' ⊢; exact Gw (λZ=>A5 [_,_,_] [A7 x2 (.a x0 (.a x1 (.n 1))),Cg x2 (.a (.a x0 (.n 1)) x1)] rT Z hl') (λZ=>A5 [_,_,_] [A7 (.a x0 (.a x1 (.n 1))) x2,B0 x2 (.a (.a x0 (.n 1)) x1)] rT Z hl')) (.inr trivial))
     ·exact(J.ev.trans x').only hO λq m=>.inl (by rw[lq0 m];exact J.hk)
     ·rw[hk2];simp
     ·rw[List.map_append];refine Au.of_all2 ((Au.all2 (Au.mono S2 _ _ (Au.mono S1 _ _ J.rel))).append ?_)
      exact .cons (C9.mono S2 _ _ rk) .nil
    ·obtain⟨ρ',c,σ',a',e',_⟩:=q;rw[aF]at e';cases e'
end
section
variable {G:Gd}{A:Around}{env:Env}{s:Shared}{ρ:List Addr}{σ:Bp}{st:St}{hs:Heap}{b kS:Addr}{e1:Nat}{kvs:List Value}{ks:List (Int×Int)}{E:Value->Shared->Prop}
theorem Jg.trans{h h' h'':Heap}{ρ ρ' ρ'':List Addr}(x:Jg h ρ h' ρ') (y:Jg h' ρ' h'' ρ''):Jg h ρ h'' ρ'':=
 ⟨λk a e=>y.pre k a (x.pre k a e),λa i n t=>let⟨n',t'⟩:=x.tup a i n t;y.tup a i n' t',λa c n t=>let⟨n',t'⟩:=x.exc a c n t;y.exc a c n' t'⟩
theorem Vr{s₀:Shared}(I₀:Ci G s₀ ρ σ) (hs0:s₀.heap=hs) (J:zFB G A ρ σ hs b kS e1 kvs ks s) (hl:kvs.length<=100000){sst:SortSt}(hf:failedOf sst=none) (hz:(arrOf sst).size<=100000)
  {Q:PySem.Fin->Shared->Prop}(h:∀s',Ci G s' ρ σ->Ev [] hs ρ s'.heap ρ->(∃n',s'.heap.get? b=some (F6 ((arrOf sst).map (·.2)) n'))->Jg s.heap ρ s'.heap ρ->Q (.done (.ret .none)) s'):
  wpAny G.M A (ksk_tail b false e1 (.ref kS) sst) Q E s:=by
 have nb:=Gf (hs:=hs) I₀ (q:=b) (by rw[hs0];exact J.hb)
 have nk:=Gf (hs:=hs) I₀ (q:=kS) (by rw[hs0];exact J.hk)
 obtain⟨ek,hek⟩:=J.atk;have hsz:(100001:Nat)<=sizeLine:=by decide
 unfold ksk_tail;simp only[Bool.false_eq_true,if_false];refine wpAny_bind (listUpdate_at hek rfl ?_ (by rw[List.size_toArray];exact Ar λZ=>A5 [_,_] [A7 x1 x0,A9 x0 (.n 100000),A9 (.n 100001) x1] rT Z hl hsz) (lq5 _))
 have hO:=Mo (g:=λ_=> #[]) hek
 have hOwn:∀q,q∈[kS]->R5 G s.heap ρ σ q:=λq m=>by
  simp only[lq0 m];exact .inl (.inr ⟨nk.1,nk.2,_,_,hek⟩)
 have I2:=J.inv.only hO hOwn s.toks;have hb2:(s.heap.update kS (Obj.mapSeq λ_=> #[])).get? b=some (F6 #[] e1):=(Heap.get?_update_other _ _ (Ne.symm J.ne)).trans J.atb
 refine wpAny_bind (wpAny_letGo ?_)
 refine wpAny_bind (seqEpoch_at hb2 rfl ?_)
 refine wpAny_bind (listUpdate_at hb2 rfl ?_ (lq5 _) (by rw[Array.size_map];exact Ar λZ=>A5 [_,_] [A7 (.a x1 (.n 1)) x0,A9 x0 (.n 100000),A9 (.n 100001) x1] rT Z hz hsz))
 simp only[hf];simp only[bne_self_eq_false,Bool.false_eq_true,if_false];have hO2:=Mo (g:=λ_=>(arrOf sst).map (·.2)) hb2
 have hOwn2:∀q,q∈[b]->R5 G (s.heap.update kS (Obj.mapSeq λ_=> #[])) ρ σ q:=λq m=>by
  simp only[lq0 m];exact .inl (.inr ⟨nb.1,nb.2,_,_,hb2⟩)
 have I3:=Ci.only (s:={s with heap:=s.heap.update kS (Obj.mapSeq λ_=> #[])}) I2 hO2 hOwn2 s.toks
 have hx:=(J.ev.only hO λq m=>.inl (by rw[lq0 m];exact J.hk)).only hO2 λq m=>.inl (by rw[lq0 m];exact J.hb)
 have hS:=(hO.stb hOwn).trans (hO2.stb hOwn2);have hu:=Hu (λ_=>(arrOf sst).map (·.2)) hb2
 have fin:=h _ I3 hx hu hS;exact wpAny_pure fin
theorem Iu{α β:Type}{R:α->β->Prop}{l:List α}{m:List β}(h:Bs R l m):∀a,a∈l->∃b,b∈m/\R a b:=by
 induction h with
 |nil=>intro a m;cases m
 |cons r _ ih=>
  intro a m;rcases List.mem_cons.mp m with rfl|m
  ·exact⟨_,lq1,r⟩
  ·obtain⟨b,mb,r'⟩:=ih a m;exact⟨b,lq4 _ mb,r'⟩
theorem M0:∀{kvs:List Value}{ks:List (Int×Int)}{h:Heap},Bs (λv p=>Hz h v p) kvs ks->∃fs,fs.length=kvs.length/\PySem.W.KatTups h kvs fs/\∀v,v∈fs->∃i t,v=Value.int i t
 |_,_,h,.nil=>⟨[],rfl,PySem.W.KatTups.nil,λ_ m=>nomatch m⟩
 |_,_,h,.cons (b:=p) r rs=>by
  apply yo;intro _ k0
  obtain⟨fs,e,t,hi⟩:=M0 rs;obtain⟨a,t1,u1,rfl,n,ea⟩:=r;apply k0
  refine⟨.int p.1 t1::fs,by simp[e],PySem.W.KatTups.cons ea rfl rfl rfl t,λv m=>?_⟩
  rcases List.mem_cons.mp m with rfl|m
  ·exact⟨_,_,rfl⟩
  ·exact hi v m
theorem zAC{h:Heap}{kvs:List Value}{ks:List (Int×Int)}(rk:Bs (λv p=>Hz h v p) kvs ks):kvs.map (K6 h)=ks.map Hh:=by
 induction rk with
 |nil=>rfl
 |cons r _ ih=>rw[List.map_cons,List.map_cons,r.rank,ih]
theorem Qr{h:Heap}:∀{ks:List (Int×Int)}{kvs:List Value},Au G h ρ (ks.map zBV) kvs->Bs (λv p=>Hz h v p) kvs ks
 |[],kvs,r=>by simp only[List.map_nil,Au]at r;subst r;exact .nil
 |p::ks,kvs,r=>by
  obtain⟨v,rr,rfl,r1,r2⟩:=r;exact .cons (zAa r1) (Qr r2)
theorem zCU{h:Heap}{vs:List Value}(rk:Bs (λv p=>Hz h v p) kvs ks) (hl:kvs.length=vs.length) (u:(ks.map Hh).Pairwise (· < ·)):((kvs.zip vs).map (λx=>K6 h x.1)).Pairwise (· < ·):=by
 have e1:(kvs.zip vs).map (λx=>K6 h x.1)=((kvs.zip vs).map (·.1)).map (K6 h):=by rw[List.map_map];rfl
 rw[e1,List.map_fst_zip (Nat.le_of_eq hl),zAC rk];exact u
theorem Zi{s₀:Shared}(I₀:Ci G s₀ ρ σ) (hs0:s₀.heap=hs) (J:zFB G A ρ σ hs b kS e1 kvs ks s){vs:List Value}{ds:List D}(rv:Au G s.heap ρ ds vs) (hl:kvs.length=vs.length) (hl2:vs.length<=100000) (nd:(ks.map Hh).Pairwise (· < ·)) (hr:∀p,p∈ks->0<=p.2/\p.2<1048576)
  {Q:PySem.Fin->Shared->Prop}(h:∀s' out n',Ci G s' ρ σ->Ev [] hs ρ s'.heap ρ->s'.heap.get? b=some (F6 out n')->Au G s'.heap ρ ds out.toList->Q (.done (.ret .none)) s'):
  wpAny G.M A (ksk_end b false vs.toArray e1 (.ref kS) kvs.toArray) Q E s:=by
 have rk:Bs (λv p=>Hz s.heap v p) kvs ks:=Qr J.rel
 unfold ksk_end;dsimp only;simp only[Bool.false_eq_true,if_false];have hzip:(kvs.toArray.zip vs.toArray).toList=kvs.zip vs:=by rw[Array.toList_zip]
 have hkz:(kvs.zip vs).length=vs.length:=by rw[List.length_zip,hl,Nat.min_self]
 have hout:((kvs.toArray.zip vs.toArray).map (·.2)).toList=vs:=by rw[Array.toList_map,hzip];exact List.map_snd_zip (Nat.le_of_eq hl.symm)
 have hsz:(kvs.toArray.zip vs.toArray).size<=100000:=by rw[←Array.length_toList,hzip,hkz];exact hl2
 have fin:∀sst:SortSt,arrOf sst=kvs.toArray.zip vs.toArray->failedOf sst=none->wpAny G.M A (ksk_tail b false e1 (.ref kS) sst) Q E s:=λsst ea ef=>by
  refine Vr I₀ hs0 J (by rw[hl];exact hl2) ef (by rw[ea];exact hsz) λs' I' x' ⟨n',hb⟩ S=>?_
  rw[ea]at hb;exact h s' _ n' I' x' hb (by rw[hout];exact Au.mono S _ _ rv)
 by_cases h2:vs.toArray.size<2
 ·rw[if_pos h2,if_pos h2];refine wpAny_bind (wpAny_pure ?_)
  refine wpAny_bind ?_
  refine wpAny_pure ?_
  dsimp only;exact fin _ rfl rfl
 ·rw[if_neg h2,if_neg h2];obtain⟨fs,hfl,ht,hfi⟩:=M0 rk;refine wpAny_bind (PySem.W.kat_kind (T:=.type "int") ht (by simp at h2;exact Bw λZ=>A5 [_,_,_] [A9 x0 (.n 0),Cg x1 x2,Cg x0 x1,A9 (.n 2) x2] rT Z hl hfl h2) (λv m=>?_) rfl ?_)
  ·obtain⟨i,t,rfl⟩:=hfi v m;exact PySem.W.Looks.now
  have run:=Xk (X:=⟨G.prog,G.w,A,E,s⟩) (st:=SortSt.mk' (tuples' true) (kvs.toArray.zip vs.toArray) #[] 7 none)
   (Q:=λ_ st'=>arrOf st'=kvs.toArray.zip vs.toArray/\failedOf st'=none) (zEk zA7 rfl (λx m=>?_) ?_) rfl rfl λst' o1 o2=>⟨o1,o2⟩
  ·refine wpAny_bind (wpAny_mono run ?_ λ_ _ x=>x)
   rintro⟨⟨⟩,st'⟩ s' ⟨rfl,ea,ef⟩
   exact fin _ ea ef
  ·have m:x∈(kvs.toArray.zip vs.toArray).toList:=m
   rw[hzip]at m;obtain⟨p,mp,kp⟩:=Iu rk _ (List.of_mem_zip m).1;exact⟨p,kp,hr p mp⟩
  ·show((kvs.toArray.zip vs.toArray).toList.map _).Pairwise _
   rw[hzip];exact zCU rk hl nd
end
section
variable {G:Gd}{C:Cx}{A:Around}{P:List Addr}{env:Env}{s:Shared}{ρ:List Addr}{st:St}
theorem Nf.in1{n:Nat}(R:Nf (n+1) A):Nf n A.in1.in1:=⟨R.hd,by have:=R.depth;show A.depth+n<=900;exact Ar λZ=>A5 [_,_] [A7 (.n 900) (.a x0 x1),A9 (.a x0 (.a x1 (.n 1))) (.n 900)] rT Z this,by have:=R.units;show A.units+1+1+10*n<=9000;exact Ar λZ=>A5 [_,_] [A7 (.n 9000) (.a (.a (.a x0 (.n 1)) (.n 1)) (.m 10 x1)),A9 (.a x0 (.m 10 (.a x1 (.n 1)))) (.n 9000)] rT Z this⟩
theorem Uv{F:List D->Mn D}{f:Addr}{n:Nat}(hF:∀s',Ev [] s.heap ρ s'.heap ρ->V3 G n f F s' ρ st.sto) (hC:C.inh=false) (K:Ok G C A P env s ρ st) (hlv:n+1<=C.lvl){k:Nat}{a:Addr}{ds:List D}{ks:List (Int×Int)}(hk:ρ[k]? =some a) (hds:st.sto[k]? =some (.list ds)) (hK:Jk F st ds ks)
  {Q:Value->Shared->Prop}{E:Value->Shared->Prop}(h:∀s' b out n',Ci G s' ρ st.sto->Ev [] s.heap ρ s'.heap ρ->s.heap.objs.size<=b->s'.heap.get? b=some (F6 out n')->Au G s'.heap ρ ds out.toList->Q (.ref b) s'):
  wpAny G.M A (call (.builtin "sorted") [.ref a] [(Str.ofString "key",.ref f)]) Q E s:=by
 apply yo;intro _ k0
 obtain⟨vs,⟨n0,hl⟩,rv⟩:=K.inv.sto k a _ hk hds;apply k0
 have hlen:vs.toList.length=ds.length:=rv.all2.length
 have hsz:(100001:Nat)<=sizeLine:=by decide
 have hK1:=hK.len;have hin:s.heap.IsList a vs.toList.toArray:=by rw[Array.toArray_toList];exact Hp.list ⟨n0,hl⟩
 refine call_function_entry_kw kind_sorted plain_sorted entry_sorted (ksk_s1 _ _) ?_
 unfold Builtin.«sorted»
 refine wpAny_bind (m:=checkCount "sorted" 1 1 _) (wpAny_pure ?_)
 refine wpAny_bind (collect_list hin ?_ (by exact Ar λZ=>A5 [_,_,_] [A7 x1 x0,B0 x0 x2,A9 (.n 100001) x1,A9 x2 (.n 100000)] rT Z hlen hsz hK1))
 refine wpAny_bind (wpAny_newList ?_ (by exact Ar λZ=>A5 [_,_,_] [A7 x1 x0,B0 x0 x2,A9 (.n 100001) x1,A9 x2 (.n 100000)] rT Z hlen hsz hK1))
 have hsz1:((s.heap.push (seqObj "list" #[] 0)).update s.heap.objs.size (Obj.mapSeq (· ++vs.toList.toArray))).objs.size=s.heap.objs.size+1:=by
  simp only[Heap.size_update,size_push']
 have hoL:(((s.heap.push (seqObj "list" #[] 0)).update s.heap.objs.size (Obj.mapSeq (· ++vs.toList.toArray))).push (seqObj "list" vs.toList.toArray 0)).get? (s.heap.objs.size+1)=some (seqObj "list" vs.toList.toArray 0):=by
  rw[←hsz1];exact Heap.get?_push_size _ rfl
 have keep:Av s.heap (((s.heap.push (seqObj "list" #[] 0)).update s.heap.objs.size (Obj.mapSeq (· ++vs.toList.toArray))).push (seqObj "list" vs.toList.toArray 0)):=λb o q=>by
  have hlt:b<s.heap.objs.size:=Heap.lt_size q
  rw[Heap.get?_push_ne _ _ _ (by rw[hsz1];exact Nat.ne_of_lt (Nat.lt_succ_of_lt hlt)),Heap.get?_update_ne _ _ _ _ (Nat.ne_of_lt hlt),Heap.get?_push_ne _ _ _ (Nat.ne_of_lt hlt)]
  exact q
 have hsz2:(((s.heap.push (seqObj "list" #[] 0)).update s.heap.objs.size (Obj.mapSeq (· ++vs.toList.toArray))).push (seqObj "list" vs.toList.toArray 0)).objs.size=s.heap.objs.size+2:=by rw[size_push',hsz1]
 show wpAny _ _ _ _ _ {s with heap:=((s.heap.push (seqObj "list" #[] 0)).update s.heap.objs.size (Obj.mapSeq (· ++vs.toList.toArray))).push (seqObj "list" vs.toList.toArray 0)}
 rw[hsz1];generalize(((s.heap.push (seqObj "list" #[] 0)).update s.heap.objs.size (Obj.mapSeq (· ++vs.toList.toArray))).push (seqObj "list" vs.toList.toArray 0))=h2 at hoL keep hsz2
 refine wpAny_bind (wpAny_holding (wpAny_call_entry_kw (s:={s with heap:=h2}) slot_list_sort ⟨_,hoL,rfl⟩ entry_list_sort ?body (ksk_l1 _ _)))
 simp only[ksk_t1];refine wpAny_bind (listItems_at hoL rfl ?_)
 refine wpAny_bind (listUpdate_at hoL rfl ?_ (by rw[List.size_toArray];exact Ar λZ=>A5 [_,_,_] [A7 x1 x0,B0 x0 x2,A9 (.n 100001) x1,A9 x2 (.n 100000)] rT Z hlen hsz hK1) (lq5 _))
 obtain⟨e1,ho1⟩:∃e1,(h2.update (s.heap.objs.size+1) (Obj.mapSeq λ_=>(#[]:Array Value))).get? (s.heap.objs.size+1)=some (F6 #[] e1):=⟨_,get?_update_seq hoL λ_=> #[]⟩
 refine wpAny_bind (seqEpoch_at ho1 rfl ?_)
 refine wpAny_bind (wpAny_newTuple ?_ (by exact Ar λZ=>A5 [_,_,_] [A7 x1 x0,B0 x0 x2,A9 (.n 100001) x1,A9 x2 (.n 100000)] rT Z hlen hsz hK1))
 refine wpAny_bind (wpAny_newList ?_ (lq5 _))
 refine wpAny_holding ?_
 have hsz3:((h2.update (s.heap.objs.size+1) (Obj.mapSeq λ_=>(#[]:Array Value))).push (seqObj "tuple" vs.toList.toArray 0)).objs.size=s.heap.objs.size+3:=by rw[size_push',Heap.size_update,hsz2]
 have g3:Av s.heap (((h2.update (s.heap.objs.size+1) (Obj.mapSeq λ_=>(#[]:Array Value))).push (seqObj "tuple" vs.toList.toArray 0)).push (seqObj "list" #[] 0)):=λb o q=>by
  have hlt:b<s.heap.objs.size:=Heap.lt_size q
  refine Heap.get?_push_of_some _ (Heap.get?_push_of_some _ ?_)
  rw[Heap.get?_update_ne _ _ _ _ (Nat.ne_of_lt (Nat.lt_succ_of_lt hlt))];exact keep b o q
 have hb3:(((h2.update (s.heap.objs.size+1) (Obj.mapSeq λ_=>(#[]:Array Value))).push (seqObj "tuple" vs.toList.toArray 0)).push (seqObj "list" #[] 0)).get? (s.heap.objs.size+1)=some (F6 #[] e1):=Heap.get?_push_of_some _ (Heap.get?_push_of_some _ ho1)
 have hk3:(((h2.update (s.heap.objs.size+1) (Obj.mapSeq λ_=>(#[]:Array Value))).push (seqObj "tuple" vs.toList.toArray 0)).push (seqObj "list" #[] 0)).get? (s.heap.objs.size+3)=some (F6 #[] 0):=by
  rw[←hsz3];exact Heap.get?_push_size _ rfl
 have hz3:s.heap.objs.size≤(((h2.update (s.heap.objs.size+1) (Obj.mapSeq λ_=>(#[]:Array Value))).push (seqObj "tuple" vs.toList.toArray 0)).push (seqObj "list" #[] 0)).objs.size:=by rw[size_push',hsz3];exact Ar λZ=>A5 [_] [A7 (.a (.a x0 (.n 3)) (.n 1)) x0] rT Z
 show wpAny G.M A.in1.in1 (ksk_rest _ _ _ _ _ (.ref ((h2.update (s.heap.objs.size+1) (Obj.mapSeq λ_=>(#[]:Array Value))).push (seqObj "tuple" vs.toList.toArray 0)).objs.size)) _ _ {s with heap:=((h2.update (s.heap.objs.size+1) (Obj.mapSeq λ_=>(#[]:Array Value))).push (seqObj "tuple" vs.toList.toArray 0)).push (seqObj "list" #[] 0)}
 simp only[hsz3];generalize(((h2.update (s.heap.objs.size+1) (Obj.mapSeq λ_=>(#[]:Array Value))).push (seqObj "tuple" vs.toList.toArray 0)).push (seqObj "list" #[] 0))=h3 at g3 hb3 hk3 hz3
 have I3:=K.inv.grow g3 hz3 s.toks;have J:zFB G A.in1.in1 ρ st.sto s.heap (s.heap.objs.size+1) (s.heap.objs.size+3) e1 [] [] {s with heap:=h3}:=⟨I3,g3.ev hz3,K.bel.keep (g3.ev hz3),Nat.le_add_right _ 1,Nat.le_add_right _ 3,Nat.ne_of_lt (Nat.add_lt_add_left (by decide) _),hb3,⟨0,hk3⟩,by exact(show Au _ _ _ _ _ from rfl)⟩
 refine wpAny_bind (wpAny_rule ?_)
 rw[←Array.forIn_toList];have hR:Nf n A.in1.in1:=((K.room.room hC).le hlv).in1
 refine wpAny_bind (Op env hF hR K.inv rfl (b:=s.heap.objs.size+1) (kS:=s.heap.objs.size+3) (e1:=e1) ?_ vs.toList.toArray.toList ds ks [] [] {s with heap:=h3} _ J (by rw[List.toList_toArray];exact Au.mono g3.stb _ _ rv) hK.all (by simp at hlen ⊢; exact Ar λZ=>A5 [_,_] [A7 (.n 100000) x0,B0 x0 x1,A9 x1 (.n 100000)] rT Z hlen hK1) λs' kvs' J' hl' _=>?_)
 ·intro x s1 Q1 hq;refine wpAny_bind (wpAny_attempt (wpAny_mono hq (λv s2 h2=>?_) λ_ _ z=>z.elim))
  exact wpAny_bind (wpAny_mono h2 (λ_ s3 h3=>wpAny_pure h3) λ_ _ z=>z.elim)
 ·obtain⟨e,hke⟩:=J'.atk;refine wpAny_bind (listItems_at hke rfl ?_)
  have S:Jg s.heap ρ s'.heap ρ:=J'.ev.stb K.inv .nil
  refine Zi K.inv rfl J' (vs:=vs.toList) (Au.mono S _ _ rv) (by simpa using hl') (by exact Ar λZ=>A5 [_,_] [A7 (.n 100000) x0,B0 x0 x1,A9 x1 (.n 100000)] rT Z hlen hK1) (by simpa using hK.up) (λp m=>?_) λs'' out n' I' x' hb' r'=>⟨_,rfl,wpAny_pure ⟨_,rfl,h s'' _ out n' I' x' (Nat.le_add_right _ 1) hb' (by simpa using r')⟩⟩
  obtain⟨d,_,r⟩:=Iu hK.all.flip p (by simpa using m);exact r.2
theorem Lw{F:List D->Mn D}{k:Nat}{ds:List D}{ks:List (Int×Int)}(hds:st.sto[k]? =some (.list ds)) (hK:Jk F st ds ks):By F [.ref k] st=Bt ds st:=by
 show Hi st.sto[k]? _=_
 rw[hds];exact if_pos ⟨ks,hK⟩
open Classical in
theorem P0{F:List D->Mn D}{f:Addr}{n:Nat}(hF:∀s',Ev [] s.heap ρ s'.heap ρ->V3 G n f F s' ρ st.sto) (hC:C.inh=false) (K:Ok G C A P env s ρ st) (hlv:n+1<=C.lvl){ds:List D}{vs:List Value}(r:Au G s.heap ρ ds vs):
  At G A env s ρ st (RV G) (call (.builtin "sorted") vs [(Str.ofString "key",.ref f)]) (By F ds):=λhb=>by
 match ds,r,hb with
 |[.ref k],r,hb=>
  obtain⟨v,r',rfl,⟨a,rfl,hk⟩,rfl⟩:=r;refine Fe (o:=st.sto[k]?) (f:=λds=>if∃ks,Jk F st ds ks then Bt ds st else .bot) hb λls hds he=>?_
  by_cases hex:∃ks,Jk F st ls ks
  ·apply yo;intro _ k0
   obtain⟨ks,hK⟩:=hex;apply k0
   refine Uv hF hC K hlv hk hds hK λs' b out n' I' x' hb' hat r'=>?_
   have nb:=Gf (hs:=s.heap) K.inv (q:=b) hb';obtain⟨I2,S2⟩:=I'.adopt (q:=b) (p:=.list ls) nb.1 nb.2 (λo ho=>by rw[hat]at ho;cases ho;exact⟨by simp,λc z=>by cases z⟩) (λS=>⟨out,⟨n',hat⟩,Au.mono S _ _ r'⟩) s'.toks
   refine⟨ρ++[b],.ref st.sto.length,st.sto++[.list ls],by rw[Lw hds hK];rfl,I2,Hw x' hb',?_⟩
   show C9 G _ _ _ _
   exact⟨b,rfl,by rw[←K.inv.len];simp⟩
  ·exact absurd (he.trans (if_neg hex)) hb
 |[],_,hb=>exact absurd rfl hb
 |.none::_,_,hb=>exact absurd rfl hb
 |.bool _::_,_,hb=>exact absurd rfl hb
 |.int _::_,_,hb=>exact absurd rfl hb
 |.str _::_,_,hb=>exact absurd rfl hb
 |.tup _::_,_,hb=>exact absurd rfl hb
 |.scr _::_,_,hb=>exact absurd rfl hb
 |.exc _::_,_,hb=>exact absurd rfl hb
 |.ref _::_::_,_,hb=>exact absurd rfl hb
theorem Uq{g:Str}{F:List D→Mn D}{f:Addr}{n:Nat}{e:Expr}{ms:Mn (List D)}{sp np pos kp:Pos}(hs:E8 G (Str.ofString "sorted") (.builtin "sorted")) (hsn:C.names.lookup (Str.ofString "sorted")=some .globalImplicit)
  (hg:G9 G g (.ref f)) (hn:C.names.lookup g=some .globalImplicit) (hd:(g==("__debug__":Str))=false) (hF:SF G n f F) (hC:C.inh=false) (hlv:n+1≤C.lvl) (he:SA G C [e] ms) (hst:∀env,starEach [e] env=[(false,eval e env)]):
  SE G C (.Call (.Name (Str.ofString "sorted") sp) [e] [⟨some (Str.ofString "key"),.Name g np,kp⟩] pos) (bnd ms (By F)):=.mk <| λA P env s ρ st K hb=>by
 refine wpAny_bind (Gb K hs hsn (by decide) ?_)
 have hev:backTo pos (starEach [e] env)=(false,eval e env)::backTo pos (starEach [] env):=by rw[hst];rfl
 have h1:=he.run A P env s ρ st pos K (An hb);refine callWith_kw (wpAny_mono h1 (λvs s' q=>?_) λx s' q=>?_) hev (by rw[hev];rfl)
 ·refine Fh.elim q λρ' ds σ' e' I' x' r=>?_
  have K':=K.step I' x';have e2:bnd ms (By F) st=By F ds ⟨st.loc,σ'⟩:=by simp only[bnd,e']
  rw[e2]at hb ⊢;refine kws_cons (L2 K' hg hn hd (kws_nil ?_))
  refine wpAny_mono (P0 (λs' _=>hF.at s' _ _) hC K' hlv r hb) (λw s'' q=>?_) λw s'' q=>?_
  ·exact Fh.tr q x'
  ·exact Bc.tr q x'
 ·exact Bc.bnd q
end
section
variable {G:Gd}{C:Cx}{A:Around}{P:List Addr}{env:Env}{s:Shared}{ρ:List Addr}{σ:Bp}{st:St}
noncomputable def Dh (ds:List D):List D:=ds.zipIdx.map λp=>D.tup [.int p.2,p.1]
theorem N4{ds:List D}{i:Nat}{d:D}(h:(Dh ds)[i]? =some d):∃a,ds[i]? =some a/\d=.tup [.int i,a]:=by
 simp only[Dh,List.getElem?_map,Option.map_eq_some_iff]at h;obtain⟨⟨a,j⟩,h,rfl⟩:=h;rw[List.getElem?_zipIdx]at h;obtain⟨a',h1,h2⟩:=Option.map_eq_some_iff.mp h;injection h2 with e1 e2
 subst e1;rw[Nat.zero_add]at e2;subst e2;exact⟨_,h1,rfl⟩
theorem Nk{ds:List D}:(Dh ds).length=ds.length:=by simp[Dh]
inductive zG0 (e it:Addr) (k:Nat) (ds:List D) (out:Option Addr) (rem:List D) (h:Heap) (ρ:List Addr):Prop
 |mk (l:Addr) (i:Nat) (old:Value) (e1:ρ[k]? =some l) (h1:h.IsListIter it l i) (h2:match out with|none=>IsEnum h e it (i:Nat) old|some a=>IsEnumOut h e it (i:Nat) old a) (e3:rem=(Dh ds).drop i)
theorem Va{P:Addr->Prop}{a b:Addr}(h1:P a) (h2:P b) (q:Addr) (m:q∈[a,b]):P q:=by
 simp only[List.mem_cons,List.not_mem_nil,or_false]at m;rcases m with rfl|rfl<;>assumption
structure zFT (G:Gd) (e it:Addr) (k:Nat) (ds:List D) (out:Option Addr) (rem:List D) (h:Heap) (ρ:List Addr) (σ:Bp):Prop where
 ie:O1 G h ρ e
 ji:O1 G h ρ it
 s1:σ[k]? =some (.list ds)
 ne:e≠it
 ex:zG0 e it k ds out rem h ρ
noncomputable def Od (k:Nat) (ds:List D) (σ:Bp):Prop:=σ[k]? =some (.list ds)
theorem zFT.own{e it:Addr}{k:Nat}{ds rem:List D}{out:Option Addr}{h:Heap}{σ:Bp}(t:zFT G e it k ds out rem h ρ σ):∀q,q∈[e,it]->R5 G h ρ σ q:=Va (.inl (.inl t.ie)) (.inl (.inl t.ji))
theorem X0{e it:Addr}{k:Nat}{ds:List D}:zA0 G e [e,it] Fz (Od k ds) (zFT G e it k ds none)
  (λv rem h ρ σ=>∃T,v=.ref T/\zFT G e it k ds (some T) rem h ρ σ) where
 own rem h ρ σ t:=t.own
 ownM v rem h ρ σ t:=t.elim λT z=>z.2.own
 keep P rem s ρ σ s' ρ' σ' t I0 I' x N g:=by
  obtain⟨l,i,old,e1,h1,h2,e3⟩:=t.ex;obtain⟨ie',ee⟩:=t.ie.keep x N;obtain⟨ji',ej⟩:=t.ji.keep x N;obtain⟨o1,ho1,r1⟩:=h1;exact⟨ie',ji',g,t.ne,l,i,old,x.pre _ _ e1,⟨o1,ej.trans ho1,r1⟩,ee.trans h2,e3⟩
 next A s ρ σ rem Q E hh I0 t h1 h2:=by
  obtain⟨l,i,old,e1,hi1,he,e3⟩:=t.ex;replace he:IsEnum s.heap e it i old:=he
  obtain⟨xs,hl1,r1⟩:=I0.sto k l _ e1 t.s1;have np:=Va (P:=λq=>¬Wu s.heap q) t.ie.notPrv t.ji.notPrv
  cases rem with
  |nil=>
   have hend:xs[i]? =none:=by
    have h3:=Ef e3;rw[Nk,←r1.size]at h3;simp;omega
   refine Dm (wpAny_pyNext_enum_end hh he hi1 hl1.list hend λh' hk zz=>?_)
   exact h1 rfl h' s.toks ⟨λc o n ee=>hk c o (zDI n) ee,zz,λq m p=>absurd p (np q m)⟩
  |cons d rest=>
   obtain⟨hd,hr⟩:=Cw e3;obtain⟨da,ha,rfl⟩:=N4 hd;obtain⟨va,hva,ra⟩:=r1.all2.get i da ha;refine wpAny_pyNext_enum_item he hi1 hl1.list (by simpa using hva) t.ne λh' a1 a2 a3 a4 hk=>?_
   have ho:Gg [e,it] s.heap h':=⟨λc o n ee=>hk c o (zCe n) (zDI n) ee,by rw[a4];exact Nat.le_succ _,λq m p=>absurd p (np q m)⟩
   have S:=ho.stb t.own;refine h2 _ rest rfl (.ref s.heap.objs.size) h' (s.toks+1) ho ?_ ⟨_,rfl,?_⟩
   ·refine⟨_,#[.int i s.toks,va],rfl,I0.size_notin,⟨0,a3⟩,?_⟩
    exact⟨_,_,rfl,⟨_,rfl⟩,_,_,rfl,C9.mono S _ _ ra,rfl⟩
   ·have it1:O1 G h' ρ it:=by obtain⟨o,ho,hc,hd⟩:=a2;exact⟨t.ji.1,t.ji.2.1,o,_,_,ho,hc,by decide,hd⟩
    exact⟨⟨t.ie.1,t.ie.2.1,_,_,_,a1,rfl,by decide,rfl⟩,it1,t.s1,t.ne,l,i+1,va,e1,a2,a1,hr⟩
 go A s ρ σ tgt v rest Q E ht I0 t h:=by
  obtain⟨T,rfl,t⟩:=t;obtain⟨elts,k',pos,rfl⟩:=ht;obtain⟨l,i,old,e1,hi1,he,e3⟩:=t.ex;replace he:IsEnumOut s.heap e it i old T:=he
  refine wpAny_letOwnedTupleGo_enum he λh' hz' hs'=>h h' ⟨λb o n ee=>hs'.extBut _ _ (zCe n) ee,Nat.le_of_eq hs'.1.symm,λq m p=>?_⟩ ?_
  ·obtain⟨x,y,p⟩:=p;by_cases hq:q=e
   ·subst hq;exact absurd ⟨x,y,p⟩ t.ie.notPrv
   ·exact⟨x,y,hs'.extBut _ _ hq p⟩
  ·obtain⟨_,_,o1,T1,vs1,ho1,hc1,hT1,hd1⟩:=id t.ji;exact⟨⟨t.ie.1,t.ie.2.1,_,_,_,hz',rfl,by decide,rfl⟩,⟨t.ji.1,t.ji.2.1,o1,T1,vs1,hs'.extBut _ _ (Ne.symm t.ne) ho1,hc1,hT1,hd1⟩,t.s1,t.ne,l,i,old,e1,hi1.extBut hs'.extBut (Ne.symm t.ne),hz',e3⟩
theorem Gl{e it:Addr}{i:Int}{old:Value}{Q:Value->Shared->Prop}{E:Value->Shared->Prop}(he:IsEnum s.heap e it i old) (h:Q (.ref e) s):wpAny G.M A (pyIter (.ref e)) Q E s:=wpAny_pyIter_enum he h
theorem Vf{e it:Addr}{k:Nat}{ds:List D}:Hm G e (zFT G e it k ds none):=λA s ρ σ rem Q E hh t h=>by
 obtain⟨l,i,old,e1,hi1,he,e3⟩:=t.ex;exact Gl he h
noncomputable def Ki:List D->Mn Gz
 |[.ref k]=>λst=>match st.sto[k]? with
  |some (.list a)=>.ok ⟨Dh a,Od k a⟩ st
  |_=>.bot
 |_=>botM
theorem Wf{P:Prop}{ds:List D}{st:St}(hb:Ki ds st≠.bot) (w:∀k a,ds=[.ref k]->st.sto[k]? =some (.list a)->Ki ds st=.ok ⟨Dh a,Od k a⟩ st->P):P:=by
 rcases ds with _|⟨d,_|⟨d2,l⟩⟩
 ·exact absurd rfl hb
 ·cases h:zEd d with
  |none=>exact absurd (by cases d<;>first|rfl|cases h) hb
  |some k=>
   obtain rfl:=Mt h;have e:Ki [.ref k] st=Hi st.sto[k]? λa=>.ok ⟨Dh a,Od k a⟩ st:=by
    generalize ho:st.sto[k]? =o
    unfold Ki;dsimp only;rw[ho]
    cases o with
    |none=>rfl
    |some o=>cases o<;>rfl
   rw[e]at hb;exact Fe hb λa e1 e2=>w k a rfl e1 (e.trans e2)
 ·exact absurd (by cases d<;>rfl) hb
theorem Wq{P:Prop}{h:Heap}{k:Nat}{vs:List Value}(r:Au G h ρ [.ref k] vs) (w:∀l,vs=[.ref l]->ρ[k]? =some l->P):P:=by
 obtain⟨v1,_,rfl,⟨l1,rfl,e1⟩,rfl⟩:=r;exact w l1 rfl e1
theorem zB2:Sd G "enumerate" Fz Ki:=λC A P env s ρ st ds vs hC K r hb=>Wf hb λk a ed q1 ee=>by
 subst ed;refine Wq r λl1 ev e1=>?_
 subst ev;obtain⟨xs,hl1,rr1⟩:=K.inv.sto k l1 _ e1 q1;refine call_enumerate_list hl1.list λh' he hi hsz hk=>?_
 refine Gl he ?_
 have zz:s.heap.objs.size<=h'.objs.size:=by rw[hsz];exact Nat.le_add_right _ _
 have g:Av s.heap h':=hk
 have hnew:∀j,s.heap.objs.size+j∉ρ:=λj m=>Nat.lt_irrefl _ (Nat.lt_of_lt_of_le (K.inv.mem_lt m) (Nat.le_add_right _ j))
 have h0:∀j,G.h0.get? (s.heap.objs.size+j)=none:=λj=>K.inv.h0_le (Nat.le_add_right _ _)
 obtain⟨o1,ho1,hc1,hd1⟩:=id hi;exact⟨_,⟨Dh a,Od k a⟩,_,s.heap.objs.size+1,[s.heap.objs.size+1,s.heap.objs.size],_,_,ee,K.inv.grow g zz s.toks,g.ev zz,rfl,X0,Vf,⟨⟨h0 1,hnew 1,_,_,_,he,rfl,by decide,rfl⟩,⟨h0 0,hnew 0,o1,_,_,ho1,hc1,by decide,hd1⟩,q1,Nat.ne_of_gt (Nat.lt_succ_self _),l1,0,.none,e1,hi,he,rfl⟩,Va (Nat.le_add_right _ _) (Nat.le_refl _)⟩
end
section
variable {G:Gd}{C:Cx}{A:Around}{P:List Addr}{env:Env}{s:Shared}{ρ:List Addr}{σ:Bp}{st:St}
theorem W7(hh:A.handled=none) (it:Addr) (x:Str) (t:Tok):Draws G.prog G.w A it [it] x.cps.size (λi v=>∃c u,x.cps[i]? =some c/\v=.str ⟨#[c]⟩ u) (λi h=>h.IsStrIter it (D9 x) x t i):=by
 unfold D9;split
 ·exact Draws.strAscii hh it x t
 ·exact Draws.strWide hh it x t
inductive zG4 (e it:Addr) (x:Str) (tk:Tok) (out:Option Addr) (rem:List D) (h:Heap):Prop
 |mk (i:Nat) (old:Value) (h1:h.IsStrIter it (D9 x) x tk i) (h2:match out with|none=>IsEnum h e it (i:Nat) old|some a=>IsEnumOut h e it (i:Nat) old a) (e3:rem=(Dh (Gc x)).drop i) (hi:i<=x.cps.size)
structure zEy (G:Gd) (e it:Addr) (x:Str) (tk:Tok) (out:Option Addr) (rem:List D) (h:Heap) (ρ:List Addr) (σ:Bp):Prop where
 ie:O1 G h ρ e
 ji:O1 G h ρ it
 ne:e≠it
 ex:zG4 e it x tk out rem h
theorem zEy.own{e it:Addr}{x:Str}{tk:Tok}{rem:List D}{out:Option Addr}{h:Heap}{σ:Bp}(t:zEy G e it x tk out rem h ρ σ):∀q,q∈[e,it]->R5 G h ρ σ q:=Va (.inl (.inl t.ie)) (.inl (.inl t.ji))
theorem W4{x:Str}:(Dh (Gc x)).length=x.cps.size:=by rw[Nk];simp[Gc]
theorem Uu{e it:Addr}{x:Str}{tk:Tok}:zA0 G e [e,it] Fz (λ_=>True) (zEy G e it x tk none)
  (λv rem h ρ σ=>∃T,v=.ref T/\zEy G e it x tk (some T) rem h ρ σ) where
 own rem h ρ σ t:=t.own
 ownM v rem h ρ σ t:=t.elim λT z=>z.2.own
 keep P rem s ρ σ s' ρ' σ' t I0 I' xx N g:=by
  obtain⟨i,old,h1,h2,e3,hi⟩:=t.ex;obtain⟨ie',ee⟩:=t.ie.keep xx N;obtain⟨ji',ej⟩:=t.ji.keep xx N;obtain⟨o1,ho1,r1⟩:=h1;exact⟨ie',ji',t.ne,i,old,⟨o1,ej.trans ho1,r1⟩,ee.trans h2,e3,hi⟩
 next A s ρ σ rem Q E hh I0 t h1 h2:=by
  obtain⟨i,old,hi1,he,e3,hi⟩:=t.ex;replace he:IsEnum s.heap e it i old:=he
  have np:=Va (P:=λq=>¬Wu s.heap q) t.ie.notPrv t.ji.notPrv
  have hD:=W7 (G:=G) (A:=A.in1) hh it x tk
  cases rem with
  |nil=>
   have hend:i=x.cps.size:=by
    have h3:=Ef e3;rw[W4]at h3;exact Gw (λZ=>A5 [_,_] [A7 x0 x1,A9 x1 x0] rT Z h3) (λZ=>A5 [_,_] [A7 x1 x0,A9 x0 x1] rT Z hi)
   subst hend;refine Dm (wpAny_pyNext_enum_endD hD he hi1 λh' hk zz=>?_)
   exact h1 rfl h' s.toks ⟨λc o n ee=>hk c o (zDI n) ee,zz,λq m p=>absurd p (np q m)⟩
  |cons d rest=>
   obtain⟨hd,hr⟩:=Cw e3;obtain⟨da,ha,rfl⟩:=N4 hd;have hlt:i<x.cps.size:=by
    rcases Nat.lt_or_ge i x.cps.size with z|z
    ·exact z
    ·rw[List.getElem?_eq_none (by simpa [Gc]using z)]at ha;cases ha
   refine wpAny_pyNext_enum_itemD hD he hi1 hlt t.ne (by simpa using t.ne) λv h' tk' hv a1 a2 a3 a4 hk=>?_
   obtain⟨c,u,hc,rfl⟩:=hv;have eda:da=.str ⟨#[c]⟩:=by
    rw[Gc,List.getElem?_map,Array.getElem?_toList,hc]at ha;exact(Option.some.inj ha).symm
   have ho:Gg [e,it] s.heap h':=⟨λc o n ee=>hk c o (zCe n) (zDI n) ee,by rw[a4];exact Nat.le_succ _,λq m p=>absurd p (np q m)⟩
   refine h2 _ rest rfl (.ref s.heap.objs.size) h' (tk'+1) ho ?_ ⟨_,rfl,?_⟩
   ·refine⟨_,#[.int i tk',.str ⟨#[c]⟩ u],rfl,I0.size_notin,⟨0,a3⟩,?_⟩
    subst eda;exact⟨_,_,rfl,⟨_,rfl⟩,_,_,rfl,⟨_,rfl⟩,rfl⟩
   ·have it1:O1 G h' ρ it:=by obtain⟨o,ho,hc,hd⟩:=a2;exact⟨t.ji.1,t.ji.2.1,o,_,_,ho,hc,(Gu x).1,hd⟩
    exact⟨⟨t.ie.1,t.ie.2.1,_,_,_,a1,rfl,by decide,rfl⟩,it1,t.ne,i+1,_,a2,a1,hr,hlt⟩
 go A s ρ σ tgt v rest Q E ht I0 t h:=by
  obtain⟨T,rfl,t⟩:=t;obtain⟨elts,k',pos,rfl⟩:=ht;obtain⟨i,old,hi1,he,e3,hi⟩:=t.ex;replace he:IsEnumOut s.heap e it i old T:=he
  refine wpAny_letOwnedTupleGo_enum he λh' hz' hs'=>h h' ⟨λb o n ee=>hs'.extBut _ _ (zCe n) ee,Nat.le_of_eq hs'.1.symm,λq m p=>?_⟩ ?_
  ·obtain⟨x,y,p⟩:=p;by_cases hq:q=e
   ·subst hq;exact absurd ⟨x,y,p⟩ t.ie.notPrv
   ·exact⟨x,y,hs'.extBut _ _ hq p⟩
  ·obtain⟨_,_,o1,T1,vs1,ho1,hc1,hT1,hd1⟩:=id t.ji;exact⟨⟨t.ie.1,t.ie.2.1,_,_,_,hz',rfl,by decide,rfl⟩,⟨t.ji.1,t.ji.2.1,o1,T1,vs1,hs'.extBut _ _ (Ne.symm t.ne) ho1,hc1,hT1,hd1⟩,t.ne,i,old,hi1.extBut hs'.extBut (Ne.symm t.ne),hz',e3,hi⟩
theorem S7{e it:Addr}{x:Str}{tk:Tok}:Hm G e (zEy G e it x tk none):=λA s ρ σ rem Q E hh t h=>by
 obtain⟨i,old,hi1,he,e3,_⟩:=t.ex;exact Gl he h
noncomputable def H0:List D->Mn Gz
 |[.str x]=>ret1 ⟨Dh (Gc x),λ_=>True⟩
 |ds=>Ki ds
theorem Vy{Q:Prop}{ds:List D}(k1:∀x,ds=[.str x]->Q) (k2:H0 ds=Ki ds->Q):Q:=by
 rcases ds with _|⟨d,_|⟨d2,l⟩⟩
 ·exact k2 rfl
 ·cases d<;>first|exact k1 _ rfl|exact k2 rfl
 ·exact k2 (by cases d<;>rfl)
theorem Xb:Sd G "enumerate" Fz H0:=λC A P env s ρ st ds vs hC K r=>Vy (ds:=ds) (λx ed hb=>by
 subst ed;obtain⟨v1,_,rfl,⟨t,rfl⟩,rfl⟩:=r;refine call_enumerate_str λh' he hi hsz hk=>?_
 refine Gl he ?_
 have zz:s.heap.objs.size<=h'.objs.size:=by rw[hsz];exact Nat.le_add_right _ _
 have g:Av s.heap h':=hk
 have hnew:∀j,s.heap.objs.size+j∉ρ:=λj m=>Nat.lt_irrefl _ (Nat.lt_of_lt_of_le (K.inv.mem_lt m) (Nat.le_add_right _ j))
 have h0:∀j,G.h0.get? (s.heap.objs.size+j)=none:=λj=>K.inv.h0_le (Nat.le_add_right _ _)
 obtain⟨o1,ho1,hc1,hd1⟩:=id hi;exact⟨_,⟨Dh (Gc x),λ_=>True⟩,_,s.heap.objs.size+1,[s.heap.objs.size+1,s.heap.objs.size],_,_,rfl,K.inv.grow g zz s.toks,g.ev zz,rfl,Uu,S7,⟨⟨h0 1,hnew 1,_,_,_,he,rfl,by decide,rfl⟩,⟨h0 0,hnew 0,o1,_,_,ho1,hc1,(Gu x).1,hd1⟩,Nat.ne_of_gt (Nat.lt_succ_self _),0,.none,hi,he,rfl,lq5 _⟩,Va (Nat.le_add_right _ _) (Nat.le_refl _)⟩) λe=>by
 rw[e];exact zB2 C A P env s ρ st ds vs hC K r
end
mutual
noncomputable def Ks:D->Option PyData
 |.none=>some .none
 |.bool b=>some (.bool b)
 |.int i=>some (.int i)
 |.str x=>some (.str x)
 |.tup ds=>(Do ds).map .tuple
 |.ref _=>none
 |.scr _=>none
 |.exc _=>none
noncomputable def Do:List D->Option (List PyData)
 |[]=>some []
 |d::ds=>(Ks d).bind λx=>(Do ds).map (x:: ·)
end
mutual
theorem J9{G:Gd}{h:Heap}{ρ:List Addr}:∀(d:D) (v:Value) (p:PyData),Ks d=some p->C9 G h ρ d v->∃as,Reads h v p as
 |.none,v,p,e,r=>by cases Option.some.inj e;cases(show v=_ from r);exact⟨_,.none⟩
 |.bool b,v,p,e,r=>by cases Option.some.inj e;cases(show v=_ from r);exact⟨_,.bool b⟩
 |.int i,v,p,e,r=>by cases Option.some.inj e;obtain⟨t,rfl⟩:=r;exact⟨_,.int i t⟩
 |.str x,v,p,e,r=>by cases Option.some.inj e;obtain⟨t,rfl⟩:=r;exact⟨_,.str x t⟩
 |.tup ds,v,p,e,r=>by
  obtain⟨ps,e1,rfl⟩:=Option.map_eq_some_iff.mp (show(Do ds).map .tuple=some p from e)
  obtain⟨a,vs,rfl,_,⟨n,ho⟩,r2⟩:=r;obtain⟨as,ra⟩:=Ht ds _ ps e1 r2;exact⟨_,.tuple ho rfl rfl ra⟩
 |.ref _,_,_,e,_=>by cases(show none=some _ from e)
 |.scr _,_,_,e,_=>by cases(show none=some _ from e)
 |.exc _,_,_,e,_=>by cases(show none=some _ from e)
theorem Ht{G:Gd}{h:Heap}{ρ:List Addr}:∀(ds:List D) (vs:List Value) (ps:List PyData),Do ds=some ps->Au G h ρ ds vs->∃as,ReadsAll h vs ps as
 |[],vs,ps,e,r=>by cases Option.some.inj e;cases(show vs=_ from r);exact⟨_,.nil⟩
 |d::ds,vs,ps,e,r=>by
  obtain⟨x,e1,e⟩:=Option.bind_eq_some_iff.mp (show(Ks d).bind (λx=>(Do ds).map (x:: ·))=some ps from e)
  obtain⟨xs,e2,rfl⟩:=Option.map_eq_some_iff.mp e;obtain⟨v,r',rfl,r1,r2⟩:=r;obtain⟨as,h1⟩:=J9 d v x e1 r1;obtain⟨bs,h2⟩:=Ht ds r' xs e2 r2;exact⟨_,.cons h1 h2⟩
end
noncomputable def G1 (σ:Bp):D->Option PyData
 |.ref k=>(zDF σ[k]?).bind λds=>(Do ds).map .list
 |d=>Ks d
theorem G4{G:Gd}{s:Shared}{ρ:List Addr}{σ:Bp}(I:Ci G s ρ σ){d:D}{v:Value}{p:PyData}(e:G1 σ d=some p) (r:C9 G s.heap ρ d v):∃as,Reads s.heap v p as:=by
 cases d with
 |ref k=>
  obtain⟨a,rfl,hk⟩:=r;obtain⟨ds,hs,e⟩:=Option.bind_eq_some_iff.mp (show(zDF σ[k]?).bind (λds=>(Do ds).map .list)=some p from e)
  obtain⟨ps,e1,rfl⟩:=Option.map_eq_some_iff.mp e;obtain⟨vs,⟨n,ho⟩,rr⟩:=I.sto k a _ hk (Np hs);obtain⟨as,ra⟩:=Ht ds _ ps e1 rr;exact⟨_,.list ho rfl rfl ra⟩
 |_=>exact J9 _ _ _ e r
theorem Je{σ:Bp}{k:Nat}{ds:List D}(h:σ[k]? =some (.list ds)):G1 σ (.ref k)=(Do ds).map .list:=by
 show(zDF σ[k]?).bind _=_
 rw[h];rfl
noncomputable def Q8 (a b:D):Mn D:=λst=>match G1 st.sto a,G1 st.sto b with
 |some x,some y=>if x.canLay0=true/\y.canLay0=true/\x.depth<=50 then .ok (.bool (x.eqv y)) st else .bot
 |_,_=>.bot
noncomputable def Eh:D->D->Mn D
 |.ref k,.ref l=>Q8 (.ref k) (.ref l)
 |.tup x,.tup y=>Q8 (.tup x) (.tup y)
 |a,b=>zAm a b
section
variable {G:Gd}{C:Cx}{A:Around}{P:List Addr}{env:Env}{s:Shared}{ρ:List Addr}{st:St}
theorem X1{d1 d2:D}{v1 v2:Value}(K:Ok G C A P env s ρ st) (r1:C9 G s.heap ρ d1 v1) (r2:C9 G s.heap ρ d2 v2):At G A env s ρ st (RV G) (compareOp .Eq v1 v2) (Q8 d1 d2):=by
 refine At.leaf (λhb=>?_) K
 cases e1:G1 st.sto d1 with
 |none=>exact absurd (by simp only[Q8,e1]) hb
 |some x=>
  cases e2:G1 st.sto d2 with
  |none=>exact absurd (by simp only[Q8,e1,e2]) hb
  |some y=>
   by_cases hc:x.canLay0=true/\y.canLay0=true/\x.depth<=50
   ·obtain⟨as,ra⟩:=G4 K.inv e1 r1;obtain⟨bs,rb⟩:=G4 K.inv e2 r2;refine SeqAt.compareEq_reads ra rb hc.1 hc.2.1 ?_ ⟨.bool (x.eqv y),by simp only[Q8,e1,e2,hc,and_self,if_true],Av.same0,rfl⟩
    have:=K.room.units
    have hl:cLine=9900:=rfl
    have:=hc.2.2
    omega
   ·exact absurd (by simp only[Q8,e1,e2,hc,if_false]) hb
theorem zEN{P:Prop}{d1 d2:D}(k1:∀a b,d1=.ref a->d2=.ref b->P) (k3:∀a b,d1=.tup a->d2=.tup b->P) (k2:Eh d1 d2=zAm d1 d2->P):P:=by
 cases d1 with
 |ref a=>cases d2<;>first|exact k1 _ _ rfl rfl|exact k2 rfl
 |tup a=>cases d2<;>first|exact k3 _ _ rfl rfl|exact k2 rfl
 |_=>exact k2 rfl
theorem zAo:Fc G .Eq Eh:=λC A P env s ρ st d1 d2 v1 v2 K r1 r2=>zEN (d1:=d1) (d2:=d2) (λa b e1 e2=>by subst e1 e2;exact X1 K r1 r2) (λa b e1 e2=>by subst e1 e2;exact X1 K r1 r2) λe=>by rw[e];exact zAn C A P env s ρ st d1 d2 v1 v2 K r1 r2
noncomputable def TF (G:Gd) (T:String) (F:List D->Mn D):Prop:=
 ∀C A P env s ρ st ds vs,Ok G C A P env s ρ st->Au G s.heap ρ ds vs->At G A env s ρ st (RV G) (call (.type T) vs) (F ds)
theorem Zc{T:String}{f:Str}{F:List D→Mn D}{e:Expr}{es:List Expr}{ms:Mn (List D)}{np pos:Pos}(hg:E8 G f (.type T)) (hn:C.names.lookup f=some .globalImplicit) (hd:(f==("__debug__":Str))=false)
  (hF:TF G T F) (hs:SA G C (e::es) ms) (hst:∀env,starEach (e::es) env=(false,eval e env)::starEach es env) (hpl:∀env,(backTo pos (starEach es env)).any (·.1)=false):
  SE G C (.Call (.Name f np) (e::es) [] pos) (bnd ms F):=.mk <| λA P env s ρ st K hb=>by
 show wpAny G.M A (eval (.Name f np) env >>= λfv=>callWith pos fv [] (backTo pos (starEach (e::es) env)) []) _ _ s
 refine wpAny_bind (Gb K hg hn hd ?_)
 have hev:backTo pos (starEach (e::es) env)=(false,eval e env)::backTo pos (starEach es env):=by rw[hst];rfl
 have h1:=hs.run A P env s ρ st pos K (An hb);rw[hev]at h1 ⊢;refine PySem.callWith_type (by show(false||_)=false;rw[Bool.false_or];exact hpl env) (Calls.evalArgs_plain (wpAny_mono h1 (λvs s' q=>?_) λx s' q=>?_))
 ·refine Fh.elim q λρ' ds σ' e' I' x' r=>?_
  have K':=K.step I' x';have e2:bnd ms F st=F ds ⟨st.loc,σ'⟩:=by simp only[bnd,e']
  rw[e2]at hb ⊢;refine wpAny_mono (hF C A P env s' ρ' ⟨st.loc,σ'⟩ ds vs K' r hb) (λw s'' q=>?_) λw s'' q=>?_
  ·exact Fh.tr q x'
  ·exact Bc.tr q x'
 ·exact Bc.bnd q
noncomputable def F5:List D->Mn D
 |[.ref k]=>λst=>match st.sto[k]? with
  |some (.list ds)=>if ds.length<=sizeLine then Bt ds st else .bot
  |_=>.bot
 |_=>botM
theorem Yi{h':Heap}{ds:List D}{vs:Array Value}{n:Nat}(K:Ok G C A P env s ρ st) (g:Av s.heap h') (hb:h'.get? s.heap.objs.size=some (F6 vs n)) (r:Au G s.heap ρ ds vs.toList):
  Fh G s ρ st (RV G) (Bt ds st) (.ref s.heap.objs.size) {s with heap:=h'}:=by
 have z:s.heap.objs.size<=h'.objs.size:=Nat.le_of_lt (Heap.lt_size hb)
 have I1:=K.inv.grow g z s.toks;obtain⟨I2,S2⟩:=I1.adopt (q:=s.heap.objs.size) (p:=.list ds) K.inv.h0_size K.inv.size_notin (λo ho=>by
  have ho':h'.get? s.heap.objs.size=some o:=ho
  rw[hb]at ho';cases ho';exact⟨by simp,λc z=>by cases z⟩) (λS=>⟨vs,⟨n,hb⟩,Au.mono S _ _ (Au.mono g.stb _ _ r)⟩) s.toks
 refine⟨ρ++[s.heap.objs.size],.ref st.sto.length,st.sto++[.list ds],rfl,I2,Hw (g.ev z) (Nat.le_refl _),?_⟩
 show C9 _ _ _ _ _
 exact⟨_,rfl,by rw[←K.inv.len];simp⟩
inductive zF0 (st:St):List D->Prop
 |ref (k:Nat) (ls:List D) (q:st.sto[k]? =some (.list ls)) (hl:ls.length<=sizeLine) (e:F5 [.ref k] st=Bt ls st):zF0 st [.ref k]
theorem zEz{ds:List D}{st:St}(hb:F5 ds st≠.bot):zF0 st ds:=by
 rcases ds with _|⟨d,_|⟨e,l⟩⟩
 ·exact absurd rfl hb
 ·cases d<;>first|exact absurd rfl hb|skip
  ·rename_i k;have e:F5 [.ref k] st=Hi st.sto[k]? λds=>if ds.length<=sizeLine then Bt ds st else .bot:=by
    generalize ho:st.sto[k]? =o
    unfold F5;dsimp only;rw[ho]
    cases o with
    |none=>rfl
    |some o=>cases o<;>rfl
   rw[e]at hb;refine Fe hb λds e1 e2=>?_
   rw[e2]at hb;exact Pn hb λhz e3=>.ref k ds e1 hz (e.trans (e2.trans e3))
 ·exact absurd (by cases d<;>rfl) hb
theorem zAg:TF G "list" F5:=λC A P env s ρ st ds vs K r hb=>by
 rcases zEz hb with⟨k,ls,hds,hl,e⟩
 ·rw[e];obtain⟨v,r',rfl,⟨a,rfl,hk⟩,rfl⟩:=r;refine Gy K.inv hk hds λvs n ho rr=>?_
  exact call_list_seq a (.inl rfl) ho rfl rfl (λh' c' hkeep hD=>Yi K hkeep hD rr) (by rw[rr.size];exact hl)
noncomputable def Nd:List D->Mn D
 |[.bool b]=>ret1 (.int (if b then 1 else 0))
 |_=>botM
theorem Yn{P:Prop}{ds:List D}{st:St}(hb:Nd ds st≠.bot) (w:∀b,ds=[.bool b]->P):P:=by
 rcases ds with _|⟨d,_|⟨e,l⟩⟩
 ·exact absurd rfl hb
 ·cases d<;>first|exact absurd rfl hb|exact w _ rfl
 ·exact absurd (by cases d<;>rfl) hb
theorem zDS:TF G "int" Nd:=λC A P env s ρ st ds vs K r=>At.leaf (λhb=>Yn hb λb ed=>by
 subst ed;obtain⟨v,r',rfl,rfl,rfl⟩:=r;exact call_int_bool ⟨_,rfl,Av.same,⟨_,rfl⟩⟩) K
noncomputable def Id:List D->Mn D
 |[.int a]=>if a.natAbs.log2<1920 then ret1 (.str (Str.ofString (toString a)))else botM
 |_=>botM
theorem zDH:TF G "str" Id:=λC A P env s ρ st ds vs K r=>by
 refine At.leaf (λhb=>?_) K
 match ds,r with
 |[.int a],r=>
  obtain⟨v,r',rfl,⟨t,rfl⟩,rfl⟩:=r;by_cases h:a.natAbs.log2<1920
  ·refine PySem.P.str_of_int h ⟨.str (Str.ofString (toString a)),by unfold Id;simp only[h,if_true];rfl,Av.same,⟨_,rfl⟩⟩
  ·exact absurd (by unfold Id;simp only[h,if_false];rfl) hb
 |[],_=>exact absurd rfl hb
 |.none::_,_=>exact absurd rfl hb
 |.ref _::_,_=>exact absurd rfl hb
 |.bool _::_,_=>exact absurd rfl hb
 |.str _::_,_=>exact absurd rfl hb
 |.scr _::_,_=>exact absurd rfl hb
 |.exc _::_,_=>exact absurd rfl hb
 |.tup _::_,_=>exact absurd rfl hb
 |.int _::_::_,_=>exact absurd rfl hb
end
noncomputable def Bg (k:Nat) (x:D):Mn D:=λst=>match st.sto[k]? with
 |some (.list ds)=>if ds.length<=sizeLine then .ok .none ⟨st.loc,st.sto.set k (.list (ds++[x]))⟩else .bot
 |_=>.bot
noncomputable def Da (F:Nat->Mn D):D->Mn D
 |.ref k=>λst=>match st.sto[k]? with
  |some (.list _)=>F k st
  |_=>.bot
 |_=>botM
noncomputable def Dg:D->Mn Fl
 |.none=>ret1 .next
 |_=>botM
section
variable {G:Gd}{C:Cx}{A:Around}{P:List Addr}{env:Env}{s:Shared}{ρ:List Addr}{st:St}
theorem Rv{k:Nat}{a:Addr}{vs:Array Value}{n:Nat}{ds:List D}{g:Array Value->Array Value}(K:Ok G C A P env s ρ st) (hk:ρ[k]? =some a) (ho:s.heap.get? a=some (F6 vs n))
  (r:∀(S:Jg s.heap ρ (s.heap.update a (Obj.mapSeq g)) ρ),Au G (s.heap.update a (Obj.mapSeq g)) ρ ds (g vs).toList):
  Ci G {s with heap:=s.heap.update a (Obj.mapSeq g)} ρ (st.sto.set k (.list ds))/\Ev [] s.heap ρ (s.heap.update a (Obj.mapSeq g)) ρ:=by
 apply yo;intro _ k0
 obtain⟨n',hu⟩:=Hu g ho;obtain⟨I,x⟩:=K.inv.put (k:=k) (a:=a) (p:=.list ds) hk (Heap.SameBut.update s.heap a (Obj.mapSeq g)) (λS=>⟨g vs,⟨n',hu⟩,r S⟩) s.toks
 apply k0
 exact⟨I,x []⟩
theorem V1{o e:Expr}{mo me:Mn D}{apos pos:Pos}(ho:SE G C o mo) (he:SE G C e me)
  (hbase:∀env,attributeBase o (Str.ofString "append") env (eval o env)=eval o env) (hst:∀env,starEach [e] env=[(false,eval e env)])
  (hfew:∀env,methodCallForm ([e].length+([]:List Keyword).length) (backTo pos (starEach [e] env)) (backToKw pos (keywordEach [] env))=true) (hline:(apos.endLine==pos.line)=true):
  SE G C (.Call (.Attribute o (Str.ofString "append") apos) [e] [] pos) (bnd mo (Da λk=>bnd me (Bg k))):=.mk <| λA P env s ρ st K hb=>by
 refine wpAny_Call_method_lateS (hbase env) (hfew env) hline (wpAny_mono (ho.run A P env s ρ st K (An hb)) (λov s' q=>?_) λx s' q=>?_)
 ·refine Fh.elim q λρ' d σ' e' I' x' r=>?_
  have K':=K.step I' x';have e2:bnd mo (Da λk=>bnd me (Bg k)) st=Da (λk=>bnd me (Bg k)) d ⟨st.loc,σ'⟩:=by simp only[bnd,e']
  rw[e2]at hb ⊢;have hev:backTo pos (starEach [e] env)=[(false,eval e env)]:=by rw[hst];rfl
  cases d with
  |ref k=>
   obtain⟨a,rfl,hk⟩:=r
   cases hp:σ'[k]? with
   |none=>exact absurd (by unfold Da;simp only[hp]) hb
   |some p=>
    cases p with
    |list ds0=>
     have e5:Da (λk=>bnd me (Bg k)) (.ref k) ⟨st.loc,σ'⟩=bnd me (Bg k) ⟨st.loc,σ'⟩:=by unfold Da;simp only[hp]
     rw[e5]at hb ⊢;apply yo;intro _ k0
     obtain⟨vs,⟨n,hl⟩,_⟩:=I'.sto k a _ hk hp;apply k0
     refine⟨"list","list.append",F.plainAttrs_list,F.slot_list_append,F.type_list_append,⟨_,hl,rfl⟩,(λa' ea=>by cases ea;exact⟨_,hl,rfl⟩),?_⟩
     rw[hev];refine PySem.P.append_list (wpAny_mono (he.run A P env s' ρ' ⟨st.loc,σ'⟩ K' (An hb)) (λv s'' q=>?_) λy s'' q=>?_)
     ·refine Fh.elim q λρ'' dx σ'' e3 I'' x'' rx=>?_
      have K'':=K'.step I'' x'';have e4:bnd me (Bg k) ⟨st.loc,σ'⟩=Bg k dx ⟨st.loc,σ''⟩:=by simp only[bnd,e3]
      rw[e4]at hb ⊢;have hk'':=x''.pre k a hk
      cases hds:σ''[k]? with
      |none=>exact absurd (by unfold Bg;simp only[hds]) hb
      |some oo=>
       cases oo with
       |list ds=>
        by_cases hlen:ds.length<=sizeLine
        ·obtain⟨ws,⟨m,how⟩,rw'⟩:=I''.sto k a _ hk'' hds;refine⟨ws,m,by rw[rw'.size];exact hlen,how,?_⟩
         obtain⟨I3,x3⟩:=Rv (ds:=ds++[dx]) (g:=λxs=>xs.push v) K'' hk'' how (λS=>by
          have:=Au.of_all2 ((Au.all2 (Au.mono S _ _ rw')).append (.cons (C9.mono S _ _ rx) .nil))
          simpa using this)
         exact⟨ρ'',.none,_,by unfold Bg;simp only[hds,hlen,if_true],I3,(x'.trans x'').trans x3,rfl⟩
        ·exact absurd (by unfold Bg;simp only[hds,hlen,if_false]) hb
       |_=>exact absurd (by unfold Bg;simp only[hds]) hb
     ·exact Bc.tr (Bc.bnd q) x'
    |_=>exact absurd (by unfold Da;simp only[hp]) hb
  |_=>exact absurd rfl hb
 ·exact Bc.bnd q
theorem zB9{e:Expr}{pos:Pos}{m:Mn D}(h:SE G C e m) (hsw:∀env,swapsWith e none pos.line env=pure false):SS G C (.Expr e pos) (bnd m Dg):=.mk <| λA P env s ρ st K W hb=>by
 refine wpAny_Expr ?_ (by unfold interactive;rw[K.frm.kind];rfl) (hsw env)
 refine wpAny_mono (h.run A P env s ρ st K (An hb)) (λv s' q=>?_) λx s' q=>?_
 ·refine Fh.elim q λρ' d σ' e I' x' r=>?_
  have e2:bnd m Dg st=Dg d ⟨st.loc,σ'⟩:=by simp only[bnd,e]
  rw[e2]at hb ⊢
  cases d with
  |none=>
   cases(show v=.none from r)
   exact⟨ρ',.next,⟨st.loc,σ'⟩,rfl,I',x'.nil,K.frm.keep K.inv x',rfl⟩
  |_=>exact absurd rfl hb
 ·exact Bc.toS K q
end
section
open W
noncomputable def M4 (m:Mn D):List D->Mn D
 |[d]=>λst=>match m ⟨B9 Br 0 d,st.sto⟩with
  |.ok d' st'=>.ok d' ⟨st.loc,st'.sto⟩
  |.exc c st'=>.exc c ⟨st.loc,st'.sto⟩
  |.bot=>.bot
 |_=>botM
structure zEn (h:Heap) (f:Addr) (fd:FuncData) (x:Str) (e:Expr):Prop where
 obj:∃o,h.get? f=some o/\o.data=.func fd
 body:fd.body=.expr e
 glob:fd.globals=mainGlobals
 clo:fd.closure=[]
 bi:fd.builtins=builtinsNs
 kind:fd.scope.kind=.function
 co:fd.scope.isCoroutine=false
 gen:fd.scope.isGenerator=false
 bind:∀v:Value,bindArgs fd ⟨[v],[]⟩=pure [(x,v)]
 par:fd.scope.names.lookup x=some .local
 nocell:∀y,y∈fd.scope.names->y.2≠.cell
 nofree:∀y,y∈fd.scope.names->y.2≠.free
 code:h.CodeRec fd.code fd.qualname
section
variable {G:Gd}{C:Cx}{A:Around}{P:List Addr}{env:Env}{s:Shared}{ρ:List Addr}{σ:Bp}{st:St}
theorem zDh{f:Addr}{fd:FuncData}{x:Str}{e:Expr}{n:Nat}{m:Mn D}(Li:zEn s.heap f fd x e) (hlim:G.h0.NoLimit) (hb:SE G ⟨fd.scope.names,[x],n,false,.none,""⟩ e m):V3 G (n+1) f (M4 m) s ρ σ:=by
 intro A env₀ loc ds vs R I B r hbot;obtain⟨d,rfl⟩:∃d,ds=[d]:=by
  cases ds with
  |nil=>exact absurd rfl hbot
  |cons d ds'=>cases ds' with
   |nil=>exact⟨d,rfl⟩
   |cons _ _=>exact absurd rfl hbot
 obtain⟨v,_,rfl,rv,rfl⟩:=r;obtain⟨o,ho,hdata⟩:=Li.obj;have g0:Av G.h0 s.heap:=I.base
 refine wpAny_call (kla_callFunE (by have:=R.depth;show A.depth<1000;omega) ho hdata Li.co Li.gen Li.body Li.code ?_)
 simp only[Li.bind v];refine wpAny_pure (wpAny_newFunctionEnv Li.nocell (λy m=>by rw[lq0 m];exact Li.par) (λh₁ hns hsb=>⟨(hlim.keeps g0).fresh _ hsb,?_⟩) Li.kind)
 generalize hE:newEnv fd.scope s.heap.objs.size fd.globals fd.closure (fd.qualname++".<locals>.") (some f) fd.code none fd.builtins=env
 have eloc:env.locals=s.heap.objs.size:=by rw[←hE];rfl
 have escope:env.scope=fd.scope:=by rw[←hE];rfl
 have ekind:∀x,env.kindOf x=fd.scope.names.lookup x:=λx=>by unfold Env.kindOf;rw[escope]
 have eframe:env.frame=some env.locals:=by rw[←hE];rfl
 have ecells:env.cells=[]:=by rw[←hE];exact Li.clo
 have g1:Av s.heap h₁:=λb o e=>(hsb.2 b (Nat.ne_of_lt (Heap.lt_size e))).trans (Heap.get?_push_of_some _ e)
 have z1:s.heap.objs.size<=h₁.objs.size:=by rw[hsb.1,Heap.size_push];exact Nat.le_succ _
 have I₁:Ci G {s with heap:=h₁,toks:=s.toks+[(x,v)].length} ρ σ:=I.grow g1 z1 _
 have nof:∀y,env.kindOf y=some .cell∨env.kindOf y=some .free->False:=λy h=>by
  rw[ekind]at h;rcases h with h|h
  ·exact Li.nocell _ (mem_of_lookup h) rfl
  ·exact Li.nofree _ (mem_of_lookup h) rfl
 have Fm:Hg G [x] [env.locals] env h₁ ρ (B9 Br 0 d):={
  kind:=by rw[escope];exact Li.kind
  glob:=by rw[←hE];exact Li.glob
  bi:=by rw[←hE];exact Li.bi
  ns:=⟨_,by rw[eloc];exact hns,λi y e k d' hd'=>by
   cases i with
   |zero=>
    cases e;simp only[B9,if_true]at hd'
    cases hd';exact⟨v,by simp[List.lookup],C9.mono g1.stb _ _ rv⟩
   |succ i=>cases e⟩
  cell:=λi y e k=>(nof y k).elim
  cok:=λy c e=>by rw[ecells]at e;cases e
  cinj:=λy z c e=>by rw[ecells]at e;cases e
  lrho:=by rw[eloc];exact I.size_notin
  lP:=List.mem_singleton.mpr rfl
  own:=λp mp=>⟨by rw[lq0 mp,eloc];exact I.h0_size,.inl (lq0 mp)⟩
  tnd:=by simp}
 obtain⟨fs,hfs⟩:=B.1;have hfr:(A.deeper env).frames=some (env::fs):=Around.frames_deeper hfs
 have hff:FF G h₁ ρ (env::fs):=λe me=>by
  rcases List.mem_cons.mp me with rfl|me
  ·apply yo;intro _ k0
   obtain⟨mm,n,_⟩:=Fm.ns;obtain⟨oL,es,ep,hoL,hdL,_⟩:=n;apply k0
   exact⟨by rw[escope,Li.kind];decide,e.locals,oL,es,ep,eframe,by rw[eloc];exact I.h0_size,Fm.lrho,hoL,hdL⟩
  ·exact(B.2 fs hfs).keep (Av.ev g1 z1) e me
 have K:Ok G ⟨fd.scope.names,[x],n,false,.none,""⟩ (A.deeper env) [env.locals] env {s with heap:=h₁,toks:=s.toks+[(x,v)].length} ρ ⟨B9 Br 0 d,σ⟩:={
  room:=⟨λ_=>R.hd,by have:=R.depth;show A.depth+1+n<=900;omega,by have:=R.units;show A.units+3+10*n<=9000;omega⟩
  sees:=⟨λx h=>(ekind x).trans h,λx h=>(ekind x).trans h,λx h=>.inr ((ekind x).trans h),λx h=>(ekind x).trans h⟩
  inv:=I₁
  frm:=Fm
  stk:=⟨⟨env,fs,env.locals,hfr,eframe,eframe⟩,λfs' e=>by rw[hfr]at e;cases e;exact hff⟩
  code:=.inl rfl
  qual:=.inl rfl}
 have hnb:m ⟨B9 Br 0 d,σ⟩≠.bot:=λz=>hbot (by unfold M4;dsimp only;rw[z])
 have back:∀{s':Shared}{ρ':List Addr},Ev [] h₁ ρ s'.heap ρ'->Ev [] s.heap ρ s'.heap ρ':=λx=>(Av.ev g1 z1).trans x
 refine kla_codeExpr (wpAny_mono (hb.run (A.deeper env) [env.locals] env _ ρ _ K hnb) (λw s' q=>?_) λw s' q=>?_)
 ·refine Fh.elim q λρ' d' σ' e I' x' r'=>?_
  exact⟨ρ',d',σ',by unfold M4;dsimp only;rw[e],I',back x',r'⟩
 ·obtain⟨ρ',c,σ',a',e,I',x',rfl,fl⟩:=q;have K':=K.step I' x';refine Om (n:=h₁.objs.size) K'.stk fl x'.size λh'' N T=>?_
  exact⟨ρ',c,σ',a',by unfold M4;dsimp only;rw[e],N.inv I' (λb z=>I₁.h0_le z) s'.toks,back (N.ev x'),rfl,T.fly.from z1⟩
noncomputable def H8 (kt:Nat) (T:Addr) (l c:Nat) (q:Str):Mn Unit:=λst=>match st.sto[kt]? with
 |some (.ctab T' l' c' q' k)=>if T'=T/\l'=l/\c'=c/\q'=q then(match k with
  |none=>.ok () ⟨st.loc,st.sto.set kt (.ctab T l c q (some st.sto.length))++[.code q]⟩
  |some k=>match st.sto[k]? with
   |some (.code q')=>if q'=q then .ok () st else .bot
   |_=>.bot)else .bot
 |_=>.bot
structure X9 (G:Gd) (c T:Addr):Prop where
 hd:CodeHd G.h0 c T
 bi:∃mg bm ob,G.h0.Ns mainGlobals mg∧mg "__builtins__"=some (.ref bm)∧bm≠builtinsNs∧G.h0.get? bm=some ob∧ob.cls=.type "module"∧ob.dict=some builtinsNs∧ob.data=.plain
 lim:G.h0.NoLimit
theorem M2{scope:Scope}(h:Gx scope.names=true) (env:Env):closureFor scope env=pure []:=by
 unfold closureFor;have go:∀(l:List (Str×NameKind)) (cs:List (Str×Addr)),Gx l=true->(forIn l cs λ(x:Str×NameKind) cs=>(if(x.2==NameKind.free)=true then(do let c ←cellOf env x.1;pure (ForInStep.yield ((x.1,c)::cs)))else pure (ForInStep.yield cs):Sem (ForInStep (List (Str×Addr)))))=pure cs:=by
  intro l
  induction l with
  |nil=>intro cs _;rfl
  |cons x l ih=>
   intro cs h;simp only[Gx,List.all_cons,Bool.and_eq_true]at h;have hx:(x.2==NameKind.free)=false:=by simpa using h.1
   rw[List.forIn_cons,hx];exact ih cs h.2
 have:=go scope.names [] h
 simp only[this,pure_bind]
theorem Ci.note(I:Ci G s ρ σ){kt:Nat}{T c':Addr}{l c:Nat}{q:Str}{h':Heap}(hk:ρ[kt]? =some T) (hx:Heap.ExtBut T s.heap h') (hge:s.heap.objs.size<=c') (hlt:c'<h'.objs.size) (hc:Uk h' c' q)
  (hT:h'.get? T=some (zFJ #[rawInt l,rawInt c,.ref c'])) (t:Nat):Ci G {s with heap:=h',toks:=t} (ρ++[c']) (σ.set kt (.ctab T l c q (some σ.length))++[.code q])/\Ev [] s.heap ρ h' (ρ++[c']):=by
 have hTm:T∈ρ:=List.mem_of_getElem? hk
 have hcr:c'∉ρ:=λm=>Nat.lt_irrefl _ (Nat.lt_of_lt_of_le (I.mem_lt m) hge)
 have hz:s.heap.objs.size<=h'.objs.size:=Nat.le_of_lt (Nat.lt_of_le_of_lt hge hlt)
 have keep:∀b o,b∉ρ->s.heap.get? b=some o->b∉ρ++[c']/\h'.get? b=some o:=λb o n e=>
  ⟨λm=>(List.mem_append.mp m).elim n λm=>Nat.lt_irrefl _ (Nat.lt_of_lt_of_le (Heap.lt_size e) (lq0 m▸hge)),hx b o (λz=>n (z▸hTm)) e⟩
 have S:Jg s.heap ρ h' (ρ++[c']):=⟨E6,λa _ n t=>let⟨k,e⟩:=t;let⟨n',e'⟩:=keep a _ n e;⟨n',k,e'⟩,λa _ n t=>let⟨o,e,r⟩:=t;let⟨n',e'⟩:=keep a o n e;⟨n',o,e',r⟩⟩
 refine⟨⟨λb o e=>hx b o (λz=>?_) (I.base b o e),λa m=>?_,?_,by simp[I.len],λk a o e1 e2=>?_,I.os,I.gens⟩,⟨E6,λb o e n _=>⟨o,(keep b o n e).2,.refl o⟩,λa m=>(List.mem_append.mp m).imp id λm=>(by rw[lq0 m];exact hge),hz⟩⟩
 ·rw[z,I.new T hTm]at e;cases e
 ·rcases List.mem_append.mp m with m|m
  ·exact I.new a m
  ·rw[lq0 m];exact I.h0_le hge
 ·refine List.nodup_append.mpr ⟨I.nodup,by simp,λa m b m' e=>?_⟩
  rw[lq0 m']at e;exact hcr (e▸m)
 ·by_cases hk':k<ρ.length
  ·rw[List.getElem?_append_left hk']at e1;rw[List.getElem?_append_left (by rw[List.length_set,←I.len];exact hk')]at e2
   by_cases hj:k=kt
   ·subst hj;rw[hk]at e1;cases e1;rw[List.getElem?_set_self (by rw[←I.len];exact hk')]at e2
    cases e2;exact⟨rfl,c',by rw[←I.len];simp,hT⟩
   ·rw[List.getElem?_set_ne (Ne.symm hj)]at e2;exact(I.sto k a o e1 e2).mono S (λo ho=>hx a o (λz=>hj (Bj I.nodup (z▸e1) hk)) ho) hz
  ·have hkl:=(lq2 e1).1;have:k=ρ.length:=by simp at hkl;omega
   subst this;rw[List.getElem?_append_right (by rw[List.length_set,I.len];exact Nat.le_refl _),List.length_set,I.len,Nat.sub_self]at e2
   simp at e1 e2
   subst e1 e2;exact hc
inductive zCc (G:Gd) (s:Shared) (ρ:List Addr) (st:St) (q:Str) (params:Arguments) (body:Expr) (scope:Scope) (r:Gq Unit) (v:Value) (s':Shared):Prop
 |mk (f:Addr) (ρ':List Addr) (σ':Bp) (pm ctv:Value) (c':Addr) (kc:Nat):v=.ref f→r=.ok () ⟨st.loc,σ'⟩→Ci G s' ρ' σ'→Ev [] s.heap ρ s'.heap ρ'→f∉ρ'→s'.heap.get? f=some (kla_obj (Str.ofString "<lambda>") q params body scope [] pm c' ctv)→ρ'[kc]? =some c'→σ'[kc]? =some (.code q)→
  zCc G s ρ st q params body scope r v s'
theorem Xu{c T:Addr}{kt:Nat}{q:Str}{params:Arguments}{body:Expr}{scope:Scope}{pos:Pos}{E:Value→Shared→Prop}(LG:X9 G c T) (K:Ok G C A P env s ρ st) (hcd:C.code=.ref c) (hq:C.qual++"<lambda>"=q) (hcl:Gx scope.names=true) (hdf:∀env,defaultsOf params env=([],[]))
  (hb:H8 kt T pos.line pos.col q st≠.bot):wpAny G.M A (eval (.Lambda params body scope pos) env) (λv s'=>zCc G s ρ st q params body scope (H8 kt T pos.line pos.col q st) v s') E s:=by
 have hec:env.code=.ref c:=(K.code.resolve_left (λz=>by rw[hcd]at z;cases z)).trans hcd
 have heq:env.qual++"<lambda>"=q:=by rw[K.qual.resolve_left (λz=>by rw[hcd]at z;cases z)];exact hq
 have I:=K.inv;obtain⟨mg,bm,ob,b0,b1,b2,b3,b4,b5,b6⟩:=LG.bi;have hgs:s.heap.Ns mainGlobals mg:=b0.keeps I.base
 refine kla_eval (hdf env) ?_
 rw[heq]
 cases e1:st.sto[kt]? with
 |none=>exact absurd (by unfold H8;rw[e1]) hb
 |some o=>
  cases o with
  |ctab T' l' c₁ q' k=>
   by_cases hh:T'=T/\l'=pos.line/\c₁=pos.col/\q'=q
   ·obtain⟨rfl,rfl,rfl,rfl⟩:=hh;obtain⟨a,ha⟩:∃a,ρ[kt]? =some a:=⟨_,List.getElem?_eq_getElem (by rw[I.len];exact(lq2 e1).1)⟩
    have ho:=I.sto kt a _ ha e1;obtain⟨rfl,ho⟩:=ho;have hTn:G.h0.get? a=none:=I.new a (List.mem_of_getElem? ha)
    have hgP:mainGlobals≠a:=λz=>by
     apply yo;intro _ k0
     obtain⟨o,es,ep,e,_⟩:=b0;apply k0
     rw[z,hTn]at e;cases e
    have hbP:bm≠a:=λz=>by rw[z,hTn]at b3;cases b3
    have hbG:bm≠mainGlobals:=λz=>by
     obtain⟨o,es,ep,e,hd,_⟩:=b0;rw[z,e]at b3;cases b3;rw[hd]at b6;cases b6
    have CH:CodeHd s.heap c a:=LG.hd.keeps I.base
    cases k with
    |none=>
     have hP:s.heap.get? a=some (tabObj #[]):=ho
     rw[makeFunction_eq];simp only[List.zip_nil_right,List.filterMap_nil,List.isEmpty_nil,if_true,pure_bind];unfold makeTail;rw[M2 hcl,K.frm.glob];refine wpAny_bind (wpAny_pure ?_)
     dsimp only[List.isEmpty_nil,if_true]
     refine wpAny_bind (wpAny_pure ?_)
     refine wpAny_bind (wpAny_functionCodeX hec (CH.code hP trivial) (CH.tab hP) rfl λc' h' tk hx hge hlt _ hrec htb hP'=>?_)
     apply yo;intro _ k0
     obtain⟨P',_,_,⟨⟨oc,vs,o1,o2,o3,_⟩,_⟩⟩:=hP';obtain⟨c₂,oc₂,vs₂,tq,z,y1,y2,y3⟩:=hrec;apply k0
     cases z;rw[o1]at y1;cases y1;have hg':=hgs.extBut hx hgP;refine wpAny_bind (wpAny_builtinsFor hg' b1 b2 (hx _ _ hbP (I.base _ _ b3)) b4 b5 b6 ?_)
     refine wpAny_bind (wpAny_nsGet hg' ?_)
     refine wpAny_bind (wpAny_pure (wpAny_newObj_type ?_ (by size_fits)))
     obtain⟨I1,x1⟩:=I.note (q:=q') (l:=pos.line) (c:=pos.col) ha hx hge hlt ⟨oc,vs₂,tq,o1,o2,y2,y3⟩ htb.2 tk
     have g2:=Av.push h' (kla_obj (Str.ofString "<lambda>") q' params body scope [] ((mg "__name__").getD .none) c' .none);refine⟨h'.objs.size,_,_,(mg "__name__").getD .none,.none,c',ρ.length,rfl,by unfold H8;rw[e1];simp,I1.grow g2 Am tk,x1.trans (g2.ev Am),I1.size_notin,Heap.get?_push_size _ rfl,by simp,by rw[I.len,List.getElem?_append_right (by rw[List.length_set];exact Nat.le_refl _)];simp⟩
    |some k=>
     obtain⟨c',hc',hP⟩:=ho;have hP:s.heap.get? a=some (tabObj #[rawInt pos.line,rawInt pos.col,.ref c']):=hP
     cases e2:st.sto[k]? with
     |none=>exact absurd (by unfold H8;rw[e1];dsimp only;rw[e2];simp) hb
     |some o2=>
      cases o2 with
      |code q₂=>
       by_cases hq2:q₂=q'
       ·subst hq2;refine kla_makeFunctionHit (mg:=mg) (M2 hcl env) K.frm.glob hgs hec CH hP (by trivial) (codeAmong_snoc [] trivial rfl) ⟨bm,ob,b1,b2,hbG,hbP,I.base _ _ b3,b4,b5,b6⟩ λctv h' tk hk hz=>?_
        have g2:=Av.push h' (kla_obj (Str.ofString "<lambda>") q₂ params body scope [] ((mg "__name__").getD .none) c' ctv);have I1:=I.grow (h':=h') hk hz tk;have g1:Ev [] s.heap ρ h' ρ:=Av.ev hk hz
        exact⟨h'.objs.size,_,_,(mg "__name__").getD .none,ctv,c',k,rfl,by unfold H8;rw[e1];dsimp only;rw[e2];simp,I1.grow g2 Am tk,g1.trans (g2.ev Am),I1.size_notin,Heap.get?_push_size _ rfl,hc',e2⟩
       ·exact absurd (by unfold H8;rw[e1];dsimp only;rw[e2];simp[hq2]) hb
      |_=>exact absurd (by unfold H8;rw[e1];dsimp only;rw[e2];simp) hb
   ·exact absurd (by unfold H8;rw[e1];dsimp only;rw[if_neg hh]) hb
  |_=>exact absurd (by unfold H8;rw[e1]) hb
theorem S4{c T:Addr}{kt:Nat}{q:Str}{params:Arguments}{body:Expr}{scope:Scope}{n:Nat}{x:Str}{m:Mn D}{e:Expr}{ms:Mn (List D)}{sp lp pos kp:Pos}(hs:E8 G (Str.ofString "sorted") (.builtin "sorted")) (hsn:C.names.lookup (Str.ofString "sorted")=some .globalImplicit)
  (LG:X9 G c T) (hcd:C.code=.ref c) (hq:C.qual++"<lambda>"=q) (hcl:Gx scope.names=true) (hce:∀y,y∈scope.names→y.2≠.cell) (hdf:∀env,defaultsOf params env=([],[])) (hk:scope.kind=.function) (hco:scope.isCoroutine=false) (hgen:scope.isGenerator=false) (hpar:scope.names.lookup x=some .local)
  (hbi:∀pm c' ctv v,bindArgs (kla_fn (Str.ofString "<lambda>") q params body scope [] pm (.ref c') ctv) ⟨[v],[]⟩=pure [(x,v)])
  (hm:SE G ⟨scope.names,[x],n,false,.none,""⟩ body m) (hC:C.inh=false) (hlv:n+2≤C.lvl) (he:SA G C [e] ms) (hst:∀env,starEach [e] env=[(false,eval e env)]):
  SE G C (.Call (.Name (Str.ofString "sorted") sp) [e] [⟨some (Str.ofString "key"),.Lambda params body scope lp,kp⟩] pos) (bnd ms λds=>bnd (H8 kt T lp.line lp.col q) λ_=>By (M4 m) ds):=.mk <| λA P env s ρ st K hb=>by
 refine wpAny_bind (Gb K hs hsn (by decide) ?_)
 have hev:backTo pos (starEach [e] env)=(false,eval e env)::backTo pos (starEach [] env):=by rw[hst];rfl
 have h1:=he.run A P env s ρ st pos K (An hb);refine callWith_kw (wpAny_mono h1 (λvs s' q'=>?_) λx s' q=>?_) hev (by rw[hev];rfl)
 ·refine Fh.elim q' λρ' ds σ' e' I' x' r=>?_
  have K':=K.step I' x';have e2:bnd ms (λds=>bnd (H8 kt T lp.line lp.col q) λ_=>By (M4 m) ds) st=bnd (H8 kt T lp.line lp.col q) (λ_=>By (M4 m) ds) ⟨st.loc,σ'⟩:=by unfold bnd;rw[e']
  rw[e2]at hb ⊢;refine kws_cons (wpAny_mono (Xu (kt:=kt) LG K' hcd hq hcl hdf (An hb)) (λv s2 q2=>?_) λ_ _ z=>z)
  obtain⟨f,ρ2,σ2,pm,ctv,c',kc,rfl,e3,I2,x2,hfn,hfo,hkc,hsc⟩:=q2;have K2:=K'.step I2 x2;refine kws_nil ?_
  have e4:bnd (H8 kt T lp.line lp.col q) (λ_=>By (M4 m) ds) ⟨st.loc,σ'⟩=By (M4 m) ds ⟨st.loc,σ2⟩:=by unfold bnd;rw[e3]
  rw[e4]at hb ⊢;have r2:=Au.mono (x2.stb I' .nil) _ _ r;refine wpAny_mono (P0 (n:=n+1) (λs3 x3=>?_) hC K2 hlv r2 hb) (λw s'' q=>?_) λw s'' q=>?_
  ·intro A3 env3 loc3 ds3 vs3 R3 I3 B3 r3 hb3;obtain⟨of,hof,hsame⟩:=x3.keep f _ hfo hfn (λm=>nomatch m)
   have hsf:V3 G (n+1) f (M4 m) s3 ρ2 σ2:=zDh (fd:=kla_fn (Str.ofString "<lambda>") q params body scope [] pm (.ref c') ctv) ⟨⟨of,hof,hsame.2.1⟩,rfl,rfl,rfl,rfl,hk,hco,hgen,hbi pm c' ctv,hpar,hce,λy my z=>by
    have:=List.all_eq_true.mp hcl y my
    rw[z]at this;simp at this,(let⟨oc,vs,t,y1,_,y3,y4⟩:=I3.sto kc c' _ hkc hsc;⟨c',oc,vs,t,rfl,y1,y3,y4⟩)⟩ LG.lim hm
   exact hsf A3 env3 loc3 ds3 vs3 R3 I3 B3 r3 hb3
  ·exact Fh.tr (Fh.tr q x2) x'
  ·exact Bc.tr (Bc.tr q x2) x'
 ·exact Bc.bnd q
end
end
noncomputable def ob {α β:Type}(o:Option α) (f:α->Option β):Option β:=match o with
 |some a=>f a
 |none=>none
theorem zB5{α β:Type}{o:Option α}{f:α->Option β}{b:β}(h:ob o f=some b):∃a,o=some a/\f a=some b:=by
 cases o with
 |none=>cases h
 |some a=>exact⟨a,rfl,h⟩
theorem Ak{α β:Type}{o:Option α}{f:α->Option β}{b:β}{P:Prop}(h:ob o f=some b) (k:∀a,o=some a->f a=some b->P):P:=let⟨a,x,y⟩:=zB5 h;k a x y
noncomputable def gd {α:Type}(c:Bool) (o:Option α):Option α:=match c with
 |true=>o
 |false=>none
theorem Bx{α:Type}{c:Bool}{o:Option α}{a:α}{P:Prop}(h:gd c o=some a) (k:c=true->o=some a->P):P:=by
 cases c with
 |true=>exact k rfl h
 |false=>cases h
theorem Ah{α:Type}{a b:α}{P:α->Prop}(h:some a=some b) (k:P a):P b:=by cases h;exact k
theorem Aw{α:Type}{b:α}{P:Prop}(h:none=some b):P:=by cases h
theorem B7{a b:Bool}{P:Prop}(h:(a&&b)=true) (k:a=true->b=true->P):P:=by
 cases a with
 |true=>exact k rfl h
 |false=>cases h
theorem Bv{b:Bool}(h:(!b)=true):b=false:=by cases b<;>first|rfl|cases h
noncomputable def O7 (x:Str):List Str->Option Nat
 |[]=>none
 |y::r=>match y==x with
  |true=>some 0
  |false=>ob (O7 x r) λi=>some (i+1)
theorem Dr{x:Str}:∀{l:List Str}{i:Nat},O7 x l=some i->l[i]? =some x
 |[],i,h=>by cases h
 |y::r,i,h=>by
  have h:(match y==x with|true=>some 0|false=>ob (O7 x r) λi=>some (i+1))=some i:=h
  cases e:y==x with
  |true=>rw[e]at h;cases h;simp[beq_iff_eq.mp e]
  |false=>rw[e]at h;exact Ak h λj hj h=>Ah (P:=λi=>(y::r)[i]? =some x) h (by simpa using Dr hj)
noncomputable def C6 (e:Expr):Bool:=!(Nat.beq e.ctorIdx 22)
theorem C8{e:Expr}{es:List Expr}(h:C6 e=true) (env:Env):starEach (e::es) env=(false,eval e env)::starEach es env:=by cases e<;>first|rfl|cases h
theorem Lm{e:Expr}{es:List Expr}(h:C6 e=true) (env:Env):assignEach (e::es) env=(false,assign e env)::assignEach es env:=by cases e<;>first|rfl|cases h
theorem G2{pos:Pos}(env:Env):∀{es:List Expr},es.all C6=true->(backTo pos (starEach es env)).any (·.1)=false
 |[],_=>rfl
 |e::es,h=>B7 h λh1 h2=>by
  rw[C8 h1];show(false||(backTo pos (starEach es env)).any (·.1))=false
  rw[Bool.false_or];exact G2 env h2
theorem Qq{pos:Pos}(env:Env):∀{es:List Expr},es.all C6=true->(backTo pos (starEach es env)).all (!·.1)=true
 |[],_=>rfl
 |e::es,h=>B7 h λh1 h2=>by
  rw[C8 h1];show(true&&(backTo pos (starEach es env)).all (!·.1))=true
  rw[Bool.true_and];exact Qq env h2
theorem T5{pos:Pos}(env:Env){es:List Expr}(h:es.all C6=true) (hl:decide (es.length<30)=true):methodCallForm (es.length+([]:List Keyword).length) (backTo pos (starEach es env)) (backToKw pos (keywordEach [] env))=true:=by
 unfold methodCallForm;rw[Qq env h];exact hl
noncomputable def Sq (e:Expr):Bool:=!(Nat.beq e.ctorIdx 7)
theorem Ow{e:Expr}(h:Sq e=true) (env:Env) (x:Value):foldedSetIterable e env x=pure x:=by cases e<;>first|rfl|cases h
noncomputable def Ip (e:Expr):Bool:=!(Nat.beq e.ctorIdx 8||Nat.beq e.ctorIdx 9||Nat.beq e.ctorIdx 10)
theorem K4{e:Expr}(h:Ip e=true) (t:Option Expr) (l:Nat) (env:Env):swapsWith e t l env=pure false:=by cases e<;>first|rfl|cases h
noncomputable def zDs:Expr->Option (Expr×List Expr×List Keyword)
 |.Call f as ks _=>some (f,as,ks)
 |_=>none
noncomputable def Os (e:Expr):Bool:=match zDs e with
 |some q=>!q.2.1.isEmpty
 |none=>true
theorem Q4{o:Expr}{name:Str}(h:Os o=true) (env:Env):attributeBase o name env (eval o env)=eval o env:=by
 generalize eval o env=w
 cases o with
 |Call f as ks p=>
  cases as with
  |nil=>cases h
  |cons a r=>cases f<;>rfl
 |_=>rfl
noncomputable def Lk (e:Expr):Bool:=!(Nat.beq e.ctorIdx 0||Nat.beq e.ctorIdx 3||Nat.beq e.ctorIdx 5||Nat.beq e.ctorIdx 15)
theorem zBO{e:Expr}(h:Lk e=true) (env:Env) (w:Sem Value):isTrue e env w=(do let v ←w;standAt e.pos;holding [v] (truthy v)):=by
 cases e<;>first|rfl|cases h
noncomputable def Qe (e:Expr):Bool:=!(Nat.beq e.ctorIdx 26)
theorem zBA{e:Expr}(h:Qe e=true) (o i:Value):subscripted e false o i=operate [o,i] (getItem o i):=by cases e<;>first|rfl|cases h
noncomputable def Lb:Expr->Option Str
 |.Name x _=>some x
 |_=>none
structure Wc where
 e:Cx->Expr->Option (Mn D)
 b:Cx->Expr->Option (Mn Bool)
 s:Cx->List Stmt->Option (Mn Fl)
structure Cb (G:Gd) (X:Wc):Prop where
 e:∀C x m,X.e C x=some m->SE G C x m
 b:∀C x m,X.b C x=some m->SB G C x m
 s:∀C x m,X.s C x=some m->Uc G C x m
structure Tb where
 fns:List (Str×(Addr×Nat×(List D->Mn D)))
 nums:List (Str×Int)
 bf:List (Str×(String×(List D->Mn D)))
 tv:List (Str×(String×(List D->Mn D)))
 ts:List (Str×(String×Bool×(List D->Mn Gz)))
 sm:List (Str×(String×(Str->List D->Mn D)))
 ty:List (Str×String)
 bin:Operator->Option (D->D->Mn D)
 cmp:CmpOp->Option (D->D->Mn D)
 me:Str->Mn D->List (Mn D)->Option (Mn D)
 so:(List D->Mn D)->Option (List D->Mn D)
 sl:(Cx->Expr->Option (Mn D))->Cx->Expr->Option (List D->Mn D)
 xe:Wc->Cx->Expr->Option (Mn D)
 xs:Wc->Cx->Stmt->Option (Mn Fl)
noncomputable def Ue (e:Expr):Bool:=Nat.beq e.ctorIdx 25
noncomputable def Y1 (G:Gd) (F F':List D→Mn D):Prop:=∀(C:Cx) (g:Str) (f:Addr) (n:Nat) (e:Expr) (ms:Mn (List D)) (sp np pos kp:Pos),C.names.lookup (Str.ofString "sorted")=some .globalImplicit→G9 G g (.ref f)→C.names.lookup g=some .globalImplicit→(g==("__debug__":Str))=false→SF G n f F→C.inh=false→n+1≤C.lvl→SA G C [e] ms→(∀env,starEach [e] env=[(false,eval e env)])→
 SE G C (.Call (.Name (Str.ofString "sorted") sp) [e] [⟨some (Str.ofString "key"),.Name g np,kp⟩] pos) (bnd ms F')
theorem Vp{G:Gd}{F F':List D→Mn D}(hs:E8 G (Str.ofString "sorted") (.builtin "sorted")) (h:some (By F)=some F'):Y1 G F F':=λC g f n e ms sp np pos kp h1 h2 h3 h4 h5 h6 h7 h8 h9=>by
 obtain rfl:=Option.some.inj h;exact Uq hs h1 h2 h3 h4 h5 h6 h7 h8 h9
structure Cq (G:Gd) (T:Tb):Prop where
 fns:∀f a n F,T.fns.lookup f=some (a,n,F)->G9 G f (.ref a)/\(∃o fd,G.h0.get? a=some o/\o.data=.func fd)/\SF G n a F
 nums:∀x i,T.nums.lookup x=some i->∃t,G9 G x (.int i t)
 bf:∀f n F,T.bf.lookup f=some (n,F)->E8 G f (.builtin n)/\BF G n F
 tv:∀f n F,T.tv.lookup f=some (n,F)->E8 G f (.type n)/\TF G n F
 ts:∀f n b F,T.ts.lookup f=some (n,b,F)->E8 G f (.type n)/\∃tg,Sd G n tg F/\∀t,(!b||Ue t)=true->tg t
 sm:∀f n F,T.sm.lookup f=some (n,F)->SM G f n F
 ty:∀f n,T.ty.lookup f=some n->E8 G f (.type n)/\zA2 n
 isi:E8 G (Str.ofString "isinstance") (.builtin "isinstance")
 bin:∀op f,T.bin op=some f->Gj G op f
 cmp:∀op f,T.cmp op=some f->Fc G op f
 me:∀C o as name mo ms m apos pos,SE G C o mo->Bs (λa m=>SE G C a m) as ms->T.me name mo ms=some m->Os o=true->as.all C6=true->decide (as.length<30)=true->(apos.endLine==pos.line)=true->SE G C (.Call (.Attribute o name apos) as [] pos) m
 so:∀F F',T.so F=some F'->Y1 G F F'
 sl:∀X C v F e ms sp pos kp,(∀C x m,X C x=some m→SE G C x m)→T.sl X C v=some F→C.names.lookup (Str.ofString "sorted")=some .globalImplicit→SA G C [e] ms→(∀env,starEach [e] env=[(false,eval e env)])→
  SE G C (.Call (.Name (Str.ofString "sorted") sp) [e] [⟨some (Str.ofString "key"),v,kp⟩] pos) (bnd ms F)
 xe:∀X C e m,Cb G X->T.xe X C e=some m->SE G C e m
 xs:∀X C t m,Cb G X->T.xs X C t=some m->SS G C t m
noncomputable def Jl (C:Cx) (x:Str):Bool:=match C.names.lookup x with
 |some .globalImplicit=>true
 |_=>false
theorem Et{C:Cx}{x:Str}(h:Jl C x=true):C.names.lookup x=some .globalImplicit:=by
 unfold Jl at h
 cases e:C.names.lookup x with
 |none=>rw[e]at h;cases h
 |some k=>rw[e]at h;cases k<;>first|rfl|cases h
noncomputable def zCr (T:Tb) (C:Cx) (x:Str):NameKind->Option (Mn D)
 |.local=>ob (O7 x C.tbl) λi=>some (A0 i)
 |.cell=>gd (!(x==("__classdict__":Str))) (ob (O7 x C.tbl) λi=>some (A0 i))
 |.free=>gd (!(x==("__classdict__":Str))) (ob (O7 x C.tbl) λi=>some (A0 i))
 |.globalImplicit=>ob (T.nums.lookup x) λi=>some (ret1 (.int i))
 |_=>none
noncomputable def zCv (T:Tb) (C:Cx) (x:Str):Option (Mn D):=gd (!(x==("__debug__":Str))) (ob (C.names.lookup x) (zCr T C x))
section
variable (T:Tb) (X:Wc) (C:Cx)
noncomputable def Hx:List Expr->Option (Mn (List D))
 |[]=>some Ai
 |e::es=>gd (C6 e) (ob (X.e C e) λm=>ob (Hx es) λms=>some (A6 m ms))
noncomputable def Y6:List Expr->Option (List (Mn D))
 |[]=>some []
 |e::es=>ob (X.e C e) λm=>ob (Y6 es) λms=>some (m::ms)
noncomputable def zF4 (b:Bool) (x:Str):NameKind->Option (D->Be->Option Be)
 |.local=>ob (O7 x C.tbl) λi=>some (Aj i)
 |.cell=>gd b (ob (O7 x C.tbl) λi=>some (Aj i))
 |_=>none
noncomputable def zAl (b:Bool) (e:Expr):Option (D->Be->Option Be):=ob (Lb e) λx=>ob (C.names.lookup x) (zF4 C b x)
noncomputable def Xa (b:Bool):List Expr->Option (List D->Be->Option Be)
 |[]=>some Dt
 |t::r=>ob (zAl C b t) λf=>ob (Xa b r) λg=>some (Ay f g)
noncomputable def zD0 (b:Bool):Expr->Option (D->Be->Option Be)
 |.Tuple ts _ _=>gd (!C.inh) (ob (Xa C b ts) λf=>some (Ga ts.length f))
 |.Name x p=>zAl C b (.Name x p)
 |_=>none
noncomputable def zFz (tgt:Expr) (as:List Expr) (f:Str):Option (String×Bool×(List D->Mn Gz))->Option (Mn Gz)
 |some (_,b,F)=>gd (!C.inh&&(!b||Ue tgt)&&!(f==("__debug__":Str))&&Jl C f&&as.all C6&&!as.isEmpty) (ob (Hx X C as) λms=>some (bnd ms F))
 |none=>none
noncomputable def Si:Expr->Option (Str×List Expr)
 |.Call (.Name f _) as [] _=>some (f,as)
 |_=>none
noncomputable def zBU (tgt e:Expr):Option (Mn Gz):=match ob (Si e) λp=>ob (T.ts.lookup p.1) λq=>some (p,q)with
 |some (p,q)=>zFz X C tgt p.2 p.1 (some q)
 |none=>ob (X.e C e) λm=>some (bnd m Ba)
noncomputable def zFC:List Expr->Option (Mn Bool)
 |[]=>some (ret1 true)
 |c::r=>gd r.isEmpty (X.b C c)
noncomputable def Ig (names:List (Str×NameKind)):Nat->List Str->List Nat
 |_,[]=>[]
 |i,x::r=>bif names.lookup x==some .local then i::Ig names (i+1) r else Ig names (i+1) r
noncomputable def zFh (elt:Expr) (gs:List Comprehension) (scope:Scope):Option (Mn D):=match gs with
 |[]=>none
 |g::r=>gd (!C.inh&&r.isEmpty&&g.is_async==0&&Yp C scope (Ig scope.names 0 C.tbl)&&Sq g.iter)
  (ob (zBU T X C g.target g.iter) λmi=>ob (zD0 ⟨scope.names,C.tbl,C.lvl,C.inh,C.code,C.qual⟩ false g.target) λtf=>ob (zFC X ⟨scope.names,C.tbl,C.lvl,C.inh,C.code,C.qual⟩ g.ifs) λmt=>ob (X.e ⟨scope.names,C.tbl,C.lvl,C.inh,C.code,C.qual⟩ elt) λme=>some (bnd mi (Bm (Ig scope.names 0 C.tbl) tf mt me)))
noncomputable def zGG:BoolOp->Mn D->Mn D->Mn D
 |.And=>R0
 |.Or=>zGN
noncomputable def zFl:BoolOp->Mn Bool->Mn Bool->Mn Bool
 |.And=>V4
 |.Or=>zF7
noncomputable def zGJ (op:BoolOp):List Expr->Option (Mn D)
 |[]=>none
 |e::r=>match r with
  |[]=>X.e C e
  |_::_=>ob (X.e C e) λm=>ob (zGJ op r) λn=>some (zGG op m n)
noncomputable def zGC (op:BoolOp):List Expr->Option (Mn Bool)
 |[]=>none
 |e::r=>match r with
  |[]=>X.b C e
  |_::_=>ob (X.b C e) λm=>ob (zGC op r) λn=>some (zFl op m n)
noncomputable def zEU:Option Expr->Option (Option (Mn D))
 |none=>some none
 |some e=>ob (X.e C e) λm=>some (some m)
noncomputable def zEp (f:Str) (as:List Expr):Option (Mn D):=match as with
 |a::t::r=>gd (f==Str.ofString "isinstance"&&r.isEmpty) (ob (Lb t) λt=>gd (Jl C t&&!(t==("__debug__":Str))) (ob (T.ty.lookup t) λtn=>ob (X.e C a) λm=>some (bnd m (Pr tn))))
 |_=>none
noncomputable def Yv (f:Str) (as:List Expr):Option (Mn D):=match T.fns.lookup f with
 |some (_,n,F)=>gd (!C.inh&&decide (n<=C.lvl)) (ob (Hx X C as) λms=>some (bnd ms F))
 |none=>match T.bf.lookup f with
  |some (_,F)=>gd (!C.inh) (ob (Hx X C as) λms=>some (bnd ms F))
  |none=>match T.tv.lookup f with
   |some (_,F)=>ob (Hx X C as) λms=>some (bnd ms F)
   |none=>zEp T X C f as
noncomputable def zDB (f:Str) (as:List Expr) (v:Expr):Option Str->Option (Mn D)
 |some g=>gd (Jl C g&&!(g==("__debug__":Str))) (ob (T.fns.lookup g) λp=>gd (!C.inh&&decide (p.2.1+1≤C.lvl)) (ob (T.so p.2.2) λF=>ob (Hx X C as) λms=>some (bnd ms F)))
 |none=>ob (T.sl X.e C v) λF=>ob (Hx X C as) λms=>some (bnd ms F)
noncomputable def zCi (f:Str) (as:List Expr) (k:Keyword):Option (Mn D):=
 gd (f==Str.ofString "sorted"&&Jl C f&&k.arg==some (Str.ofString "key")&&as.length==1&&as.all C6) (zDB T X C f as k.value (Lb k.value))
noncomputable def zCw (f:Str) (as:List Expr):List Keyword->Option (Mn D)
 |[]=>gd (!(f==("__debug__":Str))&&Jl C f&&as.all C6&&!as.isEmpty) (Yv T X C f as)
 |k::r=>gd r.isEmpty (zCi T X C f as k)
noncomputable def Xj (o:Expr) (name:Str) (as:List Expr):Option (Mn D):=match T.sm.lookup name with
 |some (_,F)=>gd (!as.isEmpty) (ob (X.e C o) λm=>ob (Hx X C as) λms=>some (bnd m (El λx=>bnd ms (F x))))
 |none=>ob (X.e C o) λm=>ob (Y6 X C as) λms=>T.me name m ms
noncomputable def zAE:Const->Option (Mn D)
 |.int i=>some (ret1 (.int i))
 |.str x=>some (ret1 (.str x))
 |.bool b=>some (ret1 (.bool b))
 |.none=>some (ret1 .none)
 |_=>none
noncomputable def zGT (e:Expr):UnaryOp->Option (Mn D)
 |.Not=>ob (X.e C e) λm=>some (zF5 m)
 |.USub=>ob (X.e C e) λm=>some (bnd m zAi)
 |_=>none
noncomputable def zF9 (l:Expr) (ops:List CmpOp) (rs:List Expr):Option (Mn D):=match ops with
 |op::o'=>(match rs with
  |r::r'=>gd (o'.isEmpty&&r'.isEmpty&&!behindInMarks op r) (ob (T.cmp op) λf=>ob (X.e C l) λa=>ob (X.e C r) λb=>some (Ab f a b))
  |[]=>none)
 |[]=>none
noncomputable def P6:Expr->Option (Option Expr×Option Expr)
 |.Slice lo hi st _=>gd st.isNone (some (lo,hi))
 |_=>none
noncomputable def zDo (v sl:Expr):Option (Mn D):=match P6 sl with
 |some p=>ob (X.e C v) λm=>ob (zEU X C p.1) λml=>ob (zEU X C p.2) λmh=>some (Eo m ml mh)
 |none=>gd (Qe sl) (ob (X.e C v) λm=>ob (X.e C sl) λi=>some (Ab Ag m i))
noncomputable def zFj (f:Expr) (as:List Expr) (ks:List Keyword) (pos:Pos):Option (Mn D):=match f with
 |.Name x _=>zCw T X C x as ks
 |.Attribute o name apos=>gd (ks.isEmpty&&Os o&&as.all C6&&decide (as.length<30)&&apos.endLine==pos.line) (Xj T X C o name as)
 |_=>none
noncomputable def zDE:Expr->Option (Mn D)
 |.Constant c _ _=>zAE c
 |.Name x _=>zCv T C x
 |.BinOp l op r _=>ob (T.bin op) λf=>ob (X.e C l) λa=>ob (X.e C r) λb=>some (Ab f a b)
 |.UnaryOp op e _=>zGT X C e op
 |.BoolOp op es _=>zGJ X C op es
 |.Compare l ops rs _=>zF9 T X C l ops rs
 |.Subscript v sl _=>zDo X C v sl
 |.List es _=>ob (Hx X C es) λms=>some (D1 ms)
 |.Tuple es _ _=>ob (Hx X C es) λms=>some (Ek ms)
 |.ListComp elt gs scope _=>zFh T X C elt gs scope
 |.Call f as ks pos=>match zFj T X C f as ks pos with
  |some m=>some m
  |none=>T.xe X C (.Call f as ks pos)
 |e=>T.xe X C e
noncomputable def zGL (e:Expr) (p:Pos):UnaryOp->Option (Mn Bool)
 |.Not=>ob (X.b C e) λm=>some (zFa m)
 |op=>ob (X.e C (.UnaryOp op e p)) λm=>some (bnd m Cf)
noncomputable def zFQ (l r:Expr) (op:CmpOp):Option (Mn Bool):=gd (!behindInMarks op r) (ob (T.cmp op) λf=>ob (X.e C l) λa=>ob (X.e C r) λb=>some (Dl f a b))
noncomputable def zEr (l r q:Expr) (op op':CmpOp):Option (Mn Bool):=gd (!lastMarks [op,op'] [r,q]) (ob (T.cmp op) λf=>ob (T.cmp op') λg=>ob (X.e C l) λa=>ob (X.e C r) λb=>ob (X.e C q) λc=>some (zEv f g a b c))
noncomputable def zEf (l:Expr) (ops:List CmpOp) (rs:List Expr):Option (Mn Bool):=match ops with
 |[]=>none
 |op::o1=>(match rs with
  |[]=>none
  |r::r1=>(match o1 with
   |[]=>(match r1 with
    |[]=>zFQ T X C l r op
    |_::_=>none)
   |op'::o2=>(match o2 with
    |_::_=>none
    |[]=>(match r1 with
     |[]=>none
     |q::r2=>(match r2 with
      |_::_=>none
      |[]=>zEr T X C l r q op op')))))
noncomputable def zCa:Expr->Option (Mn Bool)
 |.UnaryOp op e p=>zGL X C e p op
 |.BoolOp op es _=>zGC X C op es
 |.Compare l ops rs _=>zEf T X C l ops rs
 |e=>gd (Lk e) (ob (X.e C e) λm=>some (bnd m Cf))
noncomputable def zFY (k:NameKind) (x:Str) (np:Pos) (i:Nat) (e:Expr):Option (Mn Fl):=match e with
 |.ListComp elt gs scope cpos=>gd (match k with
   |.local=>(np.line==cpos.line)&&!(scope.names.any λp=>p.1==x&&(p.2== .local||p.2== .cell))
   |_=>true) (ob (zFh T X C elt gs scope) λm=>some (bnd m (Af i)))
 |e=>gd (Ip e) (ob (X.e C e) λm=>some (bnd m (Af i)))
noncomputable def zEq (x:Str) (np:Pos) (e:Expr):NameKind->Option (Mn Fl)
 |.local=>ob (O7 x C.tbl) λi=>zFY T X C .local x np i e
 |.cell=>ob (O7 x C.tbl) λi=>zFY T X C .cell x np i e
 |_=>none
noncomputable def zGI (e:Expr):Expr->Option (Mn Fl)
 |.Name x np=>ob (C.names.lookup x) (zEq T X C x np e)
 |_=>none
noncomputable def zCQ (e:Expr):List Expr->Option (Mn Fl)
 |[]=>none
 |t::r=>gd r.isEmpty (zGI T X C e t)
noncomputable def stepS:Stmt->Option (Mn Fl)
 |.Return v _=>ob v λe=>ob (X.e C e) λm=>some (E1 m)
 |.Expr e _=>gd (Ip e) (ob (X.e C e) λm=>some (bnd m Dg))
 |.Pass _=>some (ret1 .next)
 |.Break _=>some (ret1 .brk)
 |.Continue _=>some (ret1 .cont)
 |.If t a b _=>ob (X.b C t) λmt=>ob (X.s C a) λma=>ob (X.s C b) λmb=>some (Iv mt ma mb)
 |.For t i b o _=>gd (!C.inh&&Sq i&&o.isEmpty) (ob (zBU T X C t i) λmi=>ob (zD0 C true t) λtf=>ob (X.s C b) λmb=>some (bnd mi λsrc=>Bq tf src.g mb src.ds))
 |.Assign ts e p=>match zCQ T X C e ts with
  |some m=>some m
  |none=>T.xs X C (.Assign ts e p)
 |t=>T.xs X C t
noncomputable def zDu:List Stmt->Option (Mn Fl)
 |[]=>some (ret1 .next)
 |t::r=>ob (stepS T X C t) λm=>ob (zDu r) λn=>some (Ae m n)
end
noncomputable def zFf (T:Tb):Nat->Wc
 |0=>⟨λ_ _=>none,λ_ _=>none,λ_ _=>none⟩
 |n+1=>⟨λC e=>zDE T (zFf T n) C e,λC e=>zCa T (zFf T n) C e,λC l=>zDu T (zFf T n) C l⟩
section
variable {G:Gd}{T:Tb}{X:Wc}{C:Cx}
theorem Fs(hX:Cb G X){es:List Expr}:∀{ms:Mn (List D)},Hx X C es=some ms->SA G C es ms:=by
 induction es with
 |nil=>intro ms h;exact Ah (P:=SA G C []) h zAB
 |cons e es ih=>intro ms h;exact Bx h λh1 h=>Ak h λm h2 h=>Ak h λms' h3 h=>Ah (P:=SA G C (e::es)) h (Tq (hX.e _ _ _ h2) (ih h3) (C8 h1))
theorem zA5(hX:Cb G X){es:List Expr}:∀{ms:List (Mn D)},Y6 X C es=some ms->Bs (λa m=>SE G C a m) es ms:=by
 induction es with
 |nil=>intro ms h;exact Ah (P:=Bs _ []) h .nil
 |cons e es ih=>intro ms h;exact Ak h λm h2 h=>Ak h λms' h3 h=>Ah (P:=Bs _ (e::es)) h (.cons (hX.e _ _ _ h2) (ih h3))
theorem zBP{b:Bool}{x:Str}{p:Pos}{k:NameKind}{f:D->Be->Option Be}(hx:C.names.lookup x=some k) (h:zF4 C b x k=some f):ST G C b (.Name x p) f:=by
 cases k with
 | «local» =>exact Ak h λi hi h=>Ah (P:=ST G C b (.Name x p)) h (zC0 (Dr hi) hx)
 |cell=>exact Bx h λhb h=>Ak h λi hi h=>Ah (P:=ST G C b (.Name x p)) h (by subst hb;exact Zg (Dr hi) hx)
 |_=>exact Aw h
theorem Pz{e:Expr}{x:Str}(h:Lb e=some x):∃p,e=.Name x p:=by
 cases e with
 |Name y p=>cases h;exact⟨p,rfl⟩
 |_=>exact Aw h
theorem Tz{b:Bool}{t:Expr}{f:D->Be->Option Be}(h:zAl C b t=some f):ST G C b t f/\C6 t=true:=by
 refine Ak h λx hx h1=>?_
 obtain⟨p,rfl⟩:=Pz hx;exact Ak h1 λk hk h=>⟨zBP hk h,rfl⟩
theorem zC6{b:Bool}{ts:List Expr}:∀{f:List D->Be->Option Be},Xa C b ts=some f->zD1 G C b ts f/\ts.all C6=true:=by
 induction ts with
 |nil=>intro f h;exact Ah (P:=λf=>zD1 G C b [] f/\_) h ⟨zCV,rfl⟩
 |cons t r ih=>
  intro f h;refine Ak h λg h1 h=>Ak h λk h2 h=>Ah (P:=λf=>zD1 G C b (t::r) f/\_) h ?_
  have i:=ih h2;have j:=Tz (G:=G) h1;exact⟨Xy j.1 i.1 (Lm j.2),by rw[List.all_cons,j.2,i.2];rfl⟩
theorem Rn(env:Env){ts:List Expr}(h:ts.all C6=true):(assignEach ts env).length=ts.length/\(assignEach ts env).findIdx? (·.1)=none:=by
 induction ts with
 |nil=>exact⟨rfl,rfl⟩
 |cons t r ih=>
  refine B7 h λh1 h2=>?_
  have i:=ih h2;rw[Lm h1];exact⟨congrArg Nat.succ i.1,by rw[List.findIdx?_cons,i.2];rfl⟩
theorem X2{b:Bool}{t:Expr}{f:D->Be->Option Be}(h:zD0 C b t=some f):ST G C b t f:=by
 cases t with
 |Tuple ts k p=>exact Bx h λhc h=>Ak h λg h1 h=>Ah (P:=ST G C b (.Tuple ts k p)) h (let i:=zC6 (G:=G) h1;X8 (Bv hc) i.1 (λenv=>(Rn env i.2).1) λenv=>(Rn env i.2).2)
 |Name x p=>exact(Tz (show zAl C b (.Name x p)=some f from h)).1
 |_=>exact Aw h
theorem Xm(ok:Cq G T){x:Str}{pos:Pos}{k:NameKind}{m:Mn D}(hd:(x==("__debug__":Str))=false) (hx:C.names.lookup x=some k) (h:zCr T C x k=some m):SE G C (.Name x pos) m:=by
 cases k with
 | «local» =>exact Ak h λi hi h=>Ah (P:=SE G C (.Name x pos)) h (Zj (Dr hi) hx hd)
 |cell=>exact Bx h λhn h=>Ak h λi hi h=>Ah (P:=SE G C (.Name x pos)) h (Ta (Dr hi) (.inl hx) hd (Bv hn))
 |free=>exact Bx h λhn h=>Ak h λi hi h=>Ah (P:=SE G C (.Name x pos)) h (Ta (Dr hi) (.inr hx) hd (Bv hn))
 |globalImplicit=>exact Ak h λi hi h=>Ah (P:=SE G C (.Name x pos)) h (Z7 (ok.nums _ _ hi) hx hd)
 |_=>exact Aw h
theorem zC1(ok:Cq G T){x:Str}{pos:Pos}{m:Mn D}(h:zCv T C x=some m):SE G C (.Name x pos) m:=
 Bx h λhd h=>Ak h λk hk h=>Xm ok (Bv hd) hk h
theorem zBC{e:Expr}{f:Str}{as:List Expr}(h:Si e=some (f,as)):∃np pos,e=.Call (.Name f np) as [] pos:=by
 cases e with
 |Call g bs ks p=>cases g with
  |Name x np=>cases ks with
   |nil=>cases h;exact⟨_,_,rfl⟩
   |cons _ _=>exact Aw h
  |_=>exact Aw h
 |_=>exact Aw h
theorem O0{α:Type}{l:List α}{P:Prop}(h:(!l.isEmpty)=true) (k:∀a r,l=a::r->P):P:=by
 cases l with
 |nil=>cases h
 |cons a r=>exact k a r rfl
theorem zAW(ok:Cq G T) (hX:Cb G X){t e:Expr}{m:Mn Gz}(h:zBU T X C t e=some m):∃tg,SI G C e tg m/\tg t:=by
 unfold zBU at h
 cases q:ob (Si e) λp=>ob (T.ts.lookup p.1) λq=>some (p,q)with
 |none=>rw[q]at h;exact Ak h λm' h1 h=>Ah (P:=λm=>∃tg,SI G C e tg m/\tg t) h ⟨_,zDq (hX.e _ _ _ h1),trivial⟩
 |some r=>
  rw[q]at h;refine Ak q λp hp q=>Ak q λs hs q=>?_
  cases q;obtain⟨f,as⟩:=p;obtain⟨n,b,F⟩:=s;obtain⟨np,pos,rfl⟩:=zBC hp;refine Bx h λhc h=>B7 hc λhc h6=>B7 hc λhc h5=>B7 hc λhc h4=>B7 hc λhc h3=>B7 hc λh1 h2=>Ak h λms h7 hz=>?_
  clear h;obtain⟨hb,tg,hF,ht⟩:=ok.ts _ _ _ _ hs;exact O0 h6 λa r e=>by
   cases e;exact B7 h5 λs1 s2=>Ah (P:=λm=>∃tg,SI G C _ tg m/\tg t) hz ⟨tg,Y3 hb (Et h4) (Bv h3) (Bv h1) hF (Fs hX h7) (C8 s1) (λenv=>G2 env s2),ht t h2⟩
theorem Gn{α:Type}{l:List α}(h:l.isEmpty=true):l=[]:=by cases l<;>first|rfl|cases h
theorem zEH(hX:Cb G X){ifs:List Expr}{m:Mn Bool}(h:zFC X C ifs=some m):Pe G C ifs m:=by
 cases ifs with
 |nil=>exact Ah (P:=Pe G C []) h zBt
 |cons c r=>exact Bx h λhr h=>by rw[Gn hr];exact zBm (hX.b _ _ _ h)
inductive zEV (G:Gd) (C:Cx) (elt:Expr) (gs:List Comprehension) (scope:Scope) (m:Mn D):Prop
 |mk (t i:Expr) (f:List Expr) (tg:Expr->Prop) (mi:Mn Gz) (tf:D->Be->Option Be) (mt:Mn Bool) (me:Mn D):C.inh=false->gs=[⟨t,i,f,0⟩]->m=bnd mi (Bm (Ig scope.names 0 C.tbl) tf mt me)->Mv C scope (Ig scope.names 0 C.tbl)->SI G C i tg mi->tg t->ST G ⟨scope.names,C.tbl,C.lvl,C.inh,C.code,C.qual⟩ false t tf->
  Pe G ⟨scope.names,C.tbl,C.lvl,C.inh,C.code,C.qual⟩ f mt->SE G ⟨scope.names,C.tbl,C.lvl,C.inh,C.code,C.qual⟩ elt me->(∀env x,foldedSetIterable i env x=pure x)->zEV G C elt gs scope m
theorem Zf(ok:Cq G T) (hX:Cb G X){elt:Expr}{gs:List Comprehension}{scope:Scope}{m:Mn D}(h:zFh T X C elt gs scope=some m):zEV G C elt gs scope m:=by
 cases gs with
 |nil=>exact Aw h
 |cons g r=>
  obtain⟨t,i,f,a⟩:=g;refine Bx h λhc h=>B7 hc λhc h5=>B7 hc λhc h4=>B7 hc λhc h3=>B7 hc λh1 h2=>Ak h λmi k1 h=>Ak h λtf k2 h=>Ak h λmt k3 h=>Ak h λme k4 hz=>?_
  clear h;obtain⟨tg,hI,ht⟩:=zAW ok hX k1;have e0:a=0:=beq_iff_eq.mp h3
  have er:=Gn h2;subst e0 er;exact Ah (P:=zEV G C elt _ scope) hz ⟨t,i,f,tg,mi,tf,mt,me,Bv h1,rfl,rfl,Vl h4,hI,ht,X2 k2,zEH hX k3,hX.e _ _ _ k4,Ow h5⟩
theorem zF1(hX:Cb G X){op:BoolOp}{es:List Expr}:∀{m:Mn D},zGJ X C op es=some m->zCb G C op es m:=by
 induction es with
 |nil=>intro m h;cases h
 |cons e r ih=>
  intro m h
  cases r with
  |nil=>exact zAp (hX.e _ _ _ h)
  |cons e' r=>
   refine Ak h λa h1 h=>Ak h λb h2 h=>Ah (P:=zCb G C op _) h ?_
   cases op with
   |And=>exact zC3 (hX.e _ _ _ h1) (ih h2)
   |Or=>exact zEC (hX.e _ _ _ h1) (ih h2)
theorem zF2(hX:Cb G X){op:BoolOp}{es:List Expr}:∀{m:Mn Bool},zGC X C op es=some m->zCY G C op es m:=by
 induction es with
 |nil=>intro m h;cases h
 |cons e r ih=>
  intro m h
  cases r with
  |nil=>cases op with
   |And=>exact X4 (hX.b _ _ _ h)
   |Or=>exact zA3 (hX.b _ _ _ h)
  |cons e' r=>
   refine Ak h λa h1 h=>Ak h λb h2 h=>Ah (P:=zCY G C op _) h ?_
   cases op with
   |And=>exact zBH (hX.b _ _ _ h1) (ih h2)
   |Or=>exact zDG (hX.b _ _ _ h1) (ih h2)
theorem Y9(hX:Cb G X){o:Option Expr}{m:Option (Mn D)}(h:zEU X C o=some m):SO G C o m:=by
 cases o with
 |none=>exact Ah (P:=SO G C none) h zAw
 |some e=>exact Ak h λa h1 h=>Ah (P:=SO G C (some e)) h (zB6 (hX.e _ _ _ h1))
theorem zEP(ok:Cq G T) (hX:Cb G X){f:Str}{as:List Expr}{np pos:Pos}{m:Mn D}(h2:C.names.lookup f=some .globalImplicit) (h4:as.all C6=true) (h:zEp T X C f as=some m):SE G C (.Call (.Name f np) as [] pos) m:=by
 cases as with
 |nil=>exact Aw h
 |cons a r=>cases r with
  |nil=>exact Aw h
  |cons t r=>
   refine Bx h λhc h=>B7 hc λhf hr=>Ak h λt' ht h=>Bx h λhc h=>B7 hc λk1 k2=>Ak h λtn h5 h=>Ak h λm' h6 h=>Ah (P:=SE G C _) h ?_
   obtain⟨tp,rfl⟩:=Pz ht;have e1:=beq_iff_eq.mp hf;have e2:=Gn hr;subst e1 e2;obtain⟨g1,g2⟩:=ok.ty _ _ h5;exact B7 h4 λh3 _=>zEZ g2 ok.isi h2 g1 (Et k1) (Bv k2) (hX.e _ _ _ h6) λenv=>by rw[C8 h3];rfl
theorem Z0(ok:Cq G T) (hX:Cb G X){f:Str}{as:List Expr}{np pos:Pos}{m:Mn D}(h1:(f==("__debug__":Str))=false) (h2:C.names.lookup f=some .globalImplicit) (h4:as.all C6=true) (h5:(!as.isEmpty)=true) (h:Yv T X C f as=some m):
  SE G C (.Call (.Name f np) as [] pos) m:=by
 refine O0 h5 λa r e=>?_
 subst e;refine B7 h4 λs1 s2=>?_
 unfold Yv at h
 cases q:T.fns.lookup f with
 |some p=>
  obtain⟨ad,n,F⟩:=p;rw[q]at h;refine Bx h λhc h=>B7 hc λk1 k2=>Ak h λms h5 h=>Ah (P:=SE G C _) h ?_
  apply yo;intro _ k0
  obtain⟨g1,g2,g3⟩:=ok.fns _ _ _ _ q;apply k0
  exact zBJ g1 h2 h1 g2 g3 (Bv k1) (of_decide_eq_true k2) (Fs hX h5) (C8 s1)
 |none=>
  rw[q]at h
  cases q2:T.bf.lookup f with
  |some p=>
   apply yo;intro _ k0
   obtain⟨n,F⟩:=p;apply k0
   rw[q2]at h;refine Bx h λhc h=>Ak h λms h5 h=>Ah (P:=SE G C _) h ?_
   obtain⟨g1,g2⟩:=ok.bf _ _ _ q2;exact Zr g1 h2 h1 (Bv hc) g2 (Fs hX h5) (C8 s1) λenv=>G2 env s2
  |none=>
   rw[q2]at h
   cases q3:T.tv.lookup f with
   |some p=>
    obtain⟨n,F⟩:=p;rw[q3]at h;refine Ak h λms h5 h=>Ah (P:=SE G C _) h ?_
    obtain⟨g1,g2⟩:=ok.tv _ _ _ q3;exact Zc g1 h2 h1 g2 (Fs hX h5) (C8 s1) λenv=>G2 env s2
   |none=>
    rw[q3]at h;exact zEP ok hX h2 h4 h
theorem zA6(ok:Cq G T) (hX:Cb G X){f:Str}{as:List Expr}{k:Keyword}{np pos:Pos}{m:Mn D}(h:zCi T X C f as k=some m):
  SE G C (.Call (.Name f np) as [k] pos) m:=by
 obtain⟨ka,kv,kp⟩:=k;refine Bx h λhc h=>B7 hc λhc h5=>B7 hc λhc h4=>B7 hc λhc h3=>B7 hc λh1 h2=>?_
 have e1:=beq_iff_eq.mp h1;have e2:ka=_:=beq_iff_eq.mp h3
 have e4:as.length=1:=beq_iff_eq.mp h4
 obtain⟨a,rfl⟩:=List.length_eq_one_iff.mp e4;subst e1 e2;refine B7 h5 λs1 _=>?_
 change zDB T X C _ [a] kv (Lb kv)=some m at h
 cases hg:Lb kv with
 |none=>
  rw[hg]at h;exact Ak h λF hF h=>Ak h λms h7 h=>Ah (P:=SE G C _) h (ok.sl _ _ _ _ _ _ _ _ _ hX.e hF (Et h2) (Fs hX h7) λenv=>C8 s1 env)
 |some g=>
  rw[hg]at h;refine Bx h λhc h=>B7 hc λk1 k2=>Ak h λp q h=>Bx h λhc h=>B7 hc λk3 k4=>Ak h λF' hF h=>Ak h λms h7 h=>Ah (P:=SE G C _) h ?_
  obtain⟨gp,e⟩:=Pz hg;obtain⟨ad,n,F⟩:=p;subst e;obtain⟨g1,g2,g3⟩:=ok.fns _ _ _ _ q;exact ok.so _ _ hF C _ _ _ _ _ _ _ _ _ (Et h2) g1 (Et k1) (Bv k2) g3 (Bv k3) (of_decide_eq_true k4) (Fs hX h7) λenv=>C8 s1 env
theorem zAy(ok:Cq G T) (hX:Cb G X){f:Str}{as:List Expr}{ks:List Keyword}{np pos:Pos}{m:Mn D}(h:zCw T X C f as ks=some m):
  SE G C (.Call (.Name f np) as ks pos) m:=by
 cases ks with
 |nil=>exact Bx h λhc h=>B7 hc λhc h5=>B7 hc λhc h4=>B7 hc λh1 h2=>Z0 ok hX (Bv h1) (Et h2) h4 h5 h
 |cons k r=>exact Bx h λhr h=>by rw[Gn hr];exact zA6 ok hX h
theorem zAt(ok:Cq G T) (hX:Cb G X){o:Expr}{name:Str}{as:List Expr}{apos pos:Pos}{m:Mn D}(h1:Os o=true) (h2:as.all C6=true) (h3:decide (as.length<30)=true) (h4:(apos.endLine==pos.line)=true) (h:Xj T X C o name as=some m):
  SE G C (.Call (.Attribute o name apos) as [] pos) m:=by
 unfold Xj at h
 cases q:T.sm.lookup name with
 |some p=>
  obtain⟨n,F⟩:=p;rw[q]at h;refine Bx h λhe h=>Ak h λmo h5 h=>Ak h λms h6 h=>Ah (P:=SE G C _) h ?_
  refine O0 he λa r e=>?_
  subst e;exact B7 h2 λs1 s2=>X5 (ok.sm _ _ _ q) (hX.e _ _ _ h5) (Fs hX h6) (Q4 h1) (C8 s1) (λenv=>G2 env s2) (λenv=>T5 env h2 h3) h4
 |none=>
  rw[q]at h;exact Ak h λmo h5 h=>Ak h λms h6 h=>ok.me C o as name mo ms m apos pos (hX.e _ _ _ h5) (zA5 hX h6) h h1 h2 h3 h4
theorem zCE(ok:Cq G T) (hX:Cb G X){l:Expr}{ops:List CmpOp}{rs:List Expr}{pos:Pos}{m:Mn D}(h:zF9 T X C l ops rs=some m):SE G C (.Compare l ops rs pos) m:=by
 cases ops with
 |nil=>exact Aw h
 |cons op o'=>cases rs with
  |nil=>exact Aw h
  |cons r r'=>
   refine Bx h λhc h=>B7 hc λhc h3=>B7 hc λh1 h2=>Ak h λf k1 h=>Ak h λa k2 h=>Ak h λb k3 h=>Ah (P:=SE G C _) h ?_
   rw[Gn h1,Gn h2];exact zER (ok.cmp _ _ k1) (hX.e _ _ _ k2) (hX.e _ _ _ k3) (Bv h3)
theorem Wz{e:Expr}{p:Option Expr×Option Expr}(h:P6 e=some p):∃q,e=.Slice p.1 p.2 none q:=by
 cases e with
 |Slice lo hi st q=>cases st with
  |none=>cases h;exact⟨q,rfl⟩
  |some _=>exact Aw h
 |_=>exact Aw h
theorem zEQ(hX:Cb G X){v sl:Expr}{pos:Pos}{m:Mn D}(h:zDo X C v sl=some m):SE G C (.Subscript v sl pos) m:=by
 unfold zDo at h
 cases q:P6 sl with
 |some p=>
  simp only[q]at h;obtain⟨pp,rfl⟩:=Wz q;exact Ak h λa k1 h=>Ak h λlo k2 h=>Ak h λhi k3 h=>Ah (P:=SE G C _) h (zAR (hX.e _ _ _ k1) (Y9 hX k2) (Y9 hX k3))
 |none=>
  rw[q]at h;exact Bx h λhs h=>Ak h λa k1 h=>Ak h λb k2 h=>Ah (P:=SE G C _) h (zEO (hX.e _ _ _ k1) (hX.e _ _ _ k2) (zBA hs))
theorem zFW(ok:Cq G T) (hX:Cb G X){f:Expr}{as:List Expr}{ks:List Keyword}{pos:Pos}{m:Mn D}(h:zFj T X C f as ks pos=some m):SE G C (.Call f as ks pos) m:=by
 cases f with
 |Name x np=>exact zAy ok hX h
 |Attribute o name apos=>exact Bx h λhc h=>B7 hc λhc h5=>B7 hc λhc h4=>B7 hc λhc h3=>B7 hc λh1 h2=>by rw[Gn h1];exact zAt ok hX h2 h3 h4 h5 h
 |_=>exact Aw h
theorem Yy{c:Const}{k:Nat}{pos:Pos}{m:Mn D}(h:zAE c=some m):SE G C (.Constant c k pos) m:=by
 cases c with
 |int i=>exact Ah (P:=SE G C _) h zD7
 |str x=>exact Ah (P:=SE G C _) h zDJ
 |bool b=>exact Ah (P:=SE G C _) h zBT
 |none=>exact Ah (P:=SE G C _) h zBl
 |_=>exact Aw h
theorem zEx(hX:Cb G X){op:UnaryOp}{e:Expr}{pos:Pos}{m:Mn D}(h:zGT X C e op=some m):SE G C (.UnaryOp op e pos) m:=by
 cases op with
 |Not=>exact Ak h λa k h=>Ah (P:=SE G C _) h (zE8 (hX.e _ _ _ k))
 |USub=>exact Ak h λa k h=>Ah (P:=SE G C _) h (zDT (hX.e _ _ _ k))
 |_=>exact Aw h
theorem zAH(ok:Cq G T) (hX:Cb G X){e:Expr}{m:Mn D}(h:zDE T X C e=some m):SE G C e m:=by
 cases e with
 |Constant c k p=>exact Yy h
 |Name x p=>exact zC1 ok h
 |BinOp l op r p=>exact Ak h λf h1 h=>Ak h λa h2 h=>Ak h λb h3 h=>Ah (P:=SE G C _) h (zDM (ok.bin _ _ h1) (hX.e _ _ _ h2) (hX.e _ _ _ h3))
 |UnaryOp op e p=>exact zEx hX h
 |BoolOp op es p=>exact Vc (zF1 hX h)
 |Compare l ops rs p=>exact zCE ok hX h
 |Subscript v sl p=>exact zEQ hX h
 |List es p=>exact Ak h λms h1 h=>Ah (P:=SE G C _) h (zAx (Fs hX h1))
 |Tuple es k p=>exact Ak h λms h1 h=>Ah (P:=SE G C _) h (Yw (Fs hX h1))
 |ListComp elt gs scope p=>
  obtain⟨t,i,f,tg,mi,tf,mt,me,k0,rfl,rfl,k1,k2,k3,k4,k5,k6,k7⟩:=Zf ok hX h;exact Tu k0 k1 k2 k3 k4 k5 k6 k7
 |Call f as ks p=>
  change (match zFj T X C f as ks p with|some m=>some m|none=>T.xe X C (.Call f as ks p))=some m at h
  cases q:zFj T X C f as ks p with
  |some m'=>rw[q]at h;cases h;exact zFW ok hX q
  |none=>rw[q]at h;exact ok.xe _ _ _ _ hX h
 |_=>exact ok.xe _ _ _ _ hX h
theorem zDL(hX:Cb G X){op:UnaryOp}{e:Expr}{pos:Pos}{m:Mn Bool}(h:zGL X C e pos op=some m):SB G C (.UnaryOp op e pos) m:=by
 cases op with
 |Not=>exact Ak h λa k h=>Ah (P:=SB G C _) h (zDR (hX.b _ _ _ k))
 |_=>exact Ak h λa k h=>Ah (P:=SB G C _) h (Zt (hX.e _ _ _ k) λ_ _=>rfl)
theorem zB1(ok:Cq G T) (hX:Cb G X){l:Expr}{ops:List CmpOp}{rs:List Expr}{pos:Pos}{m:Mn Bool}(h:zEf T X C l ops rs=some m):SB G C (.Compare l ops rs pos) m:=by
 cases ops with
 |nil=>exact Aw h
 |cons op o1=>cases rs with
  |nil=>exact Aw h
  |cons r r1=>cases o1 with
   |nil=>cases r1 with
    |nil=>exact Bx h λhm h=>Ak h λf k1 h=>Ak h λa k2 h=>Ak h λb k3 h=>Ah (P:=SB G C _) h (zDr (ok.cmp _ _ k1) (hX.e _ _ _ k2) (hX.e _ _ _ k3) (Bv hm))
    |cons _ _=>exact Aw h
   |cons op' o2=>cases o2 with
    |cons _ _=>exact Aw h
    |nil=>cases r1 with
     |nil=>exact Aw h
     |cons q r2=>cases r2 with
      |cons _ _=>exact Aw h
      |nil=>exact Bx h λhm h=>Ak h λf k1 h=>Ak h λg k4 h=>Ak h λa k2 h=>Ak h λb k3 h=>Ak h λc k5 h=>Ah (P:=SB G C _) h (zBo (ok.cmp _ _ k1) (ok.cmp _ _ k4) (hX.e _ _ _ k2) (hX.e _ _ _ k3) (hX.e _ _ _ k5) (Bv hm))
theorem zAS(ok:Cq G T) (hX:Cb G X){e:Expr}{m:Mn Bool}(h:zCa T X C e=some m):SB G C e m:=by
 have v:∀(e:Expr) (m:Mn Bool),(gd (Lk e) (ob (X.e C e) λm=>some (bnd m Cf)))=some m->SB G C e m:=λe m h=>Bx h λhp h=>Ak h λa k h=>Ah (P:=SB G C _) h (Zt (hX.e _ _ _ k) (zBO hp))
 cases e with
 |UnaryOp op e p=>exact zDL hX h
 |BoolOp op es p=>exact zBM (zF2 hX h)
 |Compare l ops rs p=>exact zB1 ok hX h
 |_=>exact v _ _ h
theorem zE2(ok:Cq G T) (hX:Cb G X){x:Str}{np pos:Pos}{e:Expr}{k:NameKind}{m:Mn Fl}(hx:C.names.lookup x=some k) (h:zEq T X C x np e k=some m):SS G C (.Assign [.Name x np] e pos) m:=by
 cases k with
 | «local» =>
  refine Ak h λi hi h=>?_
  have v:(gd (Ip e) (ob (X.e C e) λm=>some (bnd m (Af i))))=some m->SS G C (.Assign [.Name x np] e pos) m:=λh=>Bx h λhc h=>Ak h λa h2 h=>Ah (P:=SS G C _) h (W9 (Dr hi) hx (hX.e _ _ _ h2) λenv=>K4 hc _ _ env)
  cases e with
  |ListComp elt gs scope cpos=>
   refine Bx h λhc h=>B7 hc λc1 c2=>Ak h λa h2 h=>Ah (P:=SS G C _) h ?_
   obtain⟨t,i',f,tg,mi,tf,mt,me,k0,rfl,rfl,k1,k2,k3,k4,k5,k6,k7⟩:=Zf ok hX h2;exact N0 (Dr hi) hx k0 k1 k2 k3 k4 k5 k6 k7 (Vh c1 (Bv c2))
  |_=>exact v h
 |cell=>
  refine Ak h λi hi h=>?_
  have v:(gd (Ip e) (ob (X.e C e) λm=>some (bnd m (Af i))))=some m->SS G C (.Assign [.Name x np] e pos) m:=λh=>Bx h λhc h=>Ak h λa h2 h=>Ah (P:=SS G C _) h (Nx (Dr hi) hx (hX.e _ _ _ h2) λenv _=>K4 hc _ _ env)
  cases e with
  |ListComp elt gs scope cpos=>
   refine Ak (show(ob (zFh T X C elt gs scope) λm=>some (bnd m (Af i)))=some m from h) λa h2 h=>Ah (P:=SS G C _) h ?_
   obtain⟨t,i',f,tg,mi,tf,mt,me,k0,rfl,rfl,k1,k2,k3,k4,k5,k6,k7⟩:=Zf ok hX h2;exact Nx (Dr hi) hx (Tu k0 k1 k2 k3 k4 k5 k6 k7) λenv he=>T3 env he
  |_=>exact v h
 |_=>exact Aw h
theorem zAv(ok:Cq G T) (hX:Cb G X){ts:List Expr}{e:Expr}{pos:Pos}{m:Mn Fl}(h:zCQ T X C e ts=some m):SS G C (.Assign ts e pos) m:=by
 cases ts with
 |nil=>exact Aw h
 |cons t r=>
  refine Bx h λhr h=>?_
  rw[Gn hr]
  cases t with
  |Name x np=>exact Ak h λk hk h=>zE2 ok hX hk h
  |_=>exact Aw h
theorem Zb(ok:Cq G T) (hX:Cb G X){t:Stmt}{m:Mn Fl}(h:stepS T X C t=some m):SS G C t m:=by
 cases t with
 |Return v p=>exact Ak h λe he h=>Ak h λa h2 h=>Ah (P:=SS G C _) h (by subst he;exact Uw (hX.e _ _ _ h2))
 |Expr e p=>exact Bx h λhc h=>Ak h λa h2 h=>Ah (P:=SS G C _) h (zB9 (hX.e _ _ _ h2) λenv=>K4 hc _ _ env)
 |Pass p=>exact Ah (P:=SS G C _) h zBd
 |Break p=>exact Ah (P:=SS G C _) h zAI
 |Continue p=>exact Ah (P:=SS G C _) h Rf
 |If t a b p=>exact Ak h λf h1 h=>Ak h λa h2 h=>Ak h λb h3 h=>Ah (P:=SS G C _) h (zFL (hX.b _ _ _ h1) (hX.s _ _ _ h2) (hX.s _ _ _ h3))
 |For t i b o p=>
  refine Bx h λhc h=>B7 hc λhc c3=>B7 hc λc1 c2=>Ak h λf h1 h=>Ak h λa h2 h=>Ak h λb h3 h=>Ah (P:=SS G C _) h ?_
  apply yo;intro _ k0
  obtain⟨tg,hI,ht⟩:=zAW ok hX h1;apply k0
  rw[Gn c3];exact zE5 (Bv c1) hI ht (X2 h2) (hX.s _ _ _ h3) (Ow c2)
 |Assign ts e p=>
  change (match zCQ T X C e ts with|some m=>some m|none=>T.xs X C (.Assign ts e p))=some m at h
  cases q:zCQ T X C e ts with
  |some m'=>rw[q]at h;cases h;exact zAv ok hX q
  |none=>rw[q]at h;exact ok.xs _ _ _ _ hX h
 |_=>exact ok.xs _ _ _ _ hX h
theorem zDy(ok:Cq G T) (hX:Cb G X){l:List Stmt}:∀{m:Mn Fl},zDu T X C l=some m->Uc G C l m:=by
 induction l with
 |nil=>intro m h;exact Ah (P:=Uc G C []) h zEF
 |cons t r ih=>intro m h;exact Ak h λa h1 h=>Ak h λb h2 h=>Ah (P:=Uc G C (t::r)) h (zC2 (Zb ok hX h1) (ih h2))
theorem Cp(ok:Cq G T) (n:Nat):Cb G (zFf T n):=by
 induction n with
 |zero=>exact⟨λ_ _ _ h=>(by cases h),λ_ _ _ h=>(by cases h),λ_ _ _ h=>by cases h⟩
 |succ n ih=>exact⟨λ_ _ _ h=>zAH ok ih h,λ_ _ _ h=>zAS ok ih h,λ_ _ _ h=>zDy ok ih h⟩
theorem Cq.add(ok:Cq G T){f:Str}{a:Addr}{n:Nat}{F:List D->Mn D}(h1:G9 G f (.ref a)) (h2:∃o fd,G.h0.get? a=some o/\o.data=.func fd) (h3:SF G n a F):Cq G {T with fns:=(f,a,n,F)::T.fns} where
 fns g a' n' F' h:=by
  have h':List.lookup g ((f,a,n,F)::T.fns)=some (a',n',F'):=h
  rw[List.lookup_cons]at h'
  cases e:g==f with
  |true=>rw[e]at h';cases h';rw[beq_iff_eq.mp e];exact⟨h1,h2,h3⟩
  |false=>rw[e]at h';exact ok.fns _ _ _ _ h'
 nums:=ok.nums
 bf:=ok.bf
 tv:=ok.tv
 ts:=ok.ts
 sm:=ok.sm
 ty:=ok.ty
 isi:=ok.isi
 bin:=ok.bin
 cmp:=ok.cmp
 me:=ok.me
 so:=ok.so
 sl:=ok.sl
 xe:=ok.xe
 xs:=ok.xs
end
theorem Gv{β:Type}{P:Str->β->Prop}:∀f v,([]:List (Str×β)).lookup f=some v->P f v:=λ_ _ h=>Aw h
theorem C7{β:Type}{P:Str->β->Prop}{x:Str}{v:β}{l:List (Str×β)}(h:P x v) (t:∀f w,l.lookup f=some w->P f w):∀f w,((x,v)::l).lookup f=some w->P f w:=λf w e=>by
 rw[List.lookup_cons]at e
 cases q:f==x with
 |true=>rw[q]at e;cases e;rw[beq_iff_eq.mp q];exact h
 |false=>rw[q]at e;exact t f w e
noncomputable abbrev zFc (G:Gd) (f:Str) (p:String×(List D->Mn D)):Prop:=E8 G f (.builtin p.1)/\BF G p.1 p.2
noncomputable abbrev zFe (G:Gd) (f:Str) (p:String×(List D->Mn D)):Prop:=E8 G f (.type p.1)/\TF G p.1 p.2
noncomputable abbrev zFg (G:Gd) (f:Str) (p:String×Bool×(List D->Mn Gz)):Prop:=E8 G f (.type p.1)/\∃tg,Sd G p.1 tg p.2.2/\∀t,(!p.2.1||Ue t)=true->tg t
noncomputable abbrev zFA (G:Gd) (f:Str) (p:String×(Str->List D->Mn D)):Prop:=SM G f p.1 p.2
noncomputable abbrev zGV (G:Gd) (f:Str) (n:String):Prop:=E8 G f (.type n)/\zA2 n
noncomputable abbrev zG2 (G:Gd) (x:Str) (i:Int):Prop:=∃t,G9 G x (.int i t)
theorem Qh{t:Expr}(h:(!true||Ue t)=true):Fz t:=by cases t<;>first|exact⟨_,_,_,rfl⟩|cases h
noncomputable def zEW (G:Gd) (me:Str->Mn D->List (Mn D)->Option (Mn D)):Prop:=
 ∀C o as name mo ms m apos pos,SE G C o mo->Bs (λa m=>SE G C a m) as ms->me name mo ms=some m->Os o=true->as.all C6=true->decide (as.length<30)=true->(apos.endLine==pos.line)=true->SE G C (.Call (.Attribute o name apos) as [] pos) m
noncomputable def zE7 (G:Gd) (name:Str) (me:Mn D->List (Mn D)->Option (Mn D)):Prop:=
 ∀C o as mo ms m apos pos,SE G C o mo->Bs (λa m=>SE G C a m) as ms->me mo ms=some m->Os o=true->as.all C6=true->decide (as.length<30)=true->(apos.endLine==pos.line)=true->SE G C (.Call (.Attribute o name apos) as [] pos) m
noncomputable def zFS:Str->Mn D->List (Mn D)->Option (Mn D):=λ_ _ _=>none
noncomputable def zBu (x:Str) (a:Mn D->List (Mn D)->Option (Mn D)) (r:Str->Mn D->List (Mn D)->Option (Mn D)):Str->Mn D->List (Mn D)->Option (Mn D):=λname m ms=>match name==x with
 |true=>a m ms
 |false=>r name m ms
section
variable {G:Gd}
theorem zBk:zEW G zFS:=λ_ _ _ _ _ _ _ _ _ _ _ h=>Aw h
theorem U2{x:Str}{a:Mn D->List (Mn D)->Option (Mn D)}{r:Str->Mn D->List (Mn D)->Option (Mn D)}(h:zE7 G x a) (t:zEW G r):zEW G (zBu x a r):=λC o as name mo ms m apos pos h1 h2 h3=>by
 unfold zBu at h3
 cases q:name==x with
 |true=>rw[q]at h3;rw[beq_iff_eq.mp q];exact h C o as mo ms m apos pos h1 h2 h3
 |false=>rw[q]at h3;exact t C o as name mo ms m apos pos h1 h2 h3
noncomputable def P5 (m:Mn D):List (Mn D)->Option (Mn D)
 |[]=>none
 |a::r=>gd r.isEmpty (some (bnd m (Da λk=>bnd a (Bg k))))
theorem W6:zE7 G (Str.ofString "append") P5:=λC o as mo ms m apos pos h1 h2 h3 h4 h5 h6 h7=>by
 cases h2 with
 |nil=>exact Aw h3
 | @cons a ma as' ms' ha hr=>
  refine Bx h3 λhe h3=>Ah (P:=SE G C _) h3 ?_
  cases hr with
  |nil=>exact B7 h5 λs1 _=>V1 h1 ha (Q4 h4) (C8 s1) (λenv=>T5 env h5 h6) h7
  |cons _ _=>cases he
end
noncomputable abbrev ix (i:Nat) (k:Int):Mn D:=Ab Ag (A0 i) (ret1 (.int k))
noncomputable def Pq {α:Type}(o:Gq α) (f:α->St->Gq Fl):Gq Fl:=match o with
 |.ok a st=>f a st
 |_=>.bot
theorem T9{P:Prop}{α:Type}{o:Gq α}{f:α->St->Gq Fl}(hb:Pq o f≠.bot) (w:∀a st,o=.ok a st->Pq o f=f a st->P):P:=by
 cases o with
 |ok a st=>exact w a st rfl rfl
 |_=>exact absurd rfl hb
noncomputable def Jj (k:Mn Fl):Fl->St->Gq Fl
 |.next,st=>k st
 |.cont,st=>k st
 |.brk,st=>.ok .next st
 |.ret d,st=>.ok (.ret d) st
noncomputable def Eu (c:Mn Bool) (b:Mn Fl):Nat->Mn Fl
 |0=>botM
 |n+1=>λst=>Pq (c st) λt st1=>bif t then Pq (b st1) (Jj (Eu c b n))else .ok .next st1
noncomputable def Le (c:Mn Bool) (b:Mn Fl):Mn Fl:=Eu c b 1000000
section
variable {G:Gd}{C:Cx}
inductive zG6 (G:Gd) (C:Cx) (A:Around) (P:List Addr) (env:Env) (hs:Heap) (ρs:List Addr) (c:Mn Bool) (b:Mn Fl) (r:Gq Fl) (n:Nat) (s':Shared):Prop
 |mk (ρ':List Addr) (st':St) (K:Ok G C A P env s' ρ' st') (x:Ev P hs ρs s'.heap ρ') (e:r=Eu c b n st')
theorem zFX{α:Type}{P:Prop}{env:Env}{s s':Shared}{ρ:List Addr}{st st1:St}{o:Gq α}{a:α}{x:Value}(e:o=.ok a st1) (q:Bc G env s ρ st o x s'):P:=by
 obtain⟨_,_,_,_,e',_⟩:=q;rw[e]at e';cases e'
theorem zDv{P:Prop}{tbl:List Str}{Ps:List Addr}{env:Env}{s s':Shared}{ρ:List Addr}{st1:St}{o:Gq Fl}{a:Fl}{x:Value}(e:o=.ok a st1) (q:zAD G tbl Ps env s ρ o x s'):P:=by
 obtain⟨_,_,_,_,e',_⟩:=q;rw[e]at e';cases e'
theorem Wy{test:Expr}{body:List Stmt}{pos:Pos}{mc:Mn Bool}{mb:Mn Fl}(hc:SB G C test mc) (hB:Uc G C body mb):SS G C (.While test body [] pos) (Le mc mb):=.mk <| λA P env s ρ st K W hb=>by
 generalize hr:Le mc mb st=r at hb ⊢
 refine wpAny_While (codeAny_whileLoop (zG6 G C A P env s.heap ρ mc mb r) ?_ 1000000 ⟨ρ,st,K,Ev.refl,hr.symm⟩)
 rintro n s1 ⟨ρ1,st1,K1,x1,rfl⟩
 cases n with
 |zero=>exact absurd rfl hb
 |succ n=>
  refine T9 (o:=mc st1) (f:=λt st1=>bif t then Pq (mb st1) (Jj (Eu mc mb n))else .ok .next st1) hb λt st2 e1 e2=>?_
  have e2:Eu mc mb (n+1) st1=_:=e2
  rw[e2]at hb ⊢;refine wpAny_mono (hc.run A P env s1 ρ1 st1 K1 (by rw[e1];intro z;cases z)) (λv s2 q=>?_) λx s2 q=>zFX e1 q
  refine Fh.elim q λρ2 d σ2 e I2 x2 rr=>?_
  rw[e1]at e
  cases e
  cases(show t=v from rr)
  have K2:=K1.step I2 x2
  cases t with
  |false=>
   simp only[Bool.false_eq_true,if_false];exact wpAny_execs_nil ⟨ρ2,.next,_,rfl,I2,x1.trans x2.nil,K2.frm,rfl⟩
  |true=>
   simp only[if_true];refine T9 (o:=mb ⟨st1.loc,σ2⟩) (f:=Jj (Eu mc mb n)) hb λfl st3 e3 e4=>?_
   have e5:(bif true then Pq (mb ⟨st1.loc,σ2⟩) (Jj (Eu mc mb n))else Gq.ok Fl.next ⟨st1.loc,σ2⟩)=Jj (Eu mc mb n) fl st3:=e4
   rw[e5]at hb ⊢;refine wpAny_mono (hB.run A P env s2 ρ2 ⟨st1.loc,σ2⟩ K2 W (by rw[e3];intro z;cases z)) (λf s3 q=>?_) λx s3 q=>zDv e3 q
   obtain⟨ρ3,fl',st3',e6,I3,x3,F3,r3⟩:=q;rw[e3]at e6
   cases e6;have K3:=K2.stepS I3 x3 F3;have xx:=(x1.trans x2.nil).trans x3
   cases fl with
   |next=>cases(show f=.next from r3);exact⟨n,Nat.lt_succ_self n,ρ3,st3,K3,xx,rfl⟩
   |cont=>cases(show f=.cont from r3);exact⟨n,Nat.lt_succ_self n,ρ3,st3,K3,xx,rfl⟩
   |brk=>cases(show f=.brk from r3);exact⟨ρ3,.next,st3,rfl,I3,xx,F3,rfl⟩
   |ret d=>obtain⟨v,rfl,r3⟩:=r3;exact⟨ρ3,.ret d,st3,rfl,I3,xx,F3,v,rfl,r3⟩
end
noncomputable def Uf (X:Wc) (C:Cx):Stmt->Option (Mn Fl)
 |.While t b o _=>gd o.isEmpty (ob (X.b C t) λmc=>ob (X.s C b) λmb=>some (Le mc mb))
 |_=>none
theorem Sg{G:Gd}:∀X C t m,Cb G X->Uf X C t=some m->SS G C t m:=λX C t m hX h=>by
 cases t with
 |While t b o p=>
  refine Bx h λh1 h=>Ak h λmc k1 h=>Ak h λmb k2 h=>Ah (P:=SS G C _) h ?_
  rw[Gn h1];exact Wy (hX.b _ _ _ k1) (hX.s _ _ _ k2)
 |_=>exact Aw h
noncomputable def zDP (a b:Wc->Cx->Stmt->Option (Mn Fl)) (X:Wc) (C:Cx) (t:Stmt):Option (Mn Fl):=match a X C t with
 |some m=>some m
 |none=>b X C t
theorem zC8{G:Gd}{a b:Wc->Cx->Stmt->Option (Mn Fl)}(ha:∀X C t m,Cb G X->a X C t=some m->SS G C t m) (hb:∀X C t m,Cb G X->b X C t=some m->SS G C t m):∀X C t m,Cb G X->zDP a b X C t=some m->SS G C t m:=λX C t m hX h=>by
 unfold zDP at h
 cases e:a X C t with
 |some m'=>rw[e]at h;cases h;exact ha X C t _ hX e
 |none=>rw[e]at h;exact hb X C t m hX h
noncomputable def Go (k:Nat):D->Mn D
 |.int x=>λst=>Hi st.sto[k]? λds=>Kx ((H2 ds).bind λns=>bif ns.contains x&&decide (ns.length<4294967296)then some (D.int (ns.idxOf x:Nat))else none) st
 |_=>botM
noncomputable def Rl (m:Mn D):List (Mn D)->Option (Mn D)
 |[]=>none
 |a::r=>gd r.isEmpty (some (bnd m (Da λk=>bnd a (Go k))))
theorem zBF{P:Prop}{o:Option D}{st:St}(hb:Kx o st≠.bot) (w:∀d,o=some d->Kx o st=.ok d st->P):P:=by
 cases o with
 |none=>exact absurd rfl hb
 |some d=>exact w d rfl rfl
theorem zBx{xs:List (Int×Tok)}:IntsAre (xs.map λp=>Value.int p.1 p.2) (xs.map (·.1)):=by
 induction xs with
 |nil=>exact .nil
 |cons p r ih=>exact .cons p.1 p.2 ih
section
variable {G:Gd}{C:Cx}{A:Around}{P:List Addr}{env:Env}{s:Shared}{ρ:List Addr}{st:St}
theorem zBK{Q:Prop}{F:Nat->Mn D}{d:D}(hb:Da F d st≠.bot) (w:∀k ds,d=.ref k->st.sto[k]? =some (.list ds)->Da F d st=F k st->Q):Q:=by
 cases d with
 |ref k=>
  cases hp:st.sto[k]? with
  |none=>exact absurd (by unfold Da;simp only[hp]) hb
  |some p=>
   cases p with
   |list ds=>exact w k ds rfl hp (by unfold Da;simp only[hp])
   |_=>exact absurd (by unfold Da;simp only[hp]) hb
 |_=>exact absurd rfl hb
theorem Yc{a:Addr}{n:Nat}{xs:List (Int×Tok)}{vs:Array Value}{x:Int}{t:Tok}{Q:Value->Shared->Prop}{E:Value->Shared->Prop}(hl:s.heap.get? a=some (F6 vs n)) (ev:vs.toList=xs.map λp=>Value.int p.1 p.2)
  (hm:x∈xs.map (·.1)) (hz:(xs.map (·.1)).length<4294967296) (h:Q (.int ((xs.map (·.1)).idxOf x:Nat) s.toks) {s with toks:=s.toks+1}):wpAny G.M A (call (.builtin "list.index") [.ref a,.int x t]) Q E s:=by
 have ev':vs=(xs.map λp=>Value.int p.1 p.2).toArray:=by rw[←ev]
 subst ev';have hi:=zBx (xs:=xs);have hj:(xs.map (·.1)).idxOf x<(xs.map (·.1)).length:=List.idxOf_lt_length_iff.mpr hm
 have hlen:(xs.map λp=>Value.int p.1 p.2).length=(xs.map (·.1)).length:=by simp
 refine call_meets PySem.F.slot_list_index ⟨_,hl,rfl⟩ PySem.F.entry_list_index (PySem.F.args_list_index_2 _ _)
  (PySem.SeqAt.list_indexAt a _ n none #[] (.int x t) (isInt x) ((xs.map (·.1)).idxOf x) (by simpa using hj) (by exact Dq λZ=>Ac [_,_] [A9 (.s (.n 9223372036854775808) (.n 1)) x0,A7 x1 (.n 4294967296),A7 x0 x1] rT Z (Gi hz) (Gi hj)) ?_ ?_) ⟨hl,λy hy=>(eq_isInt x t hi y (by simpa using hy)).at _ _,h⟩
 ·show isInt x (xs.map λp=>Value.int p.1 p.2)[(xs.map (·.1)).idxOf x]=true
  rw[isInt_at x hi _ (by rw[hlen];exact hj) hj]
  simpa using List.getElem_idxOf hj
 ·intro j hjs hlt;show isInt x (xs.map λp=>Value.int p.1 p.2)[j]=false
  rw[isInt_at x hi j (by simpa using hjs) (Nat.lt_trans hlt hj)];exact ne_of_lt_idxOf hlt _
theorem Zw{o e:Expr}{mo me:Mn D}{apos pos:Pos}(ho:SE G C o mo) (he:SE G C e me)
  (hbase:∀env,attributeBase o (Str.ofString "index") env (eval o env)=eval o env) (hst:C6 e=true)
  (hfew:∀env,methodCallForm ([e].length+([]:List Keyword).length) (backTo pos (starEach [e] env)) (backToKw pos (keywordEach [] env))=true) (hline:(apos.endLine==pos.line)=true):
  SE G C (.Call (.Attribute o (Str.ofString "index") apos) [e] [] pos) (bnd mo (Da λk=>bnd me (Go k))):=.mk <| λA P env s ρ st K hb=>by
 refine wpAny_Call_method_lateS (hbase env) (hfew env) hline (wpAny_mono (ho.run A P env s ρ st K (An hb)) (λov s' q=>?_) λx s' q=>Bc.bnd q)
 refine Fh.elim q λρ' d σ' e' I' x' r=>?_
 have K':=K.step I' x';have e2:bnd mo (Da λk=>bnd me (Go k)) st=Da (λk=>bnd me (Go k)) d ⟨st.loc,σ'⟩:=by simp only[bnd,e']
 rw[e2]at hb ⊢;refine zBK hb λk ds0 ed hp e5=>?_
 rw[e5]at hb ⊢;subst ed;refine K8 r λa ea hk=>?_
 subst ea;refine Gy I' hk hp λvs n hl _=>?_
 refine⟨"list","list.index",F.plainAttrs_list,F.slot_list_index,F.type_list_index,⟨_,hl,rfl⟩,(λa' ea=>by cases ea;exact⟨_,hl,rfl⟩),?_⟩
 have h1:=(Tq he (zAB (G:=G) (C:=C)) (C8 (es:=[]) hst)).run A P env s' ρ' ⟨st.loc,σ'⟩ pos K';have hev:backTo pos (starEach [e] env)=(false,eval e env)::backTo pos (starEach [] env):=by rw[C8 hst];rfl
 rw[hev]at h1 ⊢;have hb1:A6 me Ai ⟨st.loc,σ'⟩≠.bot:=λz=>An hb (by
  unfold A6 Ai bnd ret1 at z
  cases q:me ⟨st.loc,σ'⟩with
  |bot=>rfl
  |ok _ _=>rw[q]at z;cases z
  |exc _ _=>rw[q]at z;cases z)
 refine Calls.callWith_builtin rfl (Calls.evalArgs_plain (wpAny_mono (h1 hb1) (λvs s'' q=>?_) λx s'' q=>?_))
 ·refine Fh.elim q λρ'' ds σ'' e3 I'' x'' r=>?_
  have K'':=K'.step I'' x'';obtain⟨dx,e6,rfl⟩:∃dx,me ⟨st.loc,σ'⟩=.ok dx ⟨st.loc,σ''⟩/\ds=[dx]:=by
   unfold bnd ret1 at e3
   cases q:me ⟨st.loc,σ'⟩with
   |bot=>rw[q]at e3;cases e3
   |ok d1 s1=>rw[q]at e3;cases e3;exact⟨d1,rfl,rfl⟩
   |exc _ _=>rw[q]at e3;cases e3
  have e4:bnd me (Go k) ⟨st.loc,σ'⟩=Go k dx ⟨st.loc,σ''⟩:=by simp only[bnd,e6]
  rw[e4]at hb ⊢
  cases dx with
  |int x=>
   obtain⟨v,_,rfl,⟨t,rfl⟩,rfl⟩:=r;refine Fe (o:=σ''[k]?) (f:=λds=>Kx ((H2 ds).bind λns=>bif ns.contains x&&decide (ns.length<4294967296)then some (D.int (ns.idxOf x:Nat))else none) ⟨st.loc,σ''⟩) hb λds hds e7=>?_
   have e7:Go k (.int x) ⟨st.loc,σ''⟩=_:=e7
   rw[e7]at hb ⊢;refine zBF hb λd ed e8=>?_
   rw[e8];obtain⟨ns,hns,ed⟩:=Option.bind_eq_some_iff.mp ed;refine Gy I'' (x''.pre k a hk) hds λws m how rw'=>?_
   obtain⟨xs,hvs,rfl⟩:=Ha rw' hns
   cases hc:(xs.map (·.1)).contains x&&decide ((xs.map (·.1)).length<4294967296)with
   |false=>rw[hc]at ed;cases ed
   |true=>
    rw[hc]at ed
    cases ed;refine B7 hc λc1 c2=>Yc how hvs (by simpa using c1) (of_decide_eq_true c2) ?_
    exact⟨ρ'',_,σ'',rfl,I''.tok _,x'.trans x'',⟨_,rfl⟩⟩
  |_=>exact absurd rfl hb
 ·exact Bc.tr (q.imp λc st' z=>by
   unfold bnd ret1 at z;unfold bnd
   cases q:me ⟨st.loc,σ'⟩with
   |bot=>rw[q]at z;cases z
   |ok d1 s1=>rw[q]at z;cases z
   |exc _ _=>rw[q]at z;cases z;rfl) x'
theorem Zs:zE7 G (Str.ofString "index") Rl:=λC o as mo ms m apos pos h1 h2 h3 h4 h5 h6 h7=>by
 cases h2 with
 |nil=>exact Aw h3
 | @cons a ma as' ms' ha hr=>
  refine Bx h3 λhe h3=>Ah (P:=SE G C _) h3 ?_
  cases hr with
  |nil=>exact B7 h5 λs1 _=>Zw h1 ha (Q4 h4) s1 (λenv=>T5 env h5 h6) h7
  |cons _ _=>cases he
end
section
open W
noncomputable def zCo (p:Arguments):Option Str:=gd (p.posonlyargs.isEmpty&&p.vararg.isNone&&p.kwonlyargs.isEmpty&&p.kw_defaults.isEmpty&&p.kwarg.isNone&&p.defaults.isEmpty) (match p.args with
 |[a]=>some a.arg
 |_=>none)
theorem Zp{p:Arguments}{x:Str}(h:zCo p=some x):∃a:Arg,p=⟨[],[a],none,[],[],none,[]⟩/\a.arg=x:=by
 obtain⟨p1,p2,p3,p4,p5,p6,p7⟩:=p;refine Bx h λhc h=>?_
 simp only[Bool.and_eq_true,List.isEmpty_iff,Option.isNone_iff_eq_none]at hc;obtain⟨⟨⟨⟨⟨rfl,rfl⟩,rfl⟩,rfl⟩,rfl⟩,rfl⟩:=hc
 cases p2 with
 |nil=>cases h
 |cons a r=>cases r with
  |nil=>exact⟨a,rfl,Option.some.inj h⟩
  |cons _ _=>cases h
noncomputable def zFR (c:Addr):Value->Bool
 |.ref a=>a==c
 |_=>false
noncomputable def Xq (scope:Scope) (x:Str):Bool:=Gx scope.names&&(scope.names.all λp=>p.2 !=.cell)&&scope.kind== .function&&!scope.isCoroutine&&!scope.isGenerator&&scope.names.lookup x==some .local
noncomputable def zEu (x:Str):Prop:=∀nm q ann ps body scope cl pm c ctv v,bindArgs (kla_fn nm q ⟨[],[⟨x,ann,ps⟩],none,[],[],none,[]⟩ body scope cl pm c ctv) ⟨[v],[]⟩=pure [(x,v)]
noncomputable def zCt (x:Str) (c:Addr) (kt:Nat) (T:Addr) (X:Cx->Expr->Option (Mn D)) (C:Cx):Expr->Option (List D->Mn D)
 |.Lambda p body scope pos=>ob (zCo p) λy=>gd (y==x&&zFR c C.code&&Xq scope x&&!C.inh&&decide (2≤C.lvl)) (ob (X ⟨scope.names,[x],C.lvl - 2,false,.none,""⟩ body) λm=>
  some λds=>bnd (H8 kt T pos.line pos.col (C.qual++"<lambda>")) λ_=>By (M4 m) ds)
 |_=>none
theorem Xw{G:Gd}{x:Str}{c:Addr}{kt:Nat}{T:Addr}(hbi:zEu x) (LG:X9 G c T) (hs:E8 G (Str.ofString "sorted") (.builtin "sorted")):∀X C v F e ms sp pos kp,(∀C x m,X C x=some m→SE G C x m)→zCt x c kt T X C v=some F→C.names.lookup (Str.ofString "sorted")=some .globalImplicit→SA G C [e] ms→(∀env,starEach [e] env=[(false,eval e env)])→
  SE G C (.Call (.Name (Str.ofString "sorted") sp) [e] [⟨some (Str.ofString "key"),v,kp⟩] pos) (bnd ms F):=by
 intro X C v F e ms sp pos kp hX h hn he hst
 cases v with
 |Lambda p body scope lp=>
  refine Ak h λy hx h=>Bx h λhc h=>Ak h λm hm h=>Ah (P:=λF=>SE G C _ (bnd ms F)) h ?_
  apply yo;intro _ k0
  obtain⟨⟨y',ann,ps⟩,rfl,rfl⟩:=Zp hx;apply k0
  refine B7 hc λhc h4=>B7 hc λhc h3=>B7 hc λhc h2=>B7 hc λh0 h1=>?_
  obtain rfl:y'=x:=beq_iff_eq.mp h0
  have hcd:C.code=.ref c:=by
   cases e:C.code with
   |ref b=>rw[e]at h1;rw[show b=c from beq_iff_eq.mp h1]
   |_=>rw[e]at h1;cases h1
  simp only[Xq,Bool.and_eq_true,beq_iff_eq,Bool.not_eq_true']at h2;apply yo;intro _ k0
  obtain⟨⟨⟨⟨⟨k1,k2⟩,k3⟩,k4⟩,k5⟩,k6⟩:=h2;apply k0
  refine S4 hs hn LG hcd rfl k1 (λy m z=>?_) (λ_=>rfl) k3 k4 k5 k6 (λ_ _ _ _=>hbi _ _ _ _ _ _ _ _ _ _ _) (hX _ _ _ hm) (Bv h3) ?_ he hst
  ·have:=List.all_eq_true.mp k2 y m
   rw[z]at this;simp at this
  ·have:=of_decide_eq_true h4
   rw[Nat.sub_add_cancel this];exact Nat.le_refl _
 |_=>exact Aw h
end
section
open Builtin.Str
noncomputable def W {α:Type}(m:Mn α) (st:St) (Q:α->St->Prop):Prop:=∃a st',m st=.ok a st'/\Q a st'
structure zAY (a b:Prop):Prop where
 mpr:b->a
section
variable {α β:Type}{st:St}{Q:α->St->Prop}
theorem W.mono{m:Mn α}{Q':α->St->Prop}(h:W m st Q) (hq:∀a st',Q a st'->Q' a st'):W m st Q':=let⟨a,st',e,q⟩:=h;⟨a,st',e,hq a st' q⟩
theorem Ad{m:Mn β}{f:β->Mn α}:W (bnd m f) st Q↔W m st (λb st'=>W (f b) st' Q):=by
 unfold W bnd;constructor
 ·rintro⟨a,st',e,q⟩
  cases h:m st with
  |ok b st''=>rw[h]at e;exact⟨b,st'',rfl,a,st',e,q⟩
  |exc c st''=>rw[h]at e;cases e
  |bot=>rw[h]at e;cases e
 ·intro h0z;apply yo;intro _ k0
  obtain⟨b,st'',h,a,st',e,q⟩:=h0z;apply k0
  exact⟨a,st',by rw[h];exact e,q⟩
theorem Cj{a:α}:W (ret1 a) st Q↔Q a st:=by
 constructor
 ·rintro⟨b,st',e,q⟩;cases e;exact q
 ·intro q;exact⟨a,st,rfl,q⟩
theorem zAO:W (botM:Mn α) st Q↔False:=by
 constructor
 ·rintro⟨b,st',e,q⟩;cases e
 ·exact False.elim
theorem Ww{o:Option α}:W (Kx o) st Q↔∃a,o=some a/\Q a st:=by
 cases o with
 |none=>exact⟨λh=>absurd h (zAO.mp),λ⟨a,e,_⟩=>by cases e⟩
 |some a=>exact⟨λh=>⟨a,rfl,Cj.mp h⟩,λ⟨b,e,q⟩=>by cases e;exact Cj.mpr q⟩
theorem Eb{c:Prop} [Decidable c] {m:Mn α}:W (if c then m else botM) st Q↔c/\W m st Q:=by
 by_cases h:c
 ·simp[h]
 ·simp[h,zAO]
end
section
variable {st:St}
theorem Sw{i:Nat}{Q:D->St->Prop}:W (A0 i) st Q↔∃d,st.loc i=some d/\Q d st:=by
 unfold W A0
 cases e:st.loc i with
 |none=>simp
 |some d=>
  constructor
  ·rintro⟨a,st',e',q⟩;cases e';exact⟨d,rfl,q⟩
  ·rintro⟨a,e',q⟩;cases e';exact⟨d,st,rfl,q⟩
noncomputable def zDc (m2:Mn Fl) (Q:Fl->St->Prop):Fl->St->Prop
 |.next,st'=>W m2 st' Q
 |.brk,st'=>Q .brk st'
 |.cont,st'=>Q .cont st'
 |.ret d,st'=>Q (.ret d) st'
theorem L3{m1 m2:Mn Fl}{Q:Fl->St->Prop}:W (Ae m1 m2) st Q↔W m1 st (zDc m2 Q):=by
 unfold Ae;rw[Ad];constructor
 ·intro h;refine h.mono λfl st' q=>?_
  cases fl<;>first|exact q|exact(show Q _ _ from Cj.mp (show W (ret1 _) _ _ from q))
 ·intro h;refine h.mono λfl st' q=>?_
  cases fl<;>first|exact q|exact(show W (ret1 _) _ _ from Cj.mpr (show Q _ _ from q))
theorem Rm{m2:Mn Fl}{Q:Fl->St->Prop}:zDc m2 Q .next st↔W m2 st Q:=Iff.rfl
theorem Ty{m2:Mn Fl}{Q:Fl->St->Prop}{d:D}:zDc m2 Q (.ret d) st↔Q (.ret d) st:=Iff.rfl
theorem Wk{c:Mn Bool}{m1 m2:Mn Fl}{Q:Fl->St->Prop}:W (Iv c m1 m2) st Q↔W c st (λb st'=>if b=true then W m1 st' Q else W m2 st' Q):=by
 unfold Iv;rw[Ad];constructor<;>intro h<;>refine h.mono λb st' q=>?_<;>cases b<;>exact q
theorem zD3{m n:Mn Bool}{Q:Bool->St->Prop}:W (V4 m n) st Q↔W m st (λb st'=>if b=true then W n st' Q else Q false st'):=by
 unfold V4;rw[Ad];constructor<;>intro h<;>refine h.mono λb st' q=>?_<;>cases b<;>first|exact q|exact Cj.mp q|exact Cj.mpr q
theorem Yu{m n:Mn D}{Q:D->St->Prop}:W (R0 m n) st Q↔W m st (λd st'=>W (Cf d) st' λb st''=>if b=true then W n st'' Q else Q d st''):=by
 unfold R0;rw[Ad];simp only[Ad];constructor<;>intro h<;>refine h.mono λd st' q=>q.mono λb st'' q=>?_<;>cases b<;>first|exact q|exact Cj.mp q|exact Cj.mpr q
variable {a b:Int}{x y:Str}{Q:D->St->Prop}
theorem Yq:W (E0 [.str x]) st Q↔x.length<2 ^ 62/\Q (.int x.length) st:=by unfold E0;rw[Eb,Cj]
theorem Zv{ns:List Int}:W (E0 [.scr ns]) st Q↔ns.length<2 ^ 62/\Q (.int ns.length) st:=by unfold E0;rw[Eb,Cj]
theorem zAQ{k:Nat}:zAY (W (E0 [.ref k]) st Q) (∃ds,st.sto[k]? =some (.list ds)/\ds.length<2 ^ 62/\Q (.int ds.length) st):=.mk <| by
 unfold W E0;intro h0z;apply yo;intro _ k0
 obtain⟨ds,h,h2,q⟩:=h0z;apply k0
 exact⟨_,_,by simp only[h,h2,if_true],q⟩
theorem zE4{F:Str->Mn D}:W (El F (.str x)) st Q↔W (F x) st Q:=Iff.rfl
theorem zAT{k:Nat}:zAY (W (Jx [.ref k]) st Q) (∃ds ns m,st.sto[k]? =some (.list ds)/\H2 ds=some ns/\ns.max? =some m/\Q (.int m) st):=.mk <| by
 unfold W Jx Jt;intro h0z;apply yo;intro _ k0
 obtain⟨ds,ns,m,h,e4,e5,q⟩:=h0z;apply k0
 refine⟨.int m,st,?_,q⟩
 have e5':zBI ns=some m:=e5
 simp only[h,e4,Option.bind_some,e5',Option.map_some];rfl
theorem Hs{n:Int}{Q:Gz->St->Prop}:W (C4 [.int n]) st Q↔okR n=true/\Q ⟨Di 0 1 n.toNat,λ_=>True⟩ st:=by
 show W (if okR n=true then ret1 _ else botM) st Q↔_
 rw[Eb,Cj]
theorem Ni{Q:Gz->St->Prop}:W (C4 [.int a,.int b]) st Q↔(okR a&&okR b)=true/\Q ⟨Di a 1 (b - a).toNat,λ_=>True⟩ st:=by
 show W (if(okR a&&okR b)=true then ret1 _ else botM) st Q↔_
 rw[Eb,Cj]
theorem Rg{ds:List D}:W (Bt ds) st Q↔Q (.ref st.sto.length) ⟨st.loc,st.sto++[.list ds]⟩:=by
 constructor
 ·rintro⟨b,st',e,q⟩;cases e;exact q
 ·intro q;exact⟨_,_,rfl,q⟩
theorem zCJ:W (Ge x [.str y]) st Q↔((y.length==0)=false/\x.length<=sizeLine/\(partsBetween x (occurrences x y 0 x.length (x.length+1)) y.length).length<=sizeLine)/\Q (.ref st.sto.length) ⟨st.loc,st.sto++[.list ((Txt.split x y).map D.str)]⟩:=by
 unfold Ge;rw[Eb,Rg]
theorem Pl{k:Nat}:zAY (W (Dw x [.ref k]) st Q) (∃ds xs,st.sto[k]? =some (.list ds)/\Hr ds=some xs/\JoinOk x xs=true/\Q (.str (Str.join x xs)) st):=.mk <| by
 unfold W Dw;intro h0z;apply yo;intro _ k0
 obtain⟨ds,xs,h,h2,h3,q⟩:=h0z;apply k0
 exact⟨_,_,by simp only[h,h2,h3,if_true],q⟩
theorem E2{k:Nat}{Q:Gz->St->Prop}:zAY (W (Ba (.ref k)) st Q) (∃ds,st.sto[k]? =some (.list ds)/\Q ⟨ds,λσ=>σ[k]? =some (.list ds)⟩ st):=.mk <| by
 unfold W Ba;rintro⟨ds,h,q⟩
 exact⟨_,_,by simp only[h],q⟩
theorem zDD{k1 k2:Nat}{Q:Gz->St->Prop}:zAY (W (M6 [.ref k1,.ref k2]) st Q) (∃ds1 ds2,st.sto[k1]? =some (.list ds1)/\st.sto[k2]? =some (.list ds2)/\Q ⟨Ep ds1 ds2,Ye k1 k2 st.sto.length ds1 ds2⟩ ⟨st.loc,st.sto++[.priv]⟩):=.mk λ⟨_,_,h1,h2,q⟩=>⟨_,_,U1 h1 h2,q⟩
theorem Ss{ns:List Int}{i:Int}:W (Ag (.scr ns) (.int i)) st Q↔(0<=i/\i<2 ^ 63)/\∃n,ns[i.toNat]? =some n/\Q (.int n) st:=by
 unfold Ag;rw[Eb,Ww];simp only[Option.map_eq_some_iff];constructor
 ·rintro⟨h,d,⟨n,e,rfl⟩,q⟩;exact⟨h,n,e,q⟩
 ·rintro⟨h,n,e,q⟩;exact⟨h,.int n,⟨n,e,rfl⟩,q⟩
theorem zD2{i:Int}(h0:0<=i) (h1:i<x.length) (h2:x.length<=2 ^ 62):W (Ag (.str x) (.int i)) st Q↔Q (.str ⟨#[x.cps[i.toNat]'(by show i.toNat<x.length;exact Ja (Dq λZ=>Ac [_,_,_] [A9 x0 x1,A7 x2 x0,B0 x1 x2] rT Z h1 (Ch (Bi λY=>Ac [_] [A7 x0 (.n 0),A9 (.n 0) x0] rT Y h0))))]⟩) st:=by
 have hi:E5 i=true:=E3.mpr ⟨by omega,by omega⟩
 have hlt:i.toNat<x.cps.size:=by exact Ja (Dq λZ=>Ac [_,_,_] [A9 x0 x1,A7 x2 x0,B0 x1 x2] rT Z h1 (Ch (Bi λY=>Ac [_] [A7 x0 (.n 0),A9 (.n 0) x0] rT Y h0)))
 unfold Ag;rw[Eb,Ww,StrLaws.seqIndex_nonneg h0 h1];simp only[Option.bind_some,Array.getElem?_eq_getElem hlt,Option.map_some,hi,true_and];constructor
 ·rintro⟨d,e,q⟩;cases e;exact q
 ·intro q;exact⟨_,rfl,q⟩
end
theorem Su{loc:Be}{i j:Nat}{d:D}:B9 loc i d j=bif j==i then some d else loc j:=by
 unfold B9;by_cases h:j=i
 ·simp[h]
 ·rw[if_neg h,beq_false_of_ne h];rfl
theorem Cy{ps:List Nat}{body:Mn Fl}{ds:List D}{st:St}{Q:D->St->Prop}(hl:ds.length=ps.length) (h:W body ⟨Fj Br ps ds,st.sto⟩ (λfl st'=>match fl with|.ret d=>Q d ⟨st.loc,st'.sto⟩|_=>Q .none ⟨st.loc,st'.sto⟩)):
  W (Dv ps body ds) st Q:=by
 obtain⟨fl,st',e,q⟩:=h;unfold W Dv;rw[if_pos hl,e]
 cases fl<;>exact⟨_,_,rfl,q⟩
noncomputable abbrev zFH (J:St->Prop) (Q:Fl->St->Prop):Fl->St->Prop:=λfl st'=>match fl with
 |.next=>J st'
 |.cont=>J st'
 |.brk=>Q .next st'
 |.ret d=>Q (.ret d) st'
theorem Fg{tgt:D->Be->Option Be}{g:Bp->Prop}{body:Mn Fl}{Q:Fl->St->Prop}(J:List D->St->Prop) (hstep:∀d rest st,J (d::rest) st->g st.sto/\∃loc',tgt d st.loc=some loc'/\W body ⟨loc',st.sto⟩ (zFH (J rest) Q))
  (hend:∀st,J [] st->g st.sto/\Q .next st):∀(ds:List D) (st:St),J ds st->W (Bq tgt g body ds) st Q
 |[],st,h=>by
  obtain⟨h1,h2⟩:=hend st h;exact⟨.next,st,by(first|rw[Nj,if_pos h1]|rw[Dp,if_pos h1]),h2⟩
 |d::rest,st,h=>by
  apply yo;intro _ k0
  obtain⟨h1,loc',h2,fl,st',e,q⟩:=hstep d rest st h;apply k0
  cases fl with
  |next=>
   obtain⟨fl',st'',e',q'⟩:=Fg J hstep hend rest st' q;exact⟨fl',st'',by(rw[Dp,if_pos h1,h2];dsimp only;rw[e]);exact e',q'⟩
  |cont=>
   obtain⟨fl',st'',e',q'⟩:=Fg J hstep hend rest st' q;exact⟨fl',st'',by(rw[Dp,if_pos h1,h2];dsimp only;rw[e]);exact e',q'⟩
  |brk=>exact⟨_,_,by(rw[Dp,if_pos h1,h2];dsimp only;rw[e]),q⟩
  |ret d=>exact⟨_,_,by(rw[Dp,if_pos h1,h2];dsimp only;rw[e]),q⟩
noncomputable def Ct (σ σ':Bp):Prop:=∃j,σ'=σ++j
theorem Ct.refl(σ:Bp):Ct σ σ:=⟨[],by simp⟩
theorem Ct.trans{a b c:Bp}(x:Ct a b) (y:Ct b c):Ct a c:=by
 obtain⟨j,rfl⟩:=x;obtain⟨k,rfl⟩:=y;exact⟨j++k,by simp⟩
theorem Ct.get{a b:Bp}(x:Ct a b){k:Nat}{o:PO}(e:a[k]? =some o):b[k]? =some o:=by
 obtain⟨j,rfl⟩:=x;rw[List.getElem?_append_left (lq2 e).1];exact e
theorem Ct.app(σ j:Bp):Ct σ (σ++j):=⟨j,rfl⟩
theorem Ct.len{a b:Bp}(x:Ct a b):a.length<=b.length:=by obtain⟨j,rfl⟩:=x;simp
inductive zG3 (tgt:D->Be->Option Be) (g:Bp->Prop) (mt:Mn Bool) (me:Mn D) (keep:D->Bool) (V:D->D->Bp->Prop) (A:Be->Prop) (ds acc:List D) (loc:Be) (σ:Bp):Prop
 |mk (xs:List D) (loc':Be) (σ':Bp) (e:Ea tgt g mt me ds acc ⟨loc,σ⟩=.ok (acc++xs) ⟨loc',σ'⟩) (a:A loc') (x:Ct σ σ') (r:Bs (λx d=>V d x σ') xs (ds.filter keep))
theorem Ld{tgt:D->Be->Option Be}{g:Bp->Prop}{mt:Mn Bool}{me:Mn D}(keep:D->Bool) (V:D->D->Bp->Prop) (A:Be->Prop){σ₀:Bp}(hV:∀d x σ σ',Ct σ σ'->V d x σ->V d x σ') (hg:∀σ,Ct σ₀ σ->g σ):
  ∀(ds acc:List D) (loc:Be) (σ:Bp),(∀d,d∈ds->∀loc σ,A loc->Ct σ₀ σ->∃loc',tgt d loc=some loc'/\A loc'/\W mt ⟨loc',σ⟩ (λb st'=>b=keep d/\st'.loc=loc'/\Ct σ st'.sto/\(b=true->W me st' (λx st''=>st''.loc=loc'/\Ct st'.sto st''.sto/\V d x st''.sto))))->
   A loc->Ct σ₀ σ->zG3 tgt g mt me keep V A ds acc loc σ
 |[],acc,loc,σ,_,hA,hx=>⟨[],loc,σ,by(rw[Gm,if_pos (hg σ hx),List.append_nil]),hA,.refl _,.nil⟩
 |d::rest,acc,loc,σ,h,hA,hx=>by
  apply yo;intro _ k0
  obtain⟨loc',e1,hA',b,st',e2,rfl,hl,hx',he⟩:=h d lq1 loc σ hA hx;obtain⟨l2,σ2⟩:=st';apply k0
  cases hl;have hrest:=λd' m=>h d' (lq4 _ m)
  cases hk:keep d with
  |false=>
   rw[hk]at e2;obtain⟨xs,l3,σ3,e3,hA3,hx3,r⟩:=Ld keep V A hV hg rest acc l2 σ2 hrest hA' (hx.trans hx');refine⟨xs,l3,σ3,?_,hA3,hx'.trans hx3,?_⟩
   ·(rw[Cv,if_pos (hg σ hx),e1];dsimp only;rw[e2]);exact e3
   ·simp only[List.filter,hk];exact r
  |true=>
   rw[hk]at e2;apply yo;intro _ k0
   obtain⟨x,st3,e3,hl3,hx3,hv⟩:=he hk;obtain⟨l3,σ3⟩:=st3;apply k0
   have hl4:l3=l2:=hl3
   subst hl4;apply yo;intro _ k0
   obtain⟨xs,l4,σ4,e4,hA4,hx4,r⟩:=Ld keep V A hV hg rest (acc++[x]) l3 σ3 hrest hA' ((hx.trans hx').trans hx3)
   apply k0
   refine⟨x::xs,l4,σ4,?_,hA4,(hx'.trans hx3).trans hx4,?_⟩
   ·(rw[Cv,if_pos (hg σ hx),e1];dsimp only;rw[e2];dsimp only;rw[e3]);simpa using e4
   ·simp only[List.filter,hk];exact .cons (hV _ _ _ _ hx4 hv) r
theorem F1{cls:List Nat}{tgt:D->Be->Option Be}{mt:Mn Bool}{me:Mn D}{src:Gz}{st:St}{Q:D->St->Prop}(keep:D->Bool) (V:D->D->Bp->Prop) (A:Be->Prop) (hlen:src.ds.length<=sizeLine) (hV:∀d x σ σ',Ct σ σ'->V d x σ->V d x σ') (hg:∀σ,Ct st.sto σ->src.g σ)
  (hA:A (G8 cls st.loc)) (h:∀d,d∈src.ds->∀loc σ,A loc->Ct st.sto σ->∃loc',tgt d loc=some loc'/\A loc'/\W mt ⟨loc',σ⟩ (λb st'=>b=keep d/\st'.loc=loc'/\Ct σ st'.sto/\(b=true->W me st' (λx st''=>st''.loc=loc'/\Ct st'.sto st''.sto/\V d x st''.sto))))
  (hQ:∀xs σ',Ct st.sto σ'->Bs (λx d=>V d x σ') xs (src.ds.filter keep)->Q (.ref σ'.length) ⟨st.loc,σ'++[.list xs]⟩):W (Bm cls tgt mt me src) st Q:=by
 apply yo;intro _ k0
 obtain⟨xs,l,σ',e,_,hx,r⟩:=Ld keep V A hV hg src.ds [] (G8 cls st.loc) st.sto h hA (.refl _)
 apply k0
 refine⟨_,_,?_,hQ xs σ' hx r⟩
 unfold Bm;rw[if_pos hlen,e];simp
end
section
open Builtin.Str
noncomputable def cl (x:Str):List Nat:=x.cps.toList
theorem zDi{x y:Str}(h:cl x=cl y):x=y:=by
 obtain⟨a⟩:=x;obtain⟨b⟩:=y;have:a=b:=Array.toList_inj.mp h
 rw[this]
theorem Fv(x y:Str):cl (x++y)=cl x++cl y:=by
 show(x.cps++y.cps).toList=_
 simp[cl]
theorem Bz(x:Str):(cl x).length=x.length:=by simp[cl,Str.length]
noncomputable def Db (c:Nat):List (List Nat)->List Nat
 |[]=>[]
 |[a]=>a
 |a::b::r=>a++c::Db c (b::r)
theorem Ma{c:Nat}:Db c []=[]:=rfl
theorem Mg{c:Nat}{a:List Nat}:Db c [a]=a:=rfl
theorem Mf{c:Nat}{a b:List Nat}{r:List (List Nat)}:Db c (a::b::r)=a++c::Db c (b::r):=rfl
theorem K9(c:Nat):∀xs:List Str,cl (Str.join ⟨#[c]⟩ xs)=Db c (xs.map cl)
 |[]=>rfl
 |[x]=>rfl
 |x::y::r=>by
  have:=K9 c (y::r)
  show cl (x++⟨#[c]⟩++Str.join ⟨#[c]⟩ (y::r))=_
  simp only[Fv,Fv,this];simp[Ma,Mg,Mf,cl]
theorem zAq{c:Nat}:∀{a b r s:List Nat},c∉a->c∉b->a++c::r=b++c::s->a=b/\r=s:=by
 intro a
 induction a with
 |nil=>
  intro b r s _ hb e
  cases b with
  |nil=>exact⟨rfl,(List.cons.inj e).2⟩
  |cons y b=>exact absurd (by rw[(List.cons.inj e).1];exact lq1) hb
 |cons x a ih=>
  intro b r s ha hb e
  cases b with
  |nil=>exact absurd (by rw[(List.cons.inj e).1];exact lq1) ha
  |cons y b=>
   obtain⟨e1,e2⟩:=List.cons.inj e;obtain⟨h1,h2⟩:=ih (λm=>ha (lq4 _ m)) (λm=>hb (lq4 _ m)) e2
   exact⟨by rw[e1,h1],h2⟩
theorem Vb{c:Nat}:∀{as bs:List (List Nat)},as≠[]->bs≠[]->(∀a,a∈as->c∉a)->(∀b,b∈bs->c∉b)->Db c as=Db c bs->as=bs:=by
 intro as
 induction as with
 |nil=>intro bs h;exact absurd rfl h
 |cons a as ih=>
  intro bs h1 h2 ha hb e;rcases bs with _|⟨b,bs⟩
  ·exact absurd rfl h2
  rcases as with _|⟨a',r⟩
  ·rcases bs with _|⟨b',s⟩
   ·have e:a=b:=e
    rw[e]
   ·have e:a=b++c::Db c (b'::s):=e
    exact absurd (by rw[e];simp) (ha a lq1)
  ·rcases bs with _|⟨b',s⟩
   ·have e:a++c::Db c (a'::r)=b:=e
    exact absurd (by rw[←e];simp) (hb b lq1)
   ·have e:a++c::Db c (a'::r)=b++c::Db c (b'::s):=e
    obtain⟨h1,h2⟩:=zAq (ha a lq1) (hb b lq1) e;rw[h1,ih (by simp) (by simp) (λx m=>ha x (lq4 _ m)) (λx m=>hb x (lq4 _ m)) h2]
noncomputable def D7 (c:Nat):List Nat->List (List Nat)
 |[]=>[[]]
 |x::r=>if x=c then[]::D7 c r else match D7 c r with
  |[]=>[[x]]
  |a::s=>(x::a)::s
theorem Jz{c x:Nat}{r:List Nat}:D7 c (x::r)=if x=c then[]::D7 c r else match D7 c r with
  |[]=>[[x]]
  |a::s=>(x::a)::s:=rfl
theorem Ft(c:Nat):∀l,D7 c l≠[]
 |[]=>λh=>by cases h
 |x::r=>by
  rw[Jz];split
  ·simp
  ·split<;>simp
theorem Lu(c:Nat):∀l,Db c (D7 c l)=l
 |[]=>rfl
 |x::r=>by
  have ih:=Lu c r;rw[Jz];by_cases h:x=c
  ·rw[if_pos h]
   cases e:D7 c r with
   |nil=>exact absurd e (Ft c r)
   |cons a s=>rw[e]at ih;show[]++c::Db c (a::s)=_;rw[ih,h];rfl
  ·rw[if_neg h]
   cases e:D7 c r with
   |nil=>exact absurd e (Ft c r)
   |cons a s=>
    rw[e]at ih
    cases s with
    |nil=>show x::a=_;rw[←ih];rfl
    |cons b t=>show(x::a)++c::Db c (b::t)=_;rw[←ih];rfl
theorem Ln(c:Nat):∀l,∀p,p∈D7 c l->c∉p
 |[],p,m=>by rw[lq0 (show p∈[[]]from m)];simp
 |x::r,p,m=>by
  have ih:=Ln c r;rw[Jz]at m;by_cases h:x=c
  ·rw[if_pos h]at m;rcases List.mem_cons.mp m with rfl|m
   ·simp
   ·exact ih p m
  ·rw[if_neg h]at m
   cases e:D7 c r with
   |nil=>exact absurd e (Ft c r)
   |cons a s=>
    rw[e]at m ih;rcases List.mem_cons.mp m with rfl|m
    ·intro q;rcases List.mem_cons.mp q with q|q
     ·exact h q.symm
     ·exact ih a lq1 q
    ·exact ih p (lq4 _ m)
theorem Mu(x:Str) (c:Nat):Txt.split x ⟨#[c]⟩≠[]:=by
 unfold Txt.split;split
 ·simp
 ·split
  ·simp
  ·rw[StrLaws.partsBetween_eq];obtain⟨p,r,e⟩:=StrLaws.partsFrom_ne x (⟨#[c]⟩:Str).length 0 (occurrences x ⟨#[c]⟩ 0 x.length (x.length+1))
   rw[e];simp
theorem Rq(x:Str) (c:Nat):(Txt.split x ⟨#[c]⟩).map cl=D7 c (cl x):=by
 refine Vb (c:=c) (by simpa using Mu x c) (Ft _ _) (λa m=>?_) (Ln c _) ?_
 ·obtain⟨p,mp,rfl⟩:=List.mem_map.mp m;exact StrLaws.split_free x c p mp
 ·rw[←K9,StrLaws.join_split,Lu]
theorem Gp(x:Str) (w:Nat):∀(cuts:List Nat) (a:Nat),(StrLaws.partsFrom x w a cuts).length=cuts.length+1
 |[],a=>rfl
 |c::r,a=>by
  have:=Gp x w r (c+w)
  simp only[StrLaws.partsFrom,List.length_cons,this]
theorem Mr{x:Str}{c:Nat}{st:St}{Q:D->St->Prop}(hx:x.length+2<=sizeLine) (h:Q (.ref st.sto.length) ⟨st.loc,st.sto++[.list ((Txt.split x ⟨#[c]⟩).map D.str)]⟩):W (Ge x [.str ⟨#[c]⟩]) st Q:=by
 refine zCJ.mpr ⟨⟨rfl,by exact Ar λZ=>A5 [_,_] [A7 x1 x0,A9 (.a x0 (.n 2)) x1] rT Z hx,?_⟩,h⟩
 simp only[StrLaws.partsBetween_eq,Gp];have:=StrLaws.occ_length_le_len x ⟨#[c]⟩ 0 x.length (x.length+1)
 exact Ar λZ=>A5 [_,_,_,_] [A7 x0 (.a x1 (.n 1)),A9 (.a x2 (.n 2)) x0,A9 x1 x3,A9 x3 (.a x2 (.n 1))] rT Z hx this (L5 _ _)
theorem H3(xs:List Str):Hr (xs.map D.str)=some xs:=by
 induction xs with
 |nil=>rfl
 |cons x r ih=>show(Hr (r.map D.str)).map (x:: ·)=_;rw[ih];rfl
theorem H1(xs:List Int):H2 (xs.map D.int)=some xs:=by
 induction xs with
 |nil=>rfl
 |cons x r ih=>show(H2 (r.map D.int)).map (x:: ·)=_;rw[ih];rfl
theorem Ih{sep:Str}{xs:List Str}{B:Nat}(hB:∀x,x∈xs->x.length<=B) (h:xs.length*B+xs.length*sep.length<=16777216):JoinOk sep xs=true:=by
 unfold JoinOk;rw[StrLaws.joinFits hB h];rfl
theorem Km(c:Nat){B:Nat}:∀(as:List (List Nat)),(∀a,a∈as->a.length<=B)->(Db c as).length<=as.length*(B+1)
 |[],_=>by simp[Ma,Mg,Mf]
 |[a],h=>by
  have:=h a lq1
  simp only[Ma,Mg,Mf,List.length_cons,List.length_nil];omega
 |a::b::r,h=>by
  have h1:=h a lq1;have h2:=Km c (b::r) (λx m=>h x (lq4 _ m))
  simp only[Ma,Mg,Mf,lq7,List.length_cons]at h2 ⊢;rw[Nat.succ_mul];exact Ar λZ=>A5 [_,_,_,_] [A7 (.a x3 (.a x1 (.n 1))) (.a x0 (.a x2 (.n 1))),A9 x0 x1,A9 x2 x3] rT Z h1 h2
theorem Xo:Str.ofString ""=⟨#[]⟩:=rfl
theorem zFI:Str.ofString "\n"=⟨#[10]⟩:=rfl
theorem Nl:∀xs:List Str,cl (Str.join ⟨#[]⟩ xs)=(xs.map cl).flatten
 |[]=>rfl
 |[x]=>by simp[Str.join]
 |x::y::r=>by
  have:=Nl (y::r)
  show cl (x++⟨#[]⟩++Str.join ⟨#[]⟩ (y::r))=_
  simp only[Fv,Fv,this];simp[cl]
theorem D6{α:Type}(l:List α):l.filter (λ_=>true)=l:=List.filter_eq_self.mpr λ_ _=>rfl
theorem Mj{a s:Int}{n:Nat}{d:D}(h:d∈Di a s n):∃j:Nat,j<n/\d=.int (a+j*s):=by
 simp only[Di,List.mem_map,List.mem_range]at h;obtain⟨j,hj,rfl⟩:=h;exact⟨j,hj,rfl⟩
theorem Dy{a s:Int}{n:Nat}:(Di a s n).length=n:=by simp[Di]
end
section
open Builtin.Str
section
variable {st:St}{a b:Int}{x y:Str}{Q:D->St->Prop}
theorem Ot:W (Ao (.int a) (.int b)) st Q↔Q (.int (a+b)) st:=Cj
theorem Ve{k l:Nat}:zAY (W (Ao (.ref k) (.ref l)) st Q) (∃ds es,st.sto[k]? =some (.list ds)/\st.sto[l]? =some (.list es)/\ds.length+es.length<=sizeLine/\Q (.ref st.sto.length) ⟨st.loc,st.sto++[.list (ds++es)]⟩):=.mk <| by
 unfold W Ao;rintro⟨d1,d2,h1,h2,h3,q⟩
 exact⟨_,_,by simp only[h1,h2,h3,if_true,Bt],q⟩
theorem Uo{ds es:List D}:W (Ao (.tup ds) (.tup es)) st Q↔ds.length+es.length<=sizeLine/\Q (.tup (ds++es)) st:=by unfold Ao;rw[Eb,Cj]
theorem Re{m:Mn D}{lo hi:Option (Mn D)}:W (Eo m lo hi) st Q↔W m st λd st1=>W (Gt lo) st1 λl st2=>W (Gt hi) st2 λh st3=>W (G3 d l h) st3 Q:=by
 unfold Eo;simp only[Ad,Cj]
theorem Lr{Q:Option Int->St->Prop}:W (Gt none) st Q↔Q none st:=Cj
theorem Lq{m:Mn D}{Q:Option Int->St->Prop}:W (Gt (some m)) st Q↔W m st λd st1=>W (zAF d) st1 Q:=by unfold Gt;rw[Ad]
theorem Th{Q:Option Int->St->Prop}:W (zAF (.int a)) st Q↔Q (some a) st:=Cj
theorem W5{k:Nat}{l h:Option Int}:zAY (W (G3 (.ref k) l h) st Q) (∃ds,st.sto[k]? =some (.list ds)/\ds.length<=sizeLine/\Q (.ref st.sto.length) ⟨st.loc,st.sto++[.list (Eg l h ds)]⟩):=.mk <| by
 unfold W G3;rintro⟨d1,h1,h3,q⟩
 exact⟨_,_,by simp only[h1,h3,if_true,Bt],q⟩
theorem zBy{ms:Mn (List D)}:W (D1 ms) st Q↔W ms st λds st1=>ds.length<=sizeLine/\Q (.ref st1.sto.length) ⟨st1.loc,st1.sto++[.list ds]⟩:=by
 unfold D1;simp only[Ad,Eb,Rg]
theorem Lg{ms:Mn (List D)}:W (Ek ms) st Q↔W ms st λds st1=>ds.length<=sizeLine/\Q (.tup ds) st1:=by
 unfold Ek;simp only[Ad,Eb,Cj]
theorem Za{k:Nat}{i:Int}(h0:0<=i){ds:List D}(hk:st.sto[k]? =some (.list ds)) (h1:i<ds.length) (h2:ds.length<=2 ^ 62):W (Ag (.ref k) (.int i)) st Q↔Q (ds[i.toNat]'(by exact Ja (Dq λZ=>Ac [_,_,_] [A9 x0 x1,A7 x2 x0,B0 x1 x2] rT Z h1 (Ch (Bi λY=>Ac [_] [A7 x0 (.n 0),A9 (.n 0) x0] rT Y h0))))) st:=by
 have hi:E5 i=true:=E3.mpr ⟨by omega,by omega⟩
 have hs:seqIndex? i ds.length=some i.toNat:=StrLaws.seqIndex_nonneg h0 h1
 have hlt:i.toNat<ds.length:=by exact Ja (Dq λZ=>Ac [_,_,_] [A9 x0 x1,A7 x2 x0,B0 x1 x2] rT Z h1 (Ch (Bi λY=>Ac [_] [A7 x0 (.n 0),A9 (.n 0) x0] rT Y h0)))
 unfold W Ag;dsimp only;rw[hk];simp only[hi,if_true,hs,Option.bind_some,List.getElem?_eq_getElem hlt];constructor
 ·rintro⟨d,st',e,q⟩;cases e;exact q
 ·intro q;exact⟨_,_,rfl,q⟩
end
end
section
open Builtin.Str
section
variable {st:St}{a b:Int}{x y:Str}{Q:D->St->Prop}
theorem Sy{k l:Nat}{ds:List D}{ps:List PyData}(h1:st.sto[k]? =some (.list ds)) (h2:st.sto[l]? =some (.list ds)) (hp:Do ds=some ps) (hc:PyData.canLayAll0 ps=true) (hd:PyData.depthAll ps<=49) (h:Q (.bool true) st):W (Eh (.ref k) (.ref l)) st Q:=by
 refine⟨.bool true,st,?_,h⟩
 show Q8 (.ref k) (.ref l) st=_
 have hcl:PyData.canLay0 (.list ps)=true:=by simpa [PyData.canLay0]using hc
 have hdl:PyData.depth (.list ps)<=50:=by rw[PyData.depth];omega
 simp only[Q8,Je h1,Je h2,hp,Option.map_some,hcl,hdl,and_self,if_true,SeqAt.eqv_refl _ hcl]
theorem zCn{F:Nat->Mn D}{k:Nat}:zAY (W (Da F (.ref k)) st Q) ((∃ds,st.sto[k]? =some (.list ds))/\W (F k) st Q):=.mk <| by
 unfold W Da;rintro⟨⟨ds,h⟩,a,st',e,q⟩
 exact⟨a,st',by simp only[h];exact e,q⟩
theorem Qy{k:Nat}{d:D}:zAY (W (Bg k d) st Q) (∃ds,st.sto[k]? =some (.list ds)/\ds.length<=sizeLine/\Q .none ⟨st.loc,st.sto.set k (.list (ds++[d]))⟩):=.mk <| by
 unfold W Bg;rintro⟨ds,h,h2,q⟩
 exact⟨_,_,by simp only[h,h2,if_true],q⟩
theorem Yr{k:Nat}{ds:List D}(h:st.sto[k]? =some (.list ds)) (hl:ds.length<=sizeLine) (hQ:Q (.ref st.sto.length) ⟨st.loc,st.sto++[.list ds]⟩):W (F5 [.ref k]) st Q:=
 ⟨_,_,by unfold F5;simp only[h,hl,if_true,Bt],hQ⟩
theorem V6{F:List D->Mn D}{k:Nat}{ds:List D}{ks:List (Int×Int)}(h:st.sto[k]? =some (.list ds)) (hK:Jk F st ds ks) (hQ:Q (.ref st.sto.length) ⟨st.loc,st.sto++[.list ds]⟩):W (By F [.ref k]) st Q:=
 ⟨_,_,by rw[Lw h hK];rfl,hQ⟩
theorem zAG{k:Nat}{Q:Gz->St->Prop}:zAY (W (Ki [.ref k]) st Q) (∃ds,st.sto[k]? =some (.list ds)/\Q ⟨Dh ds,Od k ds⟩ st):=.mk <| by
 unfold W Ki;rintro⟨ds,h,q⟩
 exact⟨_,_,by simp only[h],q⟩
theorem X7{c:Int}{Q:Gz->St->Prop}:W (C4 [.int a,.int b,.int c]) st Q↔(okR a&&okR b&&(decide (1<=c)&&decide (c<1000)))=true/\Q ⟨Di a c (Builtin.Range.rangeSize a b c).toNat,λ_=>True⟩ st:=by
 show W (if(okR a&&okR b&&(decide (1<=c)&&decide (c<1000)))=true then ret1 _ else botM) st Q↔_
 rw[Eb,Cj]
end
theorem Bu{a b:Int}(h:0<b):0<=a.fmod b/\a.fmod b<b:=⟨Int.fmod_nonneg_of_pos a h,Int.fmod_lt_of_pos a h⟩
theorem E4{a:Int}(h: -1000000<a) (h2:a<1000000):F0 a=true:=by simp only[F0,Bool.and_eq_true,decide_eq_true_eq];omega
end
section
variable {α:Type}{st st1:St}
theorem Aa{m:Mn α}{a:α}{Q:α->St->Prop}(e:m st=.ok a st1) (h:Q a st1):W m st Q:=⟨a,st1,e,h⟩
theorem As{m1 m2:Mn Fl}{Q:Fl->St->Prop}(e:m1 st=.ok .next st1) (h:W m2 st1 Q):W (Ae m1 m2) st Q:=L3.mpr ⟨_,_,e,h⟩
theorem Jo{m1 m2:Mn Fl}{d:D}{Q:Fl->St->Prop}(e:m1 st=.ok (.ret d) st1) (h:Q (.ret d) st1):W (Ae m1 m2) st Q:=L3.mpr ⟨_,_,e,h⟩
theorem Al{m1 m2:Mn Fl}{Q:Fl->St->Prop}(h:W m1 st (zDc m2 Q)):W (Ae m1 m2) st Q:=L3.mpr h
theorem Dj{c:Mn Bool}{b:Bool}{m1 m2 k:Mn Fl}{Q:Fl->St->Prop}(e:c st=.ok b st1) (ht:b=true->W m1 st1 (zDc k Q)) (hf:b=false->W m2 st1 (zDc k Q)):W (Ae (Iv c m1 m2) k) st Q:=by
 refine L3.mpr (Wk.mpr ⟨_,_,e,?_⟩)
 cases b with
 |true=>exact ht rfl
 |false=>exact hf rfl
theorem zFV{c:Mn Bool}{b:Bool}{m1 m2:Mn Fl}{Q:Fl->St->Prop}(e:c st=.ok b st1) (h:b=true) (ht:W m1 st1 Q):W (Iv c m1 m2) st Q:=by
 subst h;exact Wk.mpr ⟨_,_,e,ht⟩
theorem zFb{c:Mn Bool}{b:Bool}{m1 m2:Mn Fl}{Q:Fl->St->Prop}(e:c st=.ok b st1) (h:b=false) (hf:W m2 st1 Q):W (Iv c m1 m2) st Q:=by
 subst h;exact Wk.mpr ⟨_,_,e,hf⟩
theorem Ax{m:Mn α}{a:α}(h:W m st λd s=>d=a/\s=st1):m st=.ok a st1:=by
 obtain⟨d,s,e,rfl,rfl⟩:=h;exact e
theorem A1{i:Nat}{d:D}(h:st.loc i=some d):A0 i st=.ok d st:=by unfold A0;rw[h]
theorem A2{β:Type}{m:Mn β}{f:β->Mn α}{b:β}{a:α}{st2:St}(e:m st=.ok b st1) (e2:f b st1=.ok a st2):bnd m f st=.ok a st2:=by unfold bnd;rw[e];exact e2
theorem A8{f:D->D->Mn D}{m1 m2:Mn D}{a b c:D}{st2 st3:St}(e1:m1 st=.ok a st1) (e2:m2 st1=.ok b st2) (e3:f a b st2=.ok c st3):Ab f m1 m2 st=.ok c st3:=A2 e1 (A2 e2 e3)
theorem Dc{f:D->D->Mn D}{m1 m2:Mn D}{a b c:D}{t:Bool}{st2 st3:St}(e1:m1 st=.ok a st1) (e2:m2 st1=.ok b st2) (e3:f a b st2=.ok c st3) (e4:Cf c st3=.ok t st3):Dl f m1 m2 st=.ok t st3:=A2 e1 (A2 e2 (A2 e3 e4))
theorem Bk{m:Mn D}{i:Nat}{d:D}(e:m st=.ok d st1):bnd m (Af i) st=.ok .next ⟨B9 st1.loc i d,st1.sto⟩:=A2 e rfl
theorem Fk{k:Nat}{i:Int}{F:List Int}(hk:st.sto[k]? =some (.list (F.map D.int))) (h0:0<=i) (h1:i<F.length) (h2:F.length<=2 ^ 62):Ag (.ref k) (.int i) st=.ok (.int (F.getD i.toNat 0)) st:=by
 refine Ax ((Za h0 hk (by rw[lq6];exact h1) (by rw[lq6];exact h2)).mpr ⟨?_,rfl⟩)
 rw[List.getElem_map,List.getD_eq_getElem?_getD,List.getElem?_eq_getElem (by omega)];rfl
theorem Jw{f:D->D->Mn D}{m1 m2:Mn D}{Q:D->St->Prop}(h:W m1 st λa s1=>W m2 s1 λb s2=>W (f a b) s2 Q):W (Ab f m1 m2) st Q:=Ad.mpr (h.mono λ_ _ q=>Ad.mpr q)
theorem Xf{i k:Nat}{p:Int}{ms:Mn D}{Q:Fl->St->Prop}(hi:st.loc i=some (.int p)) (h:W ms st λd s=>∃q,d=.int q/\Q .next ⟨B9 s.loc k (.int (max p q)),s.sto⟩):W (bnd (bnd (A6 (A0 i) (A6 ms Ai)) Jx) (Af k)) st Q:=by
 obtain⟨d,s,e,q,rfl,h⟩:=h;exact Aa (A2 (A2 (A2 (A1 hi) (A2 (A2 e rfl) rfl)) rfl) rfl) h
noncomputable def Oe (l:List (Option D)):Be:=λi=>l.getD i none
theorem Cc{l:List (Option D)}{i:Nat}{d:D}(h:Nat.blt i l.length=true):B9 (Oe l) i d=Oe (l.set i (some d)):=by
 have h:i<l.length:=Nat.le_of_ble_eq_true h
 funext j
 unfold B9 Oe;rw[List.getD_eq_getElem?_getD,List.getD_eq_getElem?_getD];by_cases e:j=i
 ·subst e;rw[if_pos rfl,List.getElem?_set_self h];rfl
 ·rw[if_neg e,List.getElem?_set_ne (Ne.symm e)]
end
noncomputable def Sv (a b:D):Mn D:=λst=>match G1 st.sto a,G1 st.sto b with
 |some x,some y=>if x.canLay0=true/\y.canLay0=true/\x.depth<=50 then .ok (.bool (!x.eqv y)) st else .bot
 |_,_=>.bot
noncomputable def Ux:D->D->Mn D
 |.ref k,.ref l=>Sv (.ref k) (.ref l)
 |.tup x,.tup y=>Sv (.tup x) (.tup y)
 |a,b=>zAc a b
section
variable {G:Gd}{C:Cx}{A:Around}{P:List Addr}{env:Env}{s:Shared}{ρ:List Addr}{st:St}
theorem zAU{d1 d2:D}{v1 v2:Value}(K:Ok G C A P env s ρ st) (r1:C9 G s.heap ρ d1 v1) (r2:C9 G s.heap ρ d2 v2):At G A env s ρ st (RV G) (compareOp .NotEq v1 v2) (Sv d1 d2):=by
 refine At.leaf (λhb=>?_) K
 apply yo;intro _ k0
 cases e1:G1 st.sto d1 with
 |none=>exact absurd (by simp only[Sv,e1]) hb
 |some x=>
  cases e2:G1 st.sto d2 with
  |none=>exact absurd (by simp only[Sv,e1,e2]) hb
  |some y=>
   by_cases hc:x.canLay0=true/\y.canLay0=true/\x.depth<=50
   ·obtain⟨as,ra⟩:=G4 K.inv e1 r1;obtain⟨bs,rb⟩:=G4 K.inv e2 r2;apply k0
    refine SeqAt.compareNe_reads ra rb hc.1 hc.2.1 ?_ ⟨.bool (!x.eqv y),by simp only[Sv,e1,e2,hc,and_self,if_true],Av.same0,rfl⟩
    have:=K.room.units
    have hl:cLine=9900:=rfl
    have:=hc.2.2
    omega
   ·exact absurd (by simp only[Sv,e1,e2,hc,if_false]) hb
theorem zD9{P:Prop}{d1 d2:D}(k1:∀a b,d1=.ref a->d2=.ref b->P) (k3:∀a b,d1=.tup a->d2=.tup b->P) (k2:Ux d1 d2=zAc d1 d2->P):P:=by
 cases d1 with
 |ref a=>cases d2<;>first|exact k1 _ _ rfl rfl|exact k2 rfl
 |tup a=>cases d2<;>first|exact k3 _ _ rfl rfl|exact k2 rfl
 |_=>exact k2 rfl
theorem zC9:Fc G .NotEq Ux:=λC A P env s ρ st d1 d2 v1 v2 K r1 r2=>zD9 (d1:=d1) (d2:=d2) (λa b e1 e2=>by subst e1 e2;exact zAU K r1 r2) (λa b e1 e2=>by subst e1 e2;exact zAU K r1 r2) λe=>by rw[e];exact zBN C A P env s ρ st d1 d2 v1 v2 K r1 r2
end
section
variable {G:Gd}{C:Cx}{A:Around}{P:List Addr}{env:Env}{s:Shared}{ρ:List Addr}{st:St}
end
section
variable {G:Gd}{C:Cx}{A:Around}{P:List Addr}{env:Env}{s:Shared}{ρ:List Addr}{st:St}
theorem Bc.toS0{s':Shared}{r:Gq Fl}{x:Value}(K:Ok G C A P env s ρ st) (q:Bc G env s ρ st r x s'):zAD G C.tbl P env s ρ r x s':=
 let⟨ρ',c,σ',a,e,I',x',ex,fl⟩:=q;⟨ρ',c,⟨st.loc,σ'⟩,a,e,I',x'.nil,K.frm.keep K.inv x',ex,fl⟩
end
noncomputable def Cd:D->D->D->Mn Fl
 |.ref k,.int i,v=>λst=>match st.sto[k]? with
  |some (.list ds)=>if 0<=i/\i<ds.length/\ds.length<=sizeLine then .ok .next ⟨st.loc,st.sto.set k (.list (ds.set i.toNat v))⟩else .bot
  |_=>.bot
 |_,_,_=>botM
noncomputable abbrev Ej (f:D->D->D->Mn Fl) (mv mo mi:Mn D):Mn Fl:=bnd mv λv=>bnd mo λd=>bnd mi λe=>f d e v
noncomputable def O8:D->D->Mn D
 |d,.ref k=>λst=>match Ks d,(match st.sto[k]? with|some (.list ds)=>Do ds|_=>none)with
  |some x,some xs=>if PyData.canLayAll0 xs=true/\x.canLay0=true/\x.depth<=50 then .ok (.bool (xs.any λy=>PyData.eqv y x)) st else .bot
  |_,_=>.bot
 |_,_=>botM
section
variable {G:Gd}{C:Cx}{A:Around}{P:List Addr}{env:Env}{s:Shared}{ρ:List Addr}{st:St}
noncomputable def zAM (G:Gd) (f:D->D->D->Mn Fl):Prop:=∀C A P env s ρ st d e v ov iv vv (E:Value->Shared->Prop),Ok G C A P env s ρ st->C9 G s.heap ρ d ov->C9 G s.heap ρ e iv->C9 G s.heap ρ v vv->f d e v st≠.bot->
 wpAny G.M A (setItem ov iv vv) (λ_ s'=>∃ρ' σ',f d e v st=.ok .next ⟨st.loc,σ'⟩/\Ci G s' ρ' σ'/\Ev [] s.heap ρ s'.heap ρ') E s
theorem zEL{f:D->D->D->Mn Fl}{o i v:Expr}{mv mo mi:Mn D}{p' pos:Pos}(hf:zAM G f) (hv:SE G C v mv) (ho:SE G C o mo) (hi:SE G C i mi) (hsw:∀env,swapsWith v (some (.Subscript o i p')) pos.line env=pure false):SS G C (.Assign [.Subscript o i p'] v pos) (Ej f mv mo mi):=.mk <| λA P env s ρ st K W hb=>by
 refine wpAny_Assign_Subscript ?_ (hsw env)
 refine wpAny_mono (hv.run A P env s ρ st K (An hb)) (λvv s1 q=>?_) λx s' q=>Bc.toS0 K (Bc.bnd q)
 refine Fh.elim q λρ1 dv σ1 e1 I1 x1 rv=>?_
 have K1:=K.step I1 x1;have e2:Ej f mv mo mi st=bnd mo (λd=>bnd mi λe=>f d e dv) ⟨st.loc,σ1⟩:=by simp only[Ej,bnd,e1]
 rw[e2]at hb ⊢;refine wpAny_mono (ho.run A P env s1 ρ1 _ K1 (An hb)) (λov s2 q=>?_) λx s' q=>Bc.toS0 K (Bc.tr (Bc.bnd q) x1)
 refine Fh.elim q λρ2 dd σ2 e3 I2 x2 rd=>?_
 have K2:=K1.step I2 x2;have e4:bnd mo (λd=>bnd mi λe=>f d e dv) ⟨st.loc,σ1⟩=bnd mi (λe=>f dd e dv) ⟨st.loc,σ2⟩:=by simp only[bnd,e3]
 rw[e4]at hb ⊢;refine wpAny_mono (hi.run A P env s2 ρ2 _ K2 (An hb)) (λiv s3 q=>?_) λx s' q=>Bc.toS0 K (Bc.tr (Bc.tr (Bc.bnd q) x2) x1)
 refine Fh.elim q λρ3 di σ3 e5 I3 x3 ri=>?_
 have K3:=K2.step I3 x3;have e6:bnd mi (λe=>f dd e dv) ⟨st.loc,σ2⟩=f dd di dv ⟨st.loc,σ3⟩:=by simp only[bnd,e5]
 rw[e6]at hb ⊢;refine wpAny_mono (hf C A P env s3 ρ3 ⟨st.loc,σ3⟩ dd di dv ov iv vv _ K3 (C9.mono (x3.stb I2 .nil) _ _ rd) ri (C9.mono (x3.stb I2 .nil) _ _ (C9.mono (x2.stb I1 .nil) _ _ rv)) hb) (λ_ s4 q=>?_) λ_ _ q=>q
 obtain⟨ρ4,σ4,e7,I4,x4⟩:=q;have xa:=(x1.trans x2).trans (x3.trans x4);exact⟨ρ4,.next,⟨st.loc,σ4⟩,e7,I4,xa.nil,K.frm.keep K.inv xa,rfl⟩
theorem Yd:zAM G Cd:=λC A P env s ρ st d e v ov iv vv E K rd re rv hb=>by
 cases d<;>first|exact absurd rfl hb|skip
 rename_i k
 cases e<;>first|exact absurd rfl hb|skip
 rename_i i;obtain⟨a,rfl,hk⟩:=rd;obtain⟨t,rfl⟩:=re
 cases hp:st.sto[k]? with
 |none=>exact absurd (by unfold Cd;simp only[hp]) hb
 |some p=>
  cases p with
  |list ds=>
   by_cases hl:0<=i/\i<ds.length/\ds.length<=sizeLine
   ·obtain⟨vs,⟨n,ho⟩,rr⟩:=K.inv.sto k a _ hk hp;have hsz:=rr.size;have hsl:sizeLine<2 ^ 62:=by decide
    refine PySem.W.ki_setAt ho hl.1 (by exact Dq λZ=>Ac [_,_,_] [A9 (.n 9223372036854775808) x0,A7 x0 x1,A9 x1 x2,A7 x2 (.n 4611686018427387904)] rT Z hl.2.1 (C5 hl.2.2) (Gi hsl)) (by exact Dq λZ=>Ac [_,_,_] [A9 x1 x0,A7 x0 x2,Cg x1 x2] rT Z hl.2.1 (Kj hsz)) ?_
    obtain⟨I3,x3⟩:=Rv (ds:=ds.set i.toNat v) (g:=λxs=>xs.setIfInBounds i.toNat vv) K hk ho (λS=>by
     have:=Au.of_all2 ((Au.all2 (Au.mono S _ _ rr)).set (C9.mono S _ _ rv) i.toNat)
     rw[Array.toList_setIfInBounds];exact this)
    exact⟨ρ,_,by unfold Cd;simp only[hp];rw[if_pos hl],I3,x3⟩
   ·exact absurd (by unfold Cd;simp only[hp];rw[if_neg hl]) hb
  |_=>exact absurd (by unfold Cd;simp only[hp]) hb
theorem zB7:Fc G .In O8:=λC A P env s ρ st d1 d2 v1 v2 K r1 r2=>by
 refine At.leaf (λhb=>?_) K
 cases d2<;>first|exact absurd rfl hb|skip
 rename_i k
 cases e1:Ks d1 with
 |none=>exact absurd (by unfold O8;simp only[e1]) hb
 |some x=>
  cases e2:(match st.sto[k]? with|some (.list ds)=>Do ds|_=>none)with
  |none=>exact absurd (by unfold O8;simp only[e1,e2]) hb
  |some xs=>
   by_cases hc:PyData.canLayAll0 xs=true/\x.canLay0=true/\x.depth<=50
   ·obtain⟨as,ra⟩:=J9 _ _ _ e1 r1;have e3:G1 st.sto (.ref k)=some (.list xs):=by
     split at e2
     ·rename_i ds h;rw[Je h,e2];rfl
     ·cases e2
    obtain⟨bs,rb⟩:=G4 K.inv e3 r2;refine SeqAt.in_list_reads rb ra hc.1 hc.2.1 ?_ ⟨.bool (xs.any λy=>PyData.eqv y x),by unfold O8;simp only[e1,e2];rw[if_pos hc],Av.same,rfl⟩
    have:=K.room.units
    have hl:cLine=9900:=rfl
    have:=hc.2.2
    omega
   ·exact absurd (by unfold O8;simp only[e1,e2];rw[if_neg hc]) hb
noncomputable def zDQ (f:D->D->D->Mn Fl) (X:Wc) (C:Cx) (v:Expr):Expr->Option (Mn Fl)
 |.Subscript o i _=>gd (Ip v) (ob (X.e C v) λmv=>ob (X.e C o) λmo=>ob (X.e C i) λmi=>some (Ej f mv mo mi))
 |_=>none
noncomputable def Zu (f:D->D->D->Mn Fl) (X:Wc) (C:Cx):Stmt->Option (Mn Fl)
 |.Assign ts v _=>gd (ts.length==1) (ob ts.head? (zDQ f X C v))
 |_=>none
theorem Uz{f:D->D->D->Mn Fl}(hf:zAM G f):∀X C t m,Cb G X->Zu f X C t=some m->SS G C t m:=λX C t m hX h=>by
 cases t with
 |Assign ts v p=>
  refine Bx h λhc h=>Ak h λt ht h=>?_
  obtain⟨t',e'⟩:=List.length_eq_one_iff.mp (beq_iff_eq.mp hc);subst e';obtain rfl:t'=t:=Option.some.inj ht
  cases t' with
  |Subscript o i p'=>exact Bx h λhn h=>Ak h λmv h1 h=>Ak h λmo h2 h=>Ak h λmi h3 h=>Ah (P:=SS G C _) h (zEL hf (hX.e _ _ _ h1) (hX.e _ _ _ h2) (hX.e _ _ _ h3) λenv=>K4 hn _ _ env)
  |_=>exact Aw h
 |_=>exact Aw h
end
section
open W
theorem V7{prog:Program}{w:World}{s₁:Shared}{a fa l cd T:Addr}{ll cc:Nat}{q:Str}{n:Nat}{F:List D->Mn D}{c:ClaimW}{cl:Str->Option Addr}{mean:ExcName->Option Value}{args:List WData}{vs:List Value}{ns:List Int}(hT:TabsAt [(cd,T)] s₁.heap)
  (hF:SF ⟨prog,w,ghostOf s₁.heap [(cd,T)],s₁.os,s₁.gens⟩ n a F) (hn:n<=500) (hfa:fa=a) (hL:s₁.heap.IsList l vs.toArray) (hI:IntsAre vs ns) (hg:s₁.gens= #[]) (hc1:∀cls,c.raises args cls=false) (hc2:c.post args (.bool true) args=true)
  (hp:∃σ' k,F [.scr ns] ⟨Br,[.ctab T ll cc q none]⟩=.ok (.bool true) ⟨Br,σ'⟩/\σ'[0]? =some (.ctab T ll cc q k)):
  wpAny (model prog w) callerA (call (.ref fa) [.ref l]) (λv s'=>GoodWG c cl mean args s₁ (.ok (.ret v)) s') (λe s'=>GoodWG c cl mean args s₁ (.error e) s') s₁:=by
 subst hfa;apply yo;intro _ k0
 obtain⟨σ',k,hp,hk⟩:=hp;apply k0
 have hi:Jm vs.toArray.toList ns:=by
  simp only[List.toList_toArray];clear hL hp
  induction hI with
  |nil=>exact .nil
  |cons n t _ ih=>exact .cons ⟨t,rfl⟩ ih
 have hb:F [.scr ns] ⟨Br,[.ctab T ll cc q none]⟩≠.bot:=by rw[hp];intro z;cases z
 have hT1:=hT (cd,T) (.head _);have hne:∀b o,b≠T->s₁.heap.get? b=some o->(ghostOf s₁.heap [(cd,T)]).get? b=some o:=λb o n e=>ghost_ne e (λm=>n (lq0 m))
 have I:Ci ⟨prog,w,ghostOf s₁.heap [(cd,T)],s₁.os,s₁.gens⟩ s₁ [T] [.ctab T ll cc q none]:=⟨λb o e=>of_hideAll _ e,λb m=>(lq0 m)▸hideAll_none _ (.head _),by simp,rfl,(λk a o e1 e2=>by
  cases k with
  |zero=>cases e1;cases e2;exact⟨rfl,hT1.2⟩
  |succ k=>cases e1),rfl,rfl⟩
 refine wpAny_mono (hF callerA default s₁ [T] ⟨Br,[.ctab T ll cc q none]⟩ [.scr ns] [.ref l] ⟨rfl,?_,?_⟩ I ⟨⟨[],rfl⟩,λfs e=>by cases e;intro _ m;nomatch m⟩ ?_ hb) (λv s' q=>?_) λx s' q=>?_
 ·show 1+claimMargin+n<=900
  have:claimMargin<=300:=by decide
  omega
 ·show 4+10*n<=9000
  omega
 ·exact⟨_,_,rfl,⟨l,vs.toArray,rfl,ghost_list hT hL,hi⟩,rfl⟩
 ·refine Fh.elim q λρ' d σ'' e I' x r=>?_
  simp only[hp]at e
  cases e
  cases(show v=.bool true from r)
  have hρ:ρ'[0]? =some T:=x.pre 0 T rfl
  obtain⟨ps,hP⟩:∃ps,s'.heap.get? T=some (tabObj ps):=by
   apply yo;intro _ k0
   obtain⟨_,h⟩:=I'.sto 0 T _ hρ hk;apply k0
   cases k with
   |none=>exact⟨_,h⟩
   |some k=>obtain⟨c',_,h⟩:=h;exact⟨_,h⟩
  refine⟨.inl ⟨_,_,_,rfl,hc1,.bool true,hc2,λ_=>⟨List.nodup_nil,λ_ m=>nomatch m⟩⟩,⟨λb o e=>?_,λb o e=>?_⟩,I'.os,.of_eq (I'.gens.trans hg)⟩
  ·by_cases hb:b=T
   ·subst hb;have e2:=hT1.2;rw[show s₁.heap.get? b=some o from e]at e2
    cases e2;exact .inr (.inl ⟨(hT1.1.tab hT1.2).isCodeTable,rfl,#[],ps,rfl,by rw[Array.empty_append];exact hP⟩)
   ·exact .inl (I'.base b o (hne b o hb e))
  ·by_cases hb:b=T
   ·subst hb;exact⟨_,hP⟩
   ·exact⟨o,I'.base b o (hne b o hb e)⟩
 ·obtain⟨ρ',c,σ'',a,e,_⟩:=q;rw[hp]at e;cases e
theorem zAe{prog:Program}{w:World}{s₁:Shared}{cd T:Addr}{p:Program}{loose:List Str}{mean:ExcName->Option Value}{mg mb:Str->Option Value}{os:OsState}{gens:Array GenState}(hT:TabsAt [(cd,T)] s₁.heap) (Tp:Top p loose mean mg mb s₁.heap):X9 ⟨prog,w,ghostOf s₁.heap [(cd,T)],os,gens⟩ cd T:=by
 have Tg:=ghost_top hT Tp;apply yo;intro _ k0
 obtain⟨bm,ob,b1,b2,b3,b4,b5,b6⟩:=Tg.bmain;apply k0
 exact⟨(ghost_code hT).1,⟨mg,bm,ob,Tg.g,b1,b2,b3,b4,b5,b6⟩,Tg.nolimit⟩
structure Co (G:Gd) (K:Frag) (c T:Addr):Prop where
 lay:zCS G K
 lam:X9 G c T
end
section
open W
noncomputable def ke (P:Params) (x:Str) (t:Nat) (v:Value):DictEntry:=⟨PyData.keyHash P x,.str x t,v⟩
noncomputable def O3 (p:Program) (i:Nat) (md:Str) (t:Nat) (c:Addr):Obj:=match p.main.body[i]? with
 |some (.FunctionDef nm args b _ _ _ sc _ _ _)=>{cls:=.type "function",data:=.func {name:=nm,qualname:=nm,params:=args,body:=.stmts b,scope:=sc,globals:=3,closure:=[],defaults:=.none,kwdefaults:=.none,pyModule:=.str md t,code:=.ref c}}
 |_=>default
theorem zAd{l:OpenLaw}{keep:List Nat}{K:Params->Frag}{as:List Addr}{N:Nat}(e:∀P,as=(K P).map (·.1)) (ws:l.wellSaid=true)
  (left:∀w,(openEnds treeTable l.prog w N).map (λs=>(openSeen (view l.prog keep) [] (importedModules l.prog.main.body) (λs=>xlAt (view l.prog keep) [] s&&recOk [] s) true s,as.map s.heap.get?))=some (openGood (view l.prog keep) [],(K w.params).map λp=>some p.2))
  (hx:(defOf (view l.prog keep) l.name).isSome=true) (hp:l.prog.theDef l.name=some (((defOf (view l.prog keep) l.name).get hx).1.params,((defOf (view l.prog keep) l.name).get hx).1.body,((defOf (view l.prog keep) l.name).get hx).1.scope))
  (hk:kwWritten? ((defOf (view l.prog keep) l.name).get hx).1.params.kwonlyargs ((defOf (view l.prog keep) l.name).get hx).1.params.kw_defaults=some ((defOf (view l.prog keep) l.name).get hx).2)
  (hwr:(!l.row.writes||l.row.records.isEmpty)=true) (ok:(chainsOk (view l.prog keep)&&opensWell l.prog&&(frees l.row.toRowW&&l.row.within.isEmpty))=true) (hb:l.prog.bare) (hw:l.row.toRowW.promised)
  (walk:WalkO (view l.prog keep) [] (XL (view l.prog keep) []) (kHook K as e).says l.row.toRowW ((defOf (view l.prog keep) l.name).get hx).1 ((defOf (view l.prog keep) l.name).get hx).2 λf vs=>PySem.call f vs):l.Holds:=
 holds_law ws λsaid=>holds_open (r:=l.row) (q:=view l.prog keep) (loose:=[]) (Xt:=λs=>xlAt (view l.prog keep) [] s&&recOk [] s) (XP:=XL (view l.prog keep) []) (Yf:=(kHook K as e).obs) (Ya:=(kHook K as e).val) (YP:=(kHook K as e).says) (N:=N) left (kHook K as e).of (kHook K as e).keeps
  (λs h=>xl_of s (Bool.and_eq_true_iff.mp h).1) XL.keeps (Option.some_get hx).symm hp hk (λs h=>recFacts_of (Bool.and_eq_true_iff.mp h).2) hwr said ok hb hw walk
end
section
open W
noncomputable abbrev pw:Program:=PySem.Challenge.pw_uf030034_10
noncomputable def Hq:List Nat:=[1,2,4,5,6,8,10,11,13,14,15,17,18,19,20,21,22,23,24,25,26]
noncomputable def hK (P:Params):Frag:=[
 (3,{cls:=(.type "dict"),data:=.dict #[ke P (sO "__name__") 165 (.str (sO "law_uf030034_10") 292),ke P (sO "__doc__") 166 .none,ke P (sO "__package__") 167 .none,ke P (sO "__loader__") 168 (.builtin "__main__.__loader__#opaque"),ke P (sO "__spec__") 169 .none,ke P (sO "__annotations__") 170 (.ref 6),ke P (sO "__builtins__") 171 (.ref 4),ke P (sO "__file__") 173 (.str (sO "/claim/cut.py") 172),ke P (sO "__cached__") 174 .none,ke P (sO "lines_of") 195 (.ref 21),ke P (sO "longest") 201 (.ref 26),ke P (sO "lines") 217 (.ref 33),ke P (sO "across") 223 (.ref 38),ke P (sO "down") 229 (.ref 43),ke P (sO "in_order") 238 (.ref 50),ke P (sO "kept") 250 (.ref 57),ke P (sO "tight") 256 (.ref 62),ke P (sO "draw_edges") 271 (.ref 69),ke P (sO "draw_text") 285 (.ref 76),ke P (sO "drawn") 291 (.ref 81),ke P (sO "_law_at") 301 (.ref 88),ke P (sO "_law_line") 307 (.ref 93),ke P (sO "_law_text") 313 (.ref 98),ke P (sO "_law_size") 320 (.ref 105),ke P (sO "_law_tiled") 338 (.ref 112),ke P (sO "_law_corner") 345 (.ref 119),ke P (sO "_law_cells") 351 (.ref 124),ke P (sO "_law_stand") 357 (.ref 129),ke P (sO "_law_drawn") 363 (.ref 134),ke P (sO "law") 377 (.ref 141)] 30}),
 (21,O3 pw 1 (sO "boxtable.texts") 187 20),
 (26,O3 pw 2 (sO "boxtable.texts") 187 25),
 (33,O3 pw 4 (sO "boxtable.places") 202 32),
 (38,O3 pw 5 (sO "boxtable.places") 202 37),
 (43,O3 pw 6 (sO "boxtable.places") 202 42),
 (50,O3 pw 8 (sO "boxtable.tables") 230 49),
 (57,O3 pw 10 (sO "boxtable.shapes") 239 56),
 (62,O3 pw 11 (sO "boxtable.shapes") 239 61),
 (69,O3 pw 13 (sO "boxtable.drawing") 257 68),
 (76,O3 pw 14 (sO "boxtable.drawing") 257 75),
 (81,O3 pw 15 (sO "boxtable.drawing") 257 80),
 (88,O3 pw 17 (sO "law_uf030034_10") 292 87),
 (93,O3 pw 18 (sO "law_uf030034_10") 292 92),
 (98,O3 pw 19 (sO "law_uf030034_10") 292 97),
 (105,O3 pw 20 (sO "law_uf030034_10") 292 104),
 (112,O3 pw 21 (sO "law_uf030034_10") 292 111),
 (119,O3 pw 22 (sO "law_uf030034_10") 292 118),
 (124,O3 pw 23 (sO "law_uf030034_10") 292 123),
 (129,O3 pw 24 (sO "law_uf030034_10") 292 128),
 (134,O3 pw 25 (sO "law_uf030034_10") 292 133),
 (141,O3 pw 26 (sO "law_uf030034_10") 292 140),
 (20,{cls:=(.type "code"),data:=.fields #[(.str (sO "lines_of") 189),(.str (sO "lines_of") 190),(.str (sO "/claim/cut.py") 191),(.int 2 0),(.int 1 0),(.int 0 0),(.int 0 0),(.int 3 0),(.ref 15),(.bool true),(.int 181 0),(.ref 16),.none,(.ref 17),(.ref 18),(.ref 19),(.int 193 0),(.int 2 0),(.str (sO "/claim/cut.py") 194)]}),
 (25,{cls:=(.type "code"),data:=.fields #[(.str (sO "longest") 196),(.str (sO "longest") 197),(.str (sO "/claim/cut.py") 198),(.int 4 0),(.int 1 0),(.int 0 0),(.int 0 0),(.int 3 0),(.ref 22),(.bool true),(.int 181 0),(.ref 23),.none,.none,.none,(.ref 24),(.int 199 0),(.int 4 0),(.str (sO "/claim/cut.py") 200)]}),
 (32,{cls:=(.type "code"),data:=.fields #[(.str (sO "lines") 204),(.str (sO "lines") 205),(.str (sO "/claim/cut.py") 206),(.int 7 0),(.int 2 0),(.int 0 0),(.int 0 0),(.int 3 0),(.ref 27),(.bool true),(.int 181 0),(.ref 28),.none,(.ref 29),(.ref 30),(.ref 31),(.int 215 0),(.int 7 0),(.str (sO "/claim/cut.py") 216)]}),
 (37,{cls:=(.type "code"),data:=.fields #[(.str (sO "across") 218),(.str (sO "across") 219),(.str (sO "/claim/cut.py") 220),(.int 16 0),(.int 1 0),(.int 0 0),(.int 0 0),(.int 3 0),(.ref 34),(.bool true),(.int 181 0),(.ref 35),.none,.none,.none,(.ref 36),(.int 221 0),(.int 16 0),(.str (sO "/claim/cut.py") 222)]}),
 (42,{cls:=(.type "code"),data:=.fields #[(.str (sO "down") 224),(.str (sO "down") 225),(.str (sO "/claim/cut.py") 226),(.int 19 0),(.int 1 0),(.int 0 0),(.int 0 0),(.int 3 0),(.ref 39),(.bool true),(.int 181 0),(.ref 40),.none,.none,.none,(.ref 41),(.int 227 0),(.int 19 0),(.str (sO "/claim/cut.py") 228)]}),
 (49,{cls:=(.type "code"),data:=.fields #[(.str (sO "in_order") 232),(.str (sO "in_order") 233),(.str (sO "/claim/cut.py") 234),(.int 23 0),(.int 1 0),(.int 0 0),(.int 0 0),(.int 3 0),(.ref 44),(.bool true),(.int 181 0),(.ref 45),.none,(.ref 46),(.ref 47),(.ref 48),(.int 236 0),(.int 23 0),(.str (sO "/claim/cut.py") 237)]}),
 (56,{cls:=(.type "code"),data:=.fields #[(.str (sO "kept") 241),(.str (sO "kept") 242),(.str (sO "/claim/cut.py") 243),(.int 26 0),(.int 2 0),(.int 0 0),(.int 0 0),(.int 3 0),(.ref 51),(.bool true),(.int 181 0),(.ref 52),.none,(.ref 53),(.ref 54),(.ref 55),(.int 248 0),(.int 26 0),(.str (sO "/claim/cut.py") 249)]}),
 (61,{cls:=(.type "code"),data:=.fields #[(.str (sO "tight") 251),(.str (sO "tight") 252),(.str (sO "/claim/cut.py") 253),(.int 34 0),(.int 1 0),(.int 0 0),(.int 0 0),(.int 3 0),(.ref 58),(.bool true),(.int 181 0),(.ref 59),.none,.none,.none,(.ref 60),(.int 254 0),(.int 34 0),(.str (sO "/claim/cut.py") 255)]}),
 (68,{cls:=(.type "code"),data:=.fields #[(.str (sO "draw_edges") 259),(.str (sO "draw_edges") 260),(.str (sO "/claim/cut.py") 261),(.int 44 0),(.int 5 0),(.int 0 0),(.int 0 0),(.int 3 0),(.ref 63),(.bool true),(.int 181 0),(.ref 64),.none,(.ref 65),(.ref 66),(.ref 67),(.int 269 0),(.int 44 0),(.str (sO "/claim/cut.py") 270)]}),
 (75,{cls:=(.type "code"),data:=.fields #[(.str (sO "draw_text") 272),(.str (sO "draw_text") 273),(.str (sO "/claim/cut.py") 274),(.int 53 0),(.int 4 0),(.int 0 0),(.int 0 0),(.int 3 0),(.ref 70),(.bool true),(.int 181 0),(.ref 71),.none,(.ref 72),(.ref 73),(.ref 74),(.int 283 0),(.int 53 0),(.str (sO "/claim/cut.py") 284)]}),
 (80,{cls:=(.type "code"),data:=.fields #[(.str (sO "drawn") 286),(.str (sO "drawn") 287),(.str (sO "/claim/cut.py") 288),(.int 61 0),(.int 1 0),(.int 0 0),(.int 0 0),(.int 3 0),(.ref 77),(.bool true),(.int 181 0),(.ref 78),.none,.none,.none,(.ref 79),(.int 289 0),(.int 61 0),(.str (sO "/claim/cut.py") 290)]}),
 (87,{cls:=(.type "code"),data:=.fields #[(.str (sO "_law_at") 294),(.str (sO "_law_at") 295),(.str (sO "/claim/cut.py") 296),(.int 79 0),(.int 2 0),(.int 0 0),(.int 0 0),(.int 3 0),(.ref 82),(.bool true),(.int 181 0),(.ref 83),.none,(.ref 84),(.ref 85),(.ref 86),(.int 299 0),(.int 79 0),(.str (sO "/claim/cut.py") 300)]}),
 (92,{cls:=(.type "code"),data:=.fields #[(.str (sO "_law_line") 302),(.str (sO "_law_line") 303),(.str (sO "/claim/cut.py") 304),(.int 83 0),(.int 2 0),(.int 0 0),(.int 0 0),(.int 3 0),(.ref 89),(.bool true),(.int 181 0),(.ref 90),.none,.none,.none,(.ref 91),(.int 305 0),(.int 83 0),(.str (sO "/claim/cut.py") 306)]}),
 (97,{cls:=(.type "code"),data:=.fields #[(.str (sO "_law_text") 308),(.str (sO "_law_text") 309),(.str (sO "/claim/cut.py") 310),(.int 87 0),(.int 1 0),(.int 0 0),(.int 0 0),(.int 3 0),(.ref 94),(.bool true),(.int 181 0),(.ref 95),.none,.none,.none,(.ref 96),(.int 311 0),(.int 87 0),(.str (sO "/claim/cut.py") 312)]}),
 (104,{cls:=(.type "code"),data:=.fields #[(.str (sO "_law_size") 314),(.str (sO "_law_size") 315),(.str (sO "/claim/cut.py") 316),(.int 98 0),(.int 1 0),(.int 0 0),(.int 0 0),(.int 3 0),(.ref 99),(.bool true),(.int 181 0),(.ref 100),.none,(.ref 101),(.ref 102),(.ref 103),(.int 318 0),(.int 98 0),(.str (sO "/claim/cut.py") 319)]}),
 (111,{cls:=(.type "code"),data:=.fields #[(.str (sO "_law_tiled") 321),(.str (sO "_law_tiled") 322),(.str (sO "/claim/cut.py") 323),(.int 102 0),(.int 3 0),(.int 0 0),(.int 0 0),(.int 3 0),(.ref 106),(.bool true),(.int 181 0),(.ref 107),.none,(.ref 108),(.ref 109),(.ref 110),(.int 336 0),(.int 102 0),(.str (sO "/claim/cut.py") 337)]}),
 (118,{cls:=(.type "code"),data:=.fields #[(.str (sO "_law_corner") 339),(.str (sO "_law_corner") 340),(.str (sO "/claim/cut.py") 341),(.int 120 0),(.int 1 0),(.int 0 0),(.int 0 0),(.int 3 0),(.ref 113),(.bool true),(.int 181 0),(.ref 114),.none,(.ref 115),(.ref 116),(.ref 117),(.int 343 0),(.int 120 0),(.str (sO "/claim/cut.py") 344)]}),
 (123,{cls:=(.type "code"),data:=.fields #[(.str (sO "_law_cells") 346),(.str (sO "_law_cells") 347),(.str (sO "/claim/cut.py") 348),(.int 122 0),(.int 4 0),(.int 0 0),(.int 0 0),(.int 3 0),(.ref 120),(.bool true),(.int 181 0),(.ref 121),.none,.none,.none,(.ref 122),(.int 349 0),(.int 122 0),(.str (sO "/claim/cut.py") 350)]}),
 (128,{cls:=(.type "code"),data:=.fields #[(.str (sO "_law_stand") 352),(.str (sO "_law_stand") 353),(.str (sO "/claim/cut.py") 354),(.int 134 0),(.int 3 0),(.int 0 0),(.int 0 0),(.int 3 0),(.ref 125),(.bool true),(.int 181 0),(.ref 126),.none,.none,.none,(.ref 127),(.int 355 0),(.int 134 0),(.str (sO "/claim/cut.py") 356)]}),
 (133,{cls:=(.type "code"),data:=.fields #[(.str (sO "_law_drawn") 358),(.str (sO "_law_drawn") 359),(.str (sO "/claim/cut.py") 360),(.int 147 0),(.int 3 0),(.int 0 0),(.int 0 0),(.int 3 0),(.ref 130),(.bool true),(.int 181 0),(.ref 131),.none,.none,.none,(.ref 132),(.int 361 0),(.int 147 0),(.str (sO "/claim/cut.py") 362)]}),
 (140,{cls:=(.type "code"),data:=.fields #[(.str (sO "law") 364),(.str (sO "law") 365),(.str (sO "/claim/cut.py") 366),(.int 167 0),(.int 1 0),(.int 0 0),(.int 0 0),(.int 3 0),(.ref 135),(.bool true),(.int 181 0),(.ref 136),.none,(.ref 137),(.ref 138),(.ref 139),(.int 375 0),(.int 167 0),(.str (sO "/claim/cut.py") 376)]})]
noncomputable def hA:List Addr:=[3,21,26,33,38,43,50,57,62,69,76,81,88,93,98,105,112,119,124,129,134,141,20,25,32,37,42,49,56,61,68,75,80,87,92,97,104,111,118,123,128,133,140]
theorem hE(P:Params):hA=(hK P).map (·.1):=by kernel_rfl
theorem hX:(defOf (view pw Hq) PySem.Challenge.rw_uf030034_10.name).isSome=true:=by kernel_rfl
theorem hL(w:World):(openEnds treeTable pw w 1476).map (λs=>(openSeen (view pw Hq) [] (importedModules pw.main.body) (λs=>xlAt (view pw Hq) [] s&&recOk [] s) true s,hA.map s.heap.get?))=some (openGood (view pw Hq) [],(hK w.params).map λp=>some p.2):=by kernel_rfl
theorem hd(walk:WalkO (view pw Hq) [] (XL (view pw Hq) []) (kHook hK hA hE).says PySem.Challenge.rw_uf030034_10.row.toRowW ((defOf (view pw Hq) PySem.Challenge.rw_uf030034_10.name).get hX).1 ((defOf (view pw Hq) PySem.Challenge.rw_uf030034_10.name).get hX).2 λf vs=>PySem.call f vs):PySem.Challenge.rw_uf030034_10.Holds:=
 zAd (l:=PySem.Challenge.rw_uf030034_10) (keep:=Hq) hE (by decide+kernel) hL hX (by kernel_rfl) (by kernel_rfl) (by kernel_rfl) (by decide+kernel) ⟨by kernel_rfl,by kernel_rfl,by kernel_rfl,by kernel_rfl,by kernel_rfl,by decide+kernel⟩ ⟨[.list []],by decide+kernel,by decide+kernel⟩ walk
end
section
open W
noncomputable abbrev Ob:Addr:=45
noncomputable def zFo:Operator->Option (D->D->Mn D)
 |.Add=>some Ao
 |.Sub=>some M7
 |.FloorDiv=>some Hk
 |.Mod=>some Dz
 |.Mult=>some De
 |_=>none
noncomputable def zFx:CmpOp->Option (D->D->Mn D)
 |.Lt=>some Z8
 |.Eq=>some Eh
 |.NotEq=>some Ux
 |.In=>some O8
 |_=>none
noncomputable def T0:Tb where
 fns:=[]
 nums:=[]
 bf:=[((Str.ofString "len"),("len",E0)),((Str.ofString "max"),("max",Jx)),((Str.ofString "min"),("min",P7))]
 tv:=[((Str.ofString "int"),("int",Nd)),((Str.ofString "list"),("list",F5)),((Str.ofString "str"),("str",Id))]
 ts:=[((Str.ofString "enumerate"),("enumerate",true,H0)),((Str.ofString "range"),("range",false,C4)),((Str.ofString "zip"),("zip",true,M6))]
 sm:=[((Str.ofString "count"),("str.count",Pd)),((Str.ofString "join"),("str.join",Dw)),((Str.ofString "rstrip"),("str.rstrip",Mc)),((Str.ofString "split"),("str.split",Ge))]
 ty:=[((Str.ofString "str"),"str")]
 bin:=zFo
 cmp:=zFx
 me:=(zBu (Str.ofString "index") Rl (zBu (Str.ofString "append") P5 zFS))
 so:=λF=>some (By F)
 sl:=zCt (Str.ofString "cell") 49 0 Ob
 xe:=λ_ _ _=>none
 xs:=zDP (Zu Cd) Uf
theorem zGX{G:Gd}{P:Params}(L:Co G (Mine.Internal.hK P) 49 45):Cq G T0 where
 fns _ _ _ _ h:=Aw h
 nums:=(Gv (P:=zG2 G))
 bf f n F h:=(C7 (P:=zFc G) (x:=(Str.ofString "len")) ⟨(L.lay.bui (by kernel_rfl) (by boot_by_name) (by kernel_rfl)),zDW⟩ (C7 (P:=zFc G) (x:=(Str.ofString "max")) ⟨(L.lay.bui (by kernel_rfl) (by boot_by_name) (by kernel_rfl)),zD4⟩ (C7 (P:=zFc G) (x:=(Str.ofString "min")) ⟨(L.lay.bui (by kernel_rfl) (by boot_by_name) (by kernel_rfl)),zDn⟩ (Gv (P:=zFc G))))) f (n,F) h
 tv f n F h:=(C7 (P:=zFe G) (x:=(Str.ofString "int")) ⟨(L.lay.bui (by kernel_rfl) (by boot_by_name) (by kernel_rfl)),zDS⟩ (C7 (P:=zFe G) (x:=(Str.ofString "list")) ⟨(L.lay.bui (by kernel_rfl) (by boot_by_name) (by kernel_rfl)),zAg⟩ (C7 (P:=zFe G) (x:=(Str.ofString "str")) ⟨(L.lay.bui (by kernel_rfl) (by boot_by_name) (by kernel_rfl)),zDH⟩ (Gv (P:=zFe G))))) f (n,F) h
 ts f n b F h:=(C7 (P:=zFg G) (x:=(Str.ofString "enumerate")) ⟨(L.lay.bui (by kernel_rfl) (by boot_by_name) (by kernel_rfl)),_,Xb,λt h=>Qh h⟩ (C7 (P:=zFg G) (x:=(Str.ofString "range")) ⟨(L.lay.bui (by kernel_rfl) (by boot_by_name) (by kernel_rfl)),_,Zh,λ_ _=>trivial⟩ (C7 (P:=zFg G) (x:=(Str.ofString "zip")) ⟨(L.lay.bui (by kernel_rfl) (by boot_by_name) (by kernel_rfl)),_,zDZ,λt h=>Qh h⟩ (Gv (P:=zFg G))))) f (n,b,F) h
 sm f n F h:=(C7 (P:=zFA G) (x:=(Str.ofString "count")) zAJ (C7 (P:=zFA G) (x:=(Str.ofString "join")) zCZ (C7 (P:=zFA G) (x:=(Str.ofString "rstrip")) Vj (C7 (P:=zFA G) (x:=(Str.ofString "split")) X6 (Gv (P:=zFA G)))))) f (n,F) h
 ty:=(C7 (P:=zGV G) (x:=(Str.ofString "str")) ⟨(L.lay.bui (by kernel_rfl) (by boot_by_name) (by kernel_rfl)),zBv⟩ (Gv (P:=zGV G)))
 isi:=(L.lay.bui (by kernel_rfl) (by boot_by_name) (by kernel_rfl))
 bin op f h:=by
  cases op with
  |Add=>exact Ah (P:=Gj G _) h zBX
  |Sub=>exact Ah (P:=Gj G _) h zBR
  |FloorDiv=>exact Ah (P:=Gj G _) h zBn
  |Mod=>exact Ah (P:=Gj G _) h zBg
  |Mult=>exact Ah (P:=Gj G _) h zA8
  |_=>exact Aw h
 cmp op f h:=by
  cases op with
  |Lt=>exact Ah (P:=Fc G _) h zEJ
  |Eq=>exact Ah (P:=Fc G _) h zAo
  |NotEq=>exact Ah (P:=Fc G _) h zC9
  |In=>exact Ah (P:=Fc G _) h zB7
  |_=>exact Aw h
 me:=(U2 Zs (U2 W6 zBk))
 so F F' h:=Vp (L.lay.bui (by kernel_rfl) (by boot_by_name) (by kernel_rfl)) h
 sl:=Xw (by intros;intros x;intros;kernel_rfl) L.lam (L.lay.bui (by kernel_rfl) (by boot_by_name) (by kernel_rfl))
 xe:=λ_ _ _ _ _ h=>Aw h
 xs:=zC8 (Uz Yd) Sg
noncomputable def Ov:Mn Fl:=(Ae (Iv (Dl Z8 (A0 1) (bnd (A6 (A0 0) Ai) E0)) (Ae (E1 (Ab Ag (A0 0) (A0 1)))
 (ret1 .next)) (ret1 .next))
 (Ae (E1 (ret1 (.int 0)))
 (ret1 .next)))
noncomputable def Dn:List D->Mn D:=Dv [0,1] Ov
theorem T6{G:Gd}{P:Params}(L:Co G (Mine.Internal.hK P) 49 45):SF G 1 88 Dn:=
 Dx (xs:=[sO "_law_script",sO "_law_k"]) (tbl:=[sO "_law_script",sO "_law_k"]) (n:=0) (C2 L.lay (by kernel_rfl) (by kernel_rfl) (Ug (by intros;kernel_rfl))) (by kernel_rfl) (code:=.ref 87) (by kernel_rfl) (qual:=sO "_law_at.<locals>.") (by kernel_rfl) (by decide+kernel) rfl ((Cp (zGX L) 60).s ⟨C1 pw 17,_,_,_,_,_⟩ (Cr pw 17) Ov (by kernel_rfl))
noncomputable def T__law_at:Tb:={T0 with fns:=((sO "_law_at"),88,1,Dn)::T0.fns}
theorem Nc{G:Gd}{P:Params}(L:Co G (Mine.Internal.hK P) 49 45):Cq G T__law_at:=(zGX L).add (L.lay.glob (by kernel_rfl)) (L.lay.fd (by kernel_rfl)) (T6 L)
noncomputable def Ix:Mn Fl:=(Ae (E1 (Ek (A6 (Ab Ag (A0 0) (ret1 (.int 0))) (A6 (Ab Ag (A0 0) (ret1 (.int 1))) Ai))))
 (ret1 .next))
noncomputable def Du:List D->Mn D:=Dv [0] Ix
theorem Ny{G:Gd}{P:Params}(L:Co G (Mine.Internal.hK P) 49 45):SF G 1 119 Du:=
 Dx (xs:=[sO "_law_cell"]) (tbl:=[sO "_law_cell"]) (n:=0) (C2 L.lay (by kernel_rfl) (by kernel_rfl) (Ho (by intros;kernel_rfl))) (by kernel_rfl) (code:=.ref 118) (by kernel_rfl) (qual:=sO "_law_corner.<locals>.") (by kernel_rfl) (by decide+kernel) rfl ((Cp (Nc L) 60).s ⟨C1 pw 22,_,_,_,_,_⟩ (Cr pw 22) Ix (by kernel_rfl))
noncomputable def T__law_corner:Tb:={T__law_at with fns:=((sO "_law_corner"),119,1,Du)::T__law_at.fns}
theorem I8{G:Gd}{P:Params}(L:Co G (Mine.Internal.hK P) 49 45):Cq G T__law_corner:=(Nc L).add (L.lay.glob (by kernel_rfl)) (L.lay.fd (by kernel_rfl)) (Ny L)
noncomputable def I5:Mn Fl:=(Ae (bnd (ret1 (.str (sO " !\"#$&'()*+,-./0123456789:;<=>?@ABCDEFGHIJKLMNOPQRSTUVWXYZ[\\]^_`"))) (Af 2))
 (Ae (bnd (Ab Ao (A0 2) (ret1 (.str (sO "abcdefghijklmnopqrstuvwxyz{|}~")))) (Af 2))
 (Ae (E1 (bnd (bnd (ret1 (.str (Str.ofString ""))) (El λx=>bnd (A6 (bnd (bnd (A6 (A0 1) Ai) C4) (Bm [3] (Aj 3) (ret1 true) (Ab Ag (A0 2) (Ab Dz (Ab Ao (A0 0) (Ab De (A0 3) (Ab Ao (ret1 (.int 1)) (Ab Dz (Ab Hk (A0 0) (ret1 (.int 94))) (ret1 (.int 93)))))) (ret1 (.int 94)))))) Ai) (Dw x))) (El λx=>bnd (A6 (ret1 (.str (sO " "))) Ai) (Mc x))))
 (ret1 .next))))
noncomputable def D3:List D->Mn D:=Dv [0,1] I5
theorem P8{G:Gd}{P:Params}(L:Co G (Mine.Internal.hK P) 49 45):SF G 1 93 D3:=
 Dx (xs:=[sO "_law_number",sO "_law_size_here"]) (tbl:=[sO "_law_number",sO "_law_size_here",sO "_law_some",sO "_law_k"]) (n:=0) (C2 L.lay (by kernel_rfl) (by kernel_rfl) (Ug (by intros;kernel_rfl))) (by kernel_rfl) (code:=.ref 92) (by kernel_rfl) (qual:=sO "_law_line.<locals>.") (by kernel_rfl) (by decide+kernel) rfl ((Cp (I8 L) 60).s ⟨C1 pw 18,_,_,_,_,_⟩ (Cr pw 18) I5 (by kernel_rfl))
noncomputable def T__law_line:Tb:={T__law_corner with fns:=((sO "_law_line"),93,1,D3)::T__law_corner.fns}
theorem Ke{G:Gd}{P:Params}(L:Co G (Mine.Internal.hK P) 49 45):Cq G T__law_line:=(I8 L).add (L.lay.glob (by kernel_rfl)) (L.lay.fd (by kernel_rfl)) (P8 L)
noncomputable def Ib:Mn Fl:=(Ae (bnd (Ab Hk (A0 0) (ret1 (.int 8))) (Af 1))
 (Ae (Iv (Dl Eh (Ab Dz (A0 0) (ret1 (.int 64))) (ret1 (.int 7))) (Ae (E1 (bnd (A6 (Ab Hk (Ab Hk (A0 1) (ret1 (.int 8))) (ret1 (.int 201))) (A6 (Ab Dz (Ab Hk (A0 1) (ret1 (.int 8))) (ret1 (.int 201))) Ai)) D3))
 (ret1 .next)) (ret1 .next))
 (Ae (Iv (Dl Eh (Ab Dz (A0 0) (ret1 (.int 16))) (ret1 (.int 14))) (Ae (bnd (bnd (bnd (A6 (Ab Ao (ret1 (.int 1)) (Ab Dz (Ab Hk (A0 1) (ret1 (.int 2))) (ret1 (.int 60)))) Ai) C4) (Bm [3] (Aj 3) (ret1 true) (bnd (A6 (Ab Ao (Ab Hk (A0 1) (ret1 (.int 120))) (Ab De (ret1 (.int 7)) (A0 3))) (A6 (Ab Dz (Ab Ao (A0 1) (A0 3)) (ret1 (.int 3))) Ai)) D3))) (Af 2))
 (Ae (E1 (Ab Ao (bnd (ret1 (.str (sO "\n"))) (El λx=>bnd (A6 (A0 2) Ai) (Dw x))) (ret1 (.str (sO ".")))))
 (ret1 .next))) (ret1 .next))
 (Ae (Iv (Dl Eh (Ab Dz (A0 0) (ret1 (.int 8))) (ret1 (.int 6))) (Ae (bnd (bnd (bnd (A6 (Ab Ao (ret1 (.int 1)) (Ab Dz (A0 1) (ret1 (.int 4)))) Ai) C4) (Bm [3] (Aj 3) (ret1 true) (bnd (A6 (Ab Ao (Ab Hk (A0 1) (ret1 (.int 36))) (Ab De (ret1 (.int 29)) (A0 3))) (A6 (Ab Dz (Ab Ao (Ab Hk (A0 1) (ret1 (.int 4))) (Ab De (ret1 (.int 2)) (A0 3))) (ret1 (.int 9))) Ai)) D3))) (Af 2))
 (Ae (E1 (Ab Ao (bnd (ret1 (.str (sO "\n"))) (El λx=>bnd (A6 (A0 2) Ai) (Dw x))) (ret1 (.str (sO ".")))))
 (ret1 .next))) (ret1 .next))
 (Ae (E1 (bnd (A6 (Ab Hk (A0 1) (ret1 (.int 7))) (A6 (Ab De (Ab Dz (A0 1) (ret1 (.int 7))) (bnd (A6 (ret1 (.int 1)) (A6 (Ab Dz (A0 0) (ret1 (.int 8))) Ai)) P7)) Ai)) D3))
 (ret1 .next))))))
noncomputable def F7:List D->Mn D:=Dv [0] Ib
theorem Pm{G:Gd}{P:Params}(L:Co G (Mine.Internal.hK P) 49 45):SF G 2 98 F7:=
 Dx (xs:=[sO "_law_number"]) (tbl:=[sO "_law_number",sO "_law_more",sO "_law_lines",sO "_law_k"]) (n:=1) (C2 L.lay (by kernel_rfl) (by kernel_rfl) (Ho (by intros;kernel_rfl))) (by kernel_rfl) (code:=.ref 97) (by kernel_rfl) (qual:=sO "_law_text.<locals>.") (by kernel_rfl) (by decide+kernel) rfl ((Cp (Ke L) 60).s ⟨C1 pw 19,_,_,_,_,_⟩ (Cr pw 19) Ib (by kernel_rfl))
noncomputable def T__law_text:Tb:={T__law_line with fns:=((sO "_law_text"),98,2,F7)::T__law_line.fns}
theorem Kn{G:Gd}{P:Params}(L:Co G (Mine.Internal.hK P) 49 45):Cq G T__law_text:=(Ke L).add (L.lay.glob (by kernel_rfl)) (L.lay.fd (by kernel_rfl)) (Pm L)
noncomputable def Kc:Mn Fl:=(Ae (bnd (Ab De (D1 (A6 (ret1 (.int 0)) Ai)) (A0 1)) (Af 3))
 (Ae (bnd (D1 Ai) (Af 4))
 (Ae (bnd (bnd (A6 (Ab De (A0 0) (A0 1)) Ai) C4) λsrc=>Bq (Aj 5) src.g (Ae (bnd (bnd (A6 (A0 3) Ai) P7) (Af 6))
 (Ae (Iv (Dl Z8 (A0 6) (A0 0)) (Ae (bnd (bnd (A0 3) (Da λk=>bnd (A0 6) (Go k))) (Af 7))
 (Ae (bnd (ret1 (.int 1)) (Af 8))
 (Ae (Le (V4 (Dl Z8 (Ab Ao (A0 7) (A0 8)) (A0 1)) (Dl Eh (Ab Ag (A0 3) (Ab Ao (A0 7) (A0 8))) (A0 6))) (Ae (bnd (Ab Ao (A0 8) (ret1 (.int 1))) (Af 8))
 (ret1 .next)))
 (Ae (bnd (bnd (ret1 (.int 1)) zAi) (Af 9))
 (Ae (Iv (Dl Z8 (A0 5) (bnd (A6 (A0 2) Ai) E0)) (Ae (bnd (Ab Ag (A0 2) (A0 5)) (Af 9))
 (ret1 .next)) (ret1 .next))
 (Ae (bnd (Ab Ao (ret1 (.int 1)) (Ab Dz (A0 9) (A0 8))) (Af 10))
 (Ae (bnd (Ab Ao (ret1 (.int 1)) (Ab Dz (Ab Hk (A0 9) (A0 8)) (Ab M7 (A0 0) (A0 6)))) (Af 11))
 (Ae (bnd (bnd (A0 4) (Da λk=>bnd (Ek (A6 (A0 6) (A6 (A0 7) (A6 (A0 11) (A6 (A0 10) Ai))))) (Bg k))) Dg)
 (Ae (bnd (Ab Ao (Ab Ao (Eo (A0 3) none (some (A0 7))) (Ab De (D1 (A6 (Ab Ao (A0 6) (A0 11)) Ai)) (A0 10))) (Eo (A0 3) (some (Ab Ao (A0 7) (A0 10))) none)) (Af 3))
 (ret1 .next)))))))))) (ret1 .next))
 (ret1 .next))) src.ds)
 (Ae (E1 (A0 4))
 (ret1 .next)))))
noncomputable def Ed:List D->Mn D:=Dv [0,1,2] Kc
theorem Oa{G:Gd}{P:Params}(L:Co G (Mine.Internal.hK P) 49 45):SF G 1 112 Ed:=
 Dx (xs:=[sO "_law_rows",sO "_law_columns",sO "_law_numbers"]) (tbl:=[sO "_law_rows",sO "_law_columns",sO "_law_numbers",sO "_law_free",sO "_law_boxes",sO "_law_k",sO "_law_row",sO "_law_left",sO "_law_run",sO "_law_number",sO "_law_wide",sO "_law_high"]) (n:=0) (C2 L.lay (by kernel_rfl) (by kernel_rfl) (Y5 (by intros;kernel_rfl))) (by kernel_rfl) (code:=.ref 111) (by kernel_rfl) (qual:=sO "_law_tiled.<locals>.") (by kernel_rfl) (by decide+kernel) rfl ((Cp (Kn L) 60).s ⟨C1 pw 21,_,_,_,_,_⟩ (Cr pw 21) Kc (by kernel_rfl))
noncomputable def T__law_tiled:Tb:={T__law_text with fns:=((sO "_law_tiled"),112,1,Ed)::T__law_text.fns}
theorem Iz{G:Gd}{P:Params}(L:Co G (Mine.Internal.hK P) 49 45):Cq G T__law_tiled:=(Kn L).add (L.lay.glob (by kernel_rfl)) (L.lay.fd (by kernel_rfl)) (Oa L)
noncomputable def Kv:Mn Fl:=(Ae (bnd (bnd (bnd (A6 (ret1 (.int 2)) (A6 (bnd (A6 (bnd (A6 (A0 0) Ai) E0) (A6 (ret1 (.int 42)) Ai)) P7) (A6 (ret1 (.int 2)) Ai))) C4) (Bm [7] (Aj 7) (ret1 true) (Ab Ag (A0 0) (A0 7)))) (Af 4))
 (Ae (Iv (bnd (A0 3) Cf) (Ae (bnd (Ab De (D1 (A6 (ret1 (.int 0)) Ai)) (Ab De (A0 1) (A0 2))) (Af 4))
 (ret1 .next)) (ret1 .next))
 (Ae (bnd (bnd (A6 (A0 1) (A6 (A0 2) (A6 (A0 4) Ai))) Ed) (Af 5))
 (Ae (bnd (D1 Ai) (Af 6))
 (Ae (bnd (bnd (A6 (A0 5) Ai) H0) λsrc=>Bq (Ga 2 (Ay (Aj 7) (Ay (Aj 8) Dt))) src.g (Ae (bnd (bnd (A6 (Ab Dz (A0 7) (ret1 (.int 97))) Ai) Id) (Af 9))
 (Ae (Iv (Dl Z8 (Ab Ao (ret1 (.int 3)) (Ab De (ret1 (.int 2)) (A0 7))) (bnd (A6 (A0 0) Ai) E0)) (Ae (bnd (bnd (A6 (Ab Ag (A0 0) (Ab Ao (ret1 (.int 3)) (Ab De (ret1 (.int 2)) (A0 7)))) Ai) F7) (Af 9))
 (ret1 .next)) (ret1 .next))
 (Ae (bnd (bnd (A0 6) (Da λk=>bnd (Ab Ao (A0 8) (Ek (A6 (A0 9) Ai))) (Bg k))) Dg)
 (ret1 .next)))) src.ds)
 (Ae (E1 (bnd (A6 (A0 6) Ai) (By Du)))
 (ret1 .next)))))))
noncomputable def Ee:List D->Mn D:=Dv [0,1,2,3] Kv
theorem O5{G:Gd}{P:Params}(L:Co G (Mine.Internal.hK P) 49 45):SF G 3 124 Ee:=
 Dx (xs:=[sO "_law_script",sO "_law_rows",sO "_law_columns",sO "_law_grid"]) (tbl:=[sO "_law_script",sO "_law_rows",sO "_law_columns",sO "_law_grid",sO "_law_numbers",sO "_law_boxes",sO "_law_cells_here",sO "_law_k",sO "_law_box",sO "_law_text_here"]) (n:=2) (C2 L.lay (by kernel_rfl) (by kernel_rfl) (zCm (by intros;kernel_rfl))) (by kernel_rfl) (code:=.ref 123) (by kernel_rfl) (qual:=sO "_law_cells.<locals>.") (by kernel_rfl) (by decide+kernel) rfl ((Cp (Iz L) 60).s ⟨C1 pw 23,_,_,_,_,_⟩ (Cr pw 23) Kv (by kernel_rfl))
noncomputable def T__law_cells:Tb:={T__law_tiled with fns:=((sO "_law_cells"),124,3,Ee)::T__law_tiled.fns}
theorem It{G:Gd}{P:Params}(L:Co G (Mine.Internal.hK P) 49 45):Cq G T__law_cells:=(Iz L).add (L.lay.glob (by kernel_rfl)) (L.lay.fd (by kernel_rfl)) (O5 L)
noncomputable def Kk:Mn Fl:=(Ae (bnd (bnd (bnd (A6 (Ab Ao (Ab Ag (A0 1) (Ab M7 (bnd (A6 (A0 1) Ai) E0) (ret1 (.int 1)))) (ret1 (.int 1))) Ai) C4) (Bm [6] (Aj 6) (ret1 true) (Ab De (D1 (A6 (ret1 (.str (sO " "))) Ai)) (Ab Ao (Ab Ag (A0 2) (Ab M7 (bnd (A6 (A0 2) Ai) E0) (ret1 (.int 1)))) (ret1 (.int 1)))))) (Af 3))
 (Ae (bnd (bnd (bnd (A0 0) Ba) (Bm [13] (Aj 13) (ret1 true) (Ek (A6 (Ab Ag (A0 1) (Ab Ag (A0 13) (ret1 (.int 0)))) (A6 (Ab Ag (A0 2) (Ab Ag (A0 13) (ret1 (.int 1)))) (A6 (Ab Ag (A0 1) (Ab Ao (Ab Ag (A0 13) (ret1 (.int 0))) (Ab Ag (A0 13) (ret1 (.int 2))))) (A6 (Ab Ag (A0 2) (Ab Ao (Ab Ag (A0 13) (ret1 (.int 1))) (Ab Ag (A0 13) (ret1 (.int 3))))) Ai))))))) (Af 4))
 (Ae (bnd (bnd (A0 4) Ba) λsrc=>Bq (Aj 5) src.g (Ae (bnd (bnd (A6 (Ab Ag (A0 5) (ret1 (.int 0))) (A6 (Ab Ao (Ab Ag (A0 5) (ret1 (.int 2))) (ret1 (.int 1))) Ai)) C4) λsrc=>Bq (Aj 6) src.g (Ae (Ej Cd (ret1 (.str (sO "|"))) (Ab Ag (A0 3) (A0 6)) (Ab Ag (A0 5) (ret1 (.int 1))))
 (Ae (Ej Cd (ret1 (.str (sO "|"))) (Ab Ag (A0 3) (A0 6)) (Ab Ag (A0 5) (ret1 (.int 3))))
 (ret1 .next))) src.ds)
 (ret1 .next)) src.ds)
 (Ae (bnd (bnd (A0 4) Ba) λsrc=>Bq (Aj 5) src.g (Ae (bnd (bnd (A6 (Ab Ag (A0 5) (ret1 (.int 1))) (A6 (Ab Ao (Ab Ag (A0 5) (ret1 (.int 3))) (ret1 (.int 1))) Ai)) C4) λsrc=>Bq (Aj 7) src.g (Ae (Ej Cd (ret1 (.str (sO "-"))) (Ab Ag (A0 3) (Ab Ag (A0 5) (ret1 (.int 0)))) (A0 7))
 (Ae (Ej Cd (ret1 (.str (sO "-"))) (Ab Ag (A0 3) (Ab Ag (A0 5) (ret1 (.int 2)))) (A0 7))
 (ret1 .next))) src.ds)
 (ret1 .next)) src.ds)
 (Ae (bnd (bnd (A0 4) Ba) λsrc=>Bq (Aj 5) src.g (Ae (bnd (bnd (Ek (A6 (Ab Ag (A0 5) (ret1 (.int 1))) (A6 (Ab Ag (A0 5) (ret1 (.int 3))) Ai))) Ba) λsrc=>Bq (Aj 7) src.g (Ae (Ej Cd (ret1 (.str (sO "+"))) (Ab Ag (A0 3) (Ab Ag (A0 5) (ret1 (.int 0)))) (A0 7))
 (Ae (Ej Cd (ret1 (.str (sO "+"))) (Ab Ag (A0 3) (Ab Ag (A0 5) (ret1 (.int 2)))) (A0 7))
 (ret1 .next))) src.ds)
 (ret1 .next)) src.ds)
 (Ae (bnd (bnd (A6 (A0 4) (A6 (A0 0) Ai)) M6) λsrc=>Bq (Ga 2 (Ay (Aj 5) (Ay (Aj 8) Dt))) src.g (Ae (bnd (bnd (A6 (bnd (Ab Ag (A0 8) (ret1 (.int 4))) (El λx=>bnd (A6 (ret1 (.str (sO "\n"))) Ai) (Ge x))) Ai) H0) λsrc=>Bq (Ga 2 (Ay (Aj 9) (Ay (Aj 10) Dt))) src.g (Ae (bnd (bnd (A6 (A0 10) Ai) H0) λsrc=>Bq (Ga 2 (Ay (Aj 11) (Ay (Aj 12) Dt))) src.g (Ae (Ej Cd (A0 12) (Ab Ag (A0 3) (Ab Ao (Ab Ao (Ab Ag (A0 5) (ret1 (.int 0))) (ret1 (.int 2))) (A0 9))) (Ab Ao (Ab Ao (Ab Ag (A0 5) (ret1 (.int 1))) (ret1 (.int 2))) (A0 11)))
 (ret1 .next)) src.ds)
 (ret1 .next)) src.ds)
 (ret1 .next)) src.ds)
 (Ae (E1 (bnd (ret1 (.str (sO "\n"))) (El λx=>bnd (A6 (bnd (bnd (A0 3) Ba) (Bm [6] (Aj 6) (ret1 true) (bnd (ret1 (.str (Str.ofString ""))) (El λx=>bnd (A6 (A0 6) Ai) (Dw x))))) Ai) (Dw x))))
 (ret1 .next))))))))
noncomputable def Ec:List D->Mn D:=Dv [0,1,2] Kk
theorem O6{G:Gd}{P:Params}(L:Co G (Mine.Internal.hK P) 49 45):SF G 1 134 Ec:=
 Dx (xs:=[sO "_law_cells_here",sO "_law_ys",sO "_law_xs"]) (tbl:=[sO "_law_cells_here",sO "_law_ys",sO "_law_xs",sO "_law_board",sO "_law_boxes",sO "_law_box",sO "_law_row",sO "_law_column",sO "_law_cell",sO "_law_k",sO "_law_line_here",sO "_law_at_here",sO "_law_sign",sO "_law_one"]) (n:=0) (C2 L.lay (by kernel_rfl) (by kernel_rfl) (Y5 (by intros;kernel_rfl))) (by kernel_rfl) (code:=.ref 133) (by kernel_rfl) (qual:=sO "_law_drawn.<locals>.") (by kernel_rfl) (by decide+kernel) rfl ((Cp (It L) 60).s ⟨C1 pw 25,_,_,_,_,_⟩ (Cr pw 25) Kk (by kernel_rfl))
noncomputable def T__law_drawn:Tb:={T__law_cells with fns:=((sO "_law_drawn"),134,1,Ec)::T__law_cells.fns}
theorem J0{G:Gd}{P:Params}(L:Co G (Mine.Internal.hK P) 49 45):Cq G T__law_drawn:=(It L).add (L.lay.glob (by kernel_rfl)) (L.lay.fd (by kernel_rfl)) (O6 L)
noncomputable def Lo:Mn Fl:=(Ae (Iv (Dl Eh (Ab Dz (A0 0) (ret1 (.int 3))) (ret1 (.int 1))) (Ae (E1 (Ab Ao (ret1 (.int 1)) (Ab Dz (Ab Hk (A0 0) (ret1 (.int 9))) (ret1 (.int 20)))))
 (ret1 .next)) (ret1 .next))
 (Ae (E1 (Ab Ao (ret1 (.int 1)) (Ab Dz (Ab Hk (A0 0) (ret1 (.int 9))) (ret1 (.int 6)))))
 (ret1 .next)))
noncomputable def Fb:List D->Mn D:=Dv [0] Lo
theorem Q6{G:Gd}{P:Params}(L:Co G (Mine.Internal.hK P) 49 45):SF G 1 105 Fb:=
 Dx (xs:=[sO "_law_number"]) (tbl:=[sO "_law_number"]) (n:=0) (C2 L.lay (by kernel_rfl) (by kernel_rfl) (Ho (by intros;kernel_rfl))) (by kernel_rfl) (code:=.ref 104) (by kernel_rfl) (qual:=sO "_law_size.<locals>.") (by kernel_rfl) (by decide+kernel) rfl ((Cp (J0 L) 60).s ⟨C1 pw 20,_,_,_,_,_⟩ (Cr pw 20) Lo (by kernel_rfl))
noncomputable def T__law_size:Tb:={T__law_drawn with fns:=((sO "_law_size"),105,1,Fb)::T__law_drawn.fns}
theorem Kg{G:Gd}{P:Params}(L:Co G (Mine.Internal.hK P) 49 45):Cq G T__law_size:=(J0 L).add (L.lay.glob (by kernel_rfl)) (L.lay.fd (by kernel_rfl)) (Q6 L)
noncomputable def K5:Mn Fl:=(Ae (bnd (D1 (A6 (ret1 (.int 0)) Ai)) (Af 3))
 (Ae (bnd (bnd (A6 (ret1 (.int 1)) (A6 (Ab Ao (A0 1) (ret1 (.int 1))) Ai)) C4) λsrc=>Bq (Aj 4) src.g (Ae (bnd (Ab Ao (bnd (A6 (bnd (bnd (A0 0) Ba) (Bm [7] (Aj 7) (Dl Eh (Ab Ag (A0 7) (A0 2)) (A0 4)) (A0 7))) Ai) E0) (bnd (A6 (Ab Eh (A0 4) (A0 1)) Ai) Nd)) (Af 5))
 (Ae (bnd (Ab Ao (Ab Ag (A0 3) (Ab M7 (A0 4) (ret1 (.int 1)))) (Ab De (ret1 (.int 2)) (bnd (A6 (ret1 (.int 1)) (A6 (A0 5) Ai)) P7))) (Af 6))
 (Ae (bnd (bnd (A0 0) Ba) λsrc=>Bq (Aj 7) src.g (Ae (Iv (Dl Eh (Ab Ao (Ab Ag (A0 7) (A0 2)) (Ab Ag (A0 7) (Ab Ao (ret1 (.int 2)) (A0 2)))) (A0 4)) (Ae (bnd (Ab Ao (ret1 (.int 3)) (bnd (Ab Ag (A0 7) (ret1 (.int 4))) (El λx=>bnd (A6 (ret1 (.str (sO "\n"))) Ai) (Pd x)))) (Af 8))
 (Ae (Iv (Dl Eh (A0 2) (ret1 (.int 1))) (Ae (bnd (Ab Ao (ret1 (.int 3)) (bnd (A6 (bnd (bnd (bnd (Ab Ag (A0 7) (ret1 (.int 4))) (El λx=>bnd (A6 (ret1 (.str (sO "\n"))) Ai) (Ge x))) Ba) (Bm [9] (Aj 9) (ret1 true) (bnd (A6 (A0 9) Ai) E0))) Ai) Jx)) (Af 8))
 (ret1 .next)) (ret1 .next))
 (Ae (bnd (bnd (A6 (A0 6) (A6 (Ab Ao (Ab Ag (A0 3) (Ab Ag (A0 7) (A0 2))) (A0 8)) Ai)) Jx) (Af 6))
 (ret1 .next)))) (ret1 .next))
 (ret1 .next)) src.ds)
 (Ae (bnd (bnd (A0 3) (Da λk=>bnd (A0 6) (Bg k))) Dg)
 (ret1 .next))))) src.ds)
 (Ae (E1 (A0 3))
 (ret1 .next))))
noncomputable def D4:List D->Mn D:=Dv [0,1,2] K5
theorem O4{G:Gd}{P:Params}(L:Co G (Mine.Internal.hK P) 49 45):SF G 1 129 D4:=
 Dx (xs:=[sO "_law_cells_here",sO "_law_count",sO "_law_way"]) (tbl:=[sO "_law_cells_here",sO "_law_count",sO "_law_way",sO "_law_found",sO "_law_at_here",sO "_law_first",sO "_law_place",sO "_law_cell",sO "_law_room",sO "_law_line_here"]) (n:=0) (C2 L.lay (by kernel_rfl) (by kernel_rfl) (Y5 (by intros;kernel_rfl))) (by kernel_rfl) (code:=.ref 128) (by kernel_rfl) (qual:=sO "_law_stand.<locals>.") (by kernel_rfl) (by decide+kernel) rfl ((Cp (Kg L) 60).s ⟨C1 pw 24,_,_,_,_,_⟩ (Cr pw 24) K5 (by kernel_rfl))
noncomputable def T__law_stand:Tb:={T__law_size with fns:=((sO "_law_stand"),129,1,D4)::T__law_size.fns}
theorem Iw{G:Gd}{P:Params}(L:Co G (Mine.Internal.hK P) 49 45):Cq G T__law_stand:=(Kg L).add (L.lay.glob (by kernel_rfl)) (L.lay.fd (by kernel_rfl)) (O4 L)
noncomputable def Pi:Mn Fl:=(Ae (bnd (D1 (A6 (ret1 (.int 0)) Ai)) (Af 2))
 (Ae (bnd (bnd (A6 (ret1 (.int 1)) (A6 (Ab Ao (A0 0) (ret1 (.int 1))) Ai)) C4) λsrc=>Bq (Aj 3) src.g (Ae (bnd (Ab Ao (Ab Ag (A0 2) (Ab M7 (A0 3) (ret1 (.int 1)))) (ret1 (.int 2))) (Af 4))
 (Ae (bnd (bnd (A0 1) Ba) λsrc=>Bq (Ga 3 (Ay (Aj 5) (Ay (Aj 6) (Ay (Aj 7) Dt)))) src.g (Ae (Iv (Dl Eh (A0 6) (A0 3)) (Ae (bnd (bnd (A6 (A0 4) (A6 (Ab Ao (Ab Ag (A0 2) (A0 5)) (A0 7)) Ai)) Jx) (Af 4))
 (ret1 .next)) (ret1 .next))
 (ret1 .next)) src.ds)
 (Ae (bnd (bnd (A0 2) (Da λk=>bnd (A0 4) (Bg k))) Dg)
 (ret1 .next)))) src.ds)
 (Ae (E1 (A0 2))
 (ret1 .next))))
noncomputable def Ii:List D->Mn D:=Dv [0,1] Pi
theorem Zl{G:Gd}{P:Params}(L:Co G (Mine.Internal.hK P) 49 45):SF G 1 33 Ii:=
 Dx (xs:=[sO "many",sO "spans"]) (tbl:=[sO "many",sO "spans",sO "found",sO "k",sO "place",sO "first",sO "behind",sO "room"]) (n:=0) (C2 L.lay (by kernel_rfl) (by kernel_rfl) (Ug (by intros;kernel_rfl))) (by kernel_rfl) (code:=.ref 32) (by kernel_rfl) (qual:=sO "lines.<locals>.") (by kernel_rfl) (by decide+kernel) rfl ((Cp (Iw L) 60).s ⟨C1 pw 4,_,_,_,_,_⟩ (Cr pw 4) Pi (by kernel_rfl))
noncomputable def T_lines:Tb:={T__law_stand with fns:=((sO "lines"),33,1,Ii)::T__law_stand.fns}
theorem Qv{G:Gd}{P:Params}(L:Co G (Mine.Internal.hK P) 49 45):Cq G T_lines:=(Iw L).add (L.lay.glob (by kernel_rfl)) (L.lay.fd (by kernel_rfl)) (Zl L)
noncomputable def Jc:Mn Fl:=(Ae (E1 (bnd (A0 0) (El λx=>bnd (A6 (ret1 (.str (sO "\n"))) Ai) (Ge x))))
 (ret1 .next))
noncomputable def Es:List D->Mn D:=Dv [0] Jc
theorem Qj{G:Gd}{P:Params}(L:Co G (Mine.Internal.hK P) 49 45):SF G 1 21 Es:=
 Dx (xs:=[sO "text"]) (tbl:=[sO "text"]) (n:=0) (C2 L.lay (by kernel_rfl) (by kernel_rfl) (Ho (by intros;kernel_rfl))) (by kernel_rfl) (code:=.ref 20) (by kernel_rfl) (qual:=sO "lines_of.<locals>.") (by kernel_rfl) (by decide+kernel) rfl ((Cp (Qv L) 60).s ⟨C1 pw 1,_,_,_,_,_⟩ (Cr pw 1) Jc (by kernel_rfl))
noncomputable def T_lines_of:Tb:={T_lines with fns:=((sO "lines_of"),21,1,Es)::T_lines.fns}
theorem Lz{G:Gd}{P:Params}(L:Co G (Mine.Internal.hK P) 49 45):Cq G T_lines_of:=(Qv L).add (L.lay.glob (by kernel_rfl)) (L.lay.fd (by kernel_rfl)) (Qj L)
noncomputable def Lc:Mn Fl:=(Ae (E1 (bnd (A6 (bnd (bnd (bnd (A6 (A0 0) Ai) Es) Ba) (Bm [1] (Aj 1) (ret1 true) (bnd (A6 (A0 1) Ai) E0))) Ai) Jx))
 (ret1 .next))
noncomputable def Io:List D->Mn D:=Dv [0] Lc
theorem Sr{G:Gd}{P:Params}(L:Co G (Mine.Internal.hK P) 49 45):SF G 2 26 Io:=
 Dx (xs:=[sO "text"]) (tbl:=[sO "text",sO "line"]) (n:=1) (C2 L.lay (by kernel_rfl) (by kernel_rfl) (Ho (by intros;kernel_rfl))) (by kernel_rfl) (code:=.ref 25) (by kernel_rfl) (qual:=sO "longest.<locals>.") (by kernel_rfl) (by decide+kernel) rfl ((Cp (Lz L) 60).s ⟨C1 pw 2,_,_,_,_,_⟩ (Cr pw 2) Lc (by kernel_rfl))
noncomputable def T_longest:Tb:={T_lines_of with fns:=((sO "longest"),26,2,Io)::T_lines_of.fns}
theorem Ms{G:Gd}{P:Params}(L:Co G (Mine.Internal.hK P) 49 45):Cq G T_longest:=(Lz L).add (L.lay.glob (by kernel_rfl)) (L.lay.fd (by kernel_rfl)) (Sr L)
noncomputable def Qm:Mn Fl:=(Ae (bnd (bnd (bnd (Ab Ag (A0 0) (ret1 (.int 2))) Ba) (Bm [2] (Aj 2) (ret1 true) (Ek (A6 (Ab Ag (A0 2) (ret1 (.int 1))) (A6 (Ab Ao (Ab Ag (A0 2) (ret1 (.int 1))) (Ab Ag (A0 2) (ret1 (.int 3)))) (A6 (Ab Ao (ret1 (.int 3)) (bnd (A6 (Ab Ag (A0 2) (ret1 (.int 4))) Ai) Io)) Ai)))))) (Af 1))
 (Ae (E1 (bnd (A6 (Ab Ag (A0 0) (ret1 (.int 1))) (A6 (A0 1) Ai)) Ii))
 (ret1 .next)))
noncomputable def Hy:List D->Mn D:=Dv [0] Qm
theorem Us{G:Gd}{P:Params}(L:Co G (Mine.Internal.hK P) 49 45):SF G 3 38 Hy:=
 Dx (xs:=[sO "table"]) (tbl:=[sO "table",sO "spans",sO "cell"]) (n:=2) (C2 L.lay (by kernel_rfl) (by kernel_rfl) (Ho (by intros;kernel_rfl))) (by kernel_rfl) (code:=.ref 37) (by kernel_rfl) (qual:=sO "across.<locals>.") (by kernel_rfl) (by decide+kernel) rfl ((Cp (Ms L) 60).s ⟨C1 pw 5,_,_,_,_,_⟩ (Cr pw 5) Qm (by kernel_rfl))
noncomputable def T_across:Tb:={T_longest with fns:=((sO "across"),38,3,Hy)::T_longest.fns}
theorem P3{G:Gd}{P:Params}(L:Co G (Mine.Internal.hK P) 49 45):Cq G T_across:=(Ms L).add (L.lay.glob (by kernel_rfl)) (L.lay.fd (by kernel_rfl)) (Us L)
noncomputable def X3:Mn Fl:=(Ae (bnd (bnd (bnd (Ab Ag (A0 0) (ret1 (.int 2))) Ba) (Bm [2] (Aj 2) (ret1 true) (Ek (A6 (Ab Ag (A0 2) (ret1 (.int 0))) (A6 (Ab Ao (Ab Ag (A0 2) (ret1 (.int 0))) (Ab Ag (A0 2) (ret1 (.int 2)))) (A6 (Ab Ao (ret1 (.int 2)) (bnd (A6 (bnd (A6 (Ab Ag (A0 2) (ret1 (.int 4))) Ai) Es) Ai) E0)) Ai)))))) (Af 1))
 (Ae (E1 (bnd (A6 (Ab Ag (A0 0) (ret1 (.int 0))) (A6 (A0 1) Ai)) Ii))
 (ret1 .next)))
noncomputable def N8:List D->Mn D:=Dv [0] X3
theorem zAs{G:Gd}{P:Params}(L:Co G (Mine.Internal.hK P) 49 45):SF G 2 43 N8:=
 Dx (xs:=[sO "table"]) (tbl:=[sO "table",sO "spans",sO "cell"]) (n:=1) (C2 L.lay (by kernel_rfl) (by kernel_rfl) (Ho (by intros;kernel_rfl))) (by kernel_rfl) (code:=.ref 42) (by kernel_rfl) (qual:=sO "down.<locals>.") (by kernel_rfl) (by decide+kernel) rfl ((Cp (P3 L) 60).s ⟨C1 pw 6,_,_,_,_,_⟩ (Cr pw 6) X3 (by kernel_rfl))
noncomputable def T_down:Tb:={T_across with fns:=((sO "down"),43,2,N8)::T_across.fns}
theorem Tc{G:Gd}{P:Params}(L:Co G (Mine.Internal.hK P) 49 45):Cq G T_down:=(P3 L).add (L.lay.glob (by kernel_rfl)) (L.lay.fd (by kernel_rfl)) (zAs L)
noncomputable def H6:Mn Fl:=(Ae (bnd (bnd (A6 (Ab Ao (A0 2) (ret1 (.int 1))) (A6 (A0 4) Ai)) C4) λsrc=>Bq (Aj 5) src.g (Ae (bnd (bnd (Ek (A6 (A0 1) (A6 (A0 3) Ai))) Ba) λsrc=>Bq (Aj 6) src.g (Ae (Iv (Dl Ux (Ab Ag (Ab Ag (A0 0) (A0 6)) (A0 5)) (ret1 (.str (sO "+")))) (Ae (Ej Cd (ret1 (.str (sO "-"))) (Ab Ag (A0 0) (A0 6)) (A0 5))
 (ret1 .next)) (ret1 .next))
 (ret1 .next)) src.ds)
 (ret1 .next)) src.ds)
 (Ae (bnd (bnd (A6 (Ab Ao (A0 1) (ret1 (.int 1))) (A6 (A0 3) Ai)) C4) λsrc=>Bq (Aj 6) src.g (Ae (bnd (bnd (Ek (A6 (A0 2) (A6 (A0 4) Ai))) Ba) λsrc=>Bq (Aj 5) src.g (Ae (Iv (Dl Ux (Ab Ag (Ab Ag (A0 0) (A0 6)) (A0 5)) (ret1 (.str (sO "+")))) (Ae (Ej Cd (ret1 (.str (sO "|"))) (Ab Ag (A0 0) (A0 6)) (A0 5))
 (ret1 .next)) (ret1 .next))
 (ret1 .next)) src.ds)
 (ret1 .next)) src.ds)
 (ret1 .next)))
noncomputable def E9:List D->Mn D:=Dv [0,1,2,3,4] H6
theorem Oc{G:Gd}{P:Params}(L:Co G (Mine.Internal.hK P) 49 45):SF G 1 69 E9:=
 Dx (xs:=[sO "signs",sO "north",sO "west",sO "south",sO "east"]) (tbl:=[sO "signs",sO "north",sO "west",sO "south",sO "east",sO "x",sO "y"]) (n:=0) (C2 L.lay (by kernel_rfl) (by kernel_rfl) (zF8 (by intros;kernel_rfl))) (by kernel_rfl) (code:=.ref 68) (by kernel_rfl) (qual:=sO "draw_edges.<locals>.") (by kernel_rfl) (by decide+kernel) rfl ((Cp (Tc L) 60).s ⟨C1 pw 13,_,_,_,_,_⟩ (Cr pw 13) H6 (by kernel_rfl))
noncomputable def T_draw_edges:Tb:={T_down with fns:=((sO "draw_edges"),69,1,E9)::T_down.fns}
theorem J4{G:Gd}{P:Params}(L:Co G (Mine.Internal.hK P) 49 45):Cq G T_draw_edges:=(Tc L).add (L.lay.glob (by kernel_rfl)) (L.lay.fd (by kernel_rfl)) (Oc L)
noncomputable def Hn:Mn Fl:=(Ae (bnd (Ab Ao (A0 1) (ret1 (.int 2))) (Af 4))
 (Ae (bnd (bnd (bnd (A6 (A0 3) Ai) Es) Ba) λsrc=>Bq (Aj 5) src.g (Ae (bnd (Ab Ao (A0 2) (ret1 (.int 2))) (Af 6))
 (Ae (bnd (bnd (A0 5) Ba) λsrc=>Bq (Aj 7) src.g (Ae (Ej Cd (A0 7) (Ab Ag (A0 0) (A0 4)) (A0 6))
 (Ae (bnd (Ab Ao (A0 6) (ret1 (.int 1))) (Af 6))
 (ret1 .next))) src.ds)
 (Ae (bnd (Ab Ao (A0 4) (ret1 (.int 1))) (Af 4))
 (ret1 .next)))) src.ds)
 (ret1 .next)))
noncomputable def F8:List D->Mn D:=Dv [0,1,2,3] Hn
theorem Pu{G:Gd}{P:Params}(L:Co G (Mine.Internal.hK P) 49 45):SF G 2 76 F8:=
 Dx (xs:=[sO "signs",sO "north",sO "west",sO "text"]) (tbl:=[sO "signs",sO "north",sO "west",sO "text",sO "y",sO "line",sO "x",sO "sign"]) (n:=1) (C2 L.lay (by kernel_rfl) (by kernel_rfl) (zCm (by intros;kernel_rfl))) (by kernel_rfl) (code:=.ref 75) (by kernel_rfl) (qual:=sO "draw_text.<locals>.") (by kernel_rfl) (by decide+kernel) rfl ((Cp (J4 L) 60).s ⟨C1 pw 14,_,_,_,_,_⟩ (Cr pw 14) Hn (by kernel_rfl))
noncomputable def T_draw_text:Tb:={T_draw_edges with fns:=((sO "draw_text"),76,2,F8)::T_draw_edges.fns}
theorem Ju{G:Gd}{P:Params}(L:Co G (Mine.Internal.hK P) 49 45):Cq G T_draw_text:=(J4 L).add (L.lay.glob (by kernel_rfl)) (L.lay.fd (by kernel_rfl)) (Pu L)
noncomputable def Jb:Mn Fl:=(Ae (E1 (bnd (A6 (A0 0) Ai) (λds=>bnd (H8 0 Ob 24 29 (sO "in_order.<locals>.<lambda>")) λ_=>By (M4 (Ek (A6 (Ab Ag (A0 0) (ret1 (.int 0))) (A6 (Ab Ag (A0 0) (ret1 (.int 1))) Ai)))) ds)))
 (ret1 .next))
noncomputable def H7:List D->Mn D:=Dv [0] Jb
theorem Rc{G:Gd}{P:Params}(L:Co G (Mine.Internal.hK P) 49 45):SF G 3 50 H7:=
 Dx (xs:=[sO "cells"]) (tbl:=[sO "cells"]) (n:=2) (C2 L.lay (by kernel_rfl) (by kernel_rfl) (Ho (by intros;kernel_rfl))) (by kernel_rfl) (code:=.ref 49) (by kernel_rfl) (qual:=sO "in_order.<locals>.") (by kernel_rfl) (by decide+kernel) rfl ((Cp (Ju L) 60).s ⟨C1 pw 8,_,_,_,_,_⟩ (Cr pw 8) Jb (by kernel_rfl))
noncomputable def T_in_order:Tb:={T_draw_text with fns:=((sO "in_order"),50,3,H7)::T_draw_text.fns}
theorem Ls{G:Gd}{P:Params}(L:Co G (Mine.Internal.hK P) 49 45):Cq G T_in_order:=(Ju L).add (L.lay.glob (by kernel_rfl)) (L.lay.fd (by kernel_rfl)) (Rc L)
noncomputable def Sk:Mn Fl:=(Ae (bnd (D1 (A6 (ret1 (.int 0)) Ai)) (Af 2))
 (Ae (bnd (bnd (A6 (A0 0) Ai) C4) λsrc=>Bq (Aj 3) src.g (Ae (Iv (zF7 (Dl Eh (A0 3) (ret1 (.int 0))) (Dl O8 (A0 3) (A0 1))) (Ae (bnd (bnd (A0 2) (Da λk=>bnd (Ab Ao (Ab Ag (A0 2) (A0 3)) (ret1 (.int 1))) (Bg k))) Dg)
 (ret1 .next)) (Ae (bnd (bnd (A0 2) (Da λk=>bnd (Ab Ag (A0 2) (A0 3)) (Bg k))) Dg)
 (ret1 .next)))
 (ret1 .next)) src.ds)
 (Ae (E1 (A0 2))
 (ret1 .next))))
noncomputable def Nw:List D->Mn D:=Dv [0,1] Sk
theorem zBZ{G:Gd}{P:Params}(L:Co G (Mine.Internal.hK P) 49 45):SF G 1 57 Nw:=
 Dx (xs:=[sO "many",sO "begins"]) (tbl:=[sO "many",sO "begins",sO "found",sO "k"]) (n:=0) (C2 L.lay (by kernel_rfl) (by kernel_rfl) (Ug (by intros;kernel_rfl))) (by kernel_rfl) (code:=.ref 56) (by kernel_rfl) (qual:=sO "kept.<locals>.") (by kernel_rfl) (by decide+kernel) rfl ((Cp (Ls L) 60).s ⟨C1 pw 10,_,_,_,_,_⟩ (Cr pw 10) Sk (by kernel_rfl))
noncomputable def T_kept:Tb:={T_in_order with fns:=((sO "kept"),57,1,Nw)::T_in_order.fns}
theorem Ua{G:Gd}{P:Params}(L:Co G (Mine.Internal.hK P) 49 45):Cq G T_kept:=(Ls L).add (L.lay.glob (by kernel_rfl)) (L.lay.fd (by kernel_rfl)) (zBZ L)
noncomputable def Q2:Mn Fl:=(Ae (bnd (bnd (A6 (Ab Ag (A0 0) (ret1 (.int 0))) (A6 (bnd (bnd (Ab Ag (A0 0) (ret1 (.int 2))) Ba) (Bm [11] (Aj 11) (ret1 true) (Ab Ag (A0 11) (ret1 (.int 0))))) Ai)) Nw) (Af 1))
 (Ae (bnd (bnd (A6 (Ab Ag (A0 0) (ret1 (.int 1))) (A6 (bnd (bnd (Ab Ag (A0 0) (ret1 (.int 2))) Ba) (Bm [11] (Aj 11) (ret1 true) (Ab Ag (A0 11) (ret1 (.int 1))))) Ai)) Nw) (Af 2))
 (Ae (bnd (D1 Ai) (Af 3))
 (Ae (bnd (bnd (Ab Ag (A0 0) (ret1 (.int 2))) Ba) λsrc=>Bq (Ga 5 (Ay (Aj 4) (Ay (Aj 5) (Ay (Aj 6) (Ay (Aj 7) (Ay (Aj 8) Dt)))))) src.g (Ae (bnd (Ab M7 (Ab Ag (A0 1) (Ab Ao (A0 4) (A0 6))) (Ab Ag (A0 1) (A0 4))) (Af 9))
 (Ae (bnd (Ab M7 (Ab Ag (A0 2) (Ab Ao (A0 5) (A0 7))) (Ab Ag (A0 2) (A0 5))) (Af 10))
 (Ae (bnd (bnd (A0 3) (Da λk=>bnd (Ek (A6 (Ab Ag (A0 1) (A0 4)) (A6 (Ab Ag (A0 2) (A0 5)) (A6 (A0 9) (A6 (A0 10) (A6 (A0 8) Ai)))))) (Bg k))) Dg)
 (ret1 .next)))) src.ds)
 (Ae (E1 (Ek (A6 (Ab Ag (A0 1) (Ab Ag (A0 0) (ret1 (.int 0)))) (A6 (Ab Ag (A0 2) (Ab Ag (A0 0) (ret1 (.int 1)))) (A6 (bnd (A6 (A0 3) Ai) H7) Ai)))))
 (ret1 .next))))))
noncomputable def Mb:List D->Mn D:=Dv [0] Q2
theorem Ys{G:Gd}{P:Params}(L:Co G (Mine.Internal.hK P) 49 45):SF G 4 62 Mb:=
 Dx (xs:=[sO "table"]) (tbl:=[sO "table",sO "rows",sO "columns",sO "cells",sO "top",sO "left",sO "high",sO "wide",sO "text",sO "tall",sO "broad",sO "cell"]) (n:=3) (C2 L.lay (by kernel_rfl) (by kernel_rfl) (Ho (by intros;kernel_rfl))) (by kernel_rfl) (code:=.ref 61) (by kernel_rfl) (qual:=sO "tight.<locals>.") (by kernel_rfl) (by decide+kernel) rfl ((Cp (Ua L) 60).s ⟨C1 pw 11,_,_,_,_,_⟩ (Cr pw 11) Q2 (by kernel_rfl))
noncomputable def T_tight:Tb:={T_kept with fns:=((sO "tight"),62,4,Mb)::T_kept.fns}
theorem R8{G:Gd}{P:Params}(L:Co G (Mine.Internal.hK P) 49 45):Cq G T_tight:=(Ua L).add (L.lay.glob (by kernel_rfl)) (L.lay.fd (by kernel_rfl)) (Ys L)
noncomputable def To:Mn Fl:=(Ae (bnd (bnd (A6 (A0 0) Ai) Mb) (Af 0))
 (Ae (bnd (bnd (A6 (A0 0) Ai) Hy) (Af 1))
 (Ae (bnd (bnd (A6 (A0 0) Ai) N8) (Af 2))
 (Ae (bnd (bnd (bnd (A6 (Ab Ao (Ab Ag (A0 2) (Ab Ag (A0 0) (ret1 (.int 0)))) (ret1 (.int 1))) Ai) C4) (Bm [17] (Aj 17) (ret1 true) (Ab De (D1 (A6 (ret1 (.str (sO " "))) Ai)) (Ab Ao (Ab Ag (A0 1) (Ab Ag (A0 0) (ret1 (.int 1)))) (ret1 (.int 1)))))) (Af 3))
 (Ae (bnd (D1 Ai) (Af 4))
 (Ae (bnd (bnd (Ab Ag (A0 0) (ret1 (.int 2))) Ba) λsrc=>Bq (Ga 5 (Ay (Aj 5) (Ay (Aj 6) (Ay (Aj 7) (Ay (Aj 8) (Ay (Aj 9) Dt)))))) src.g (Ae (bnd (bnd (A0 4) (Da λk=>bnd (Ek (A6 (Ab Ag (A0 2) (A0 5)) (A6 (Ab Ag (A0 1) (A0 6)) (A6 (Ab Ag (A0 2) (Ab Ao (A0 5) (A0 7))) (A6 (Ab Ag (A0 1) (Ab Ao (A0 6) (A0 8))) Ai))))) (Bg k))) Dg)
 (ret1 .next)) src.ds)
 (Ae (bnd (bnd (A0 4) Ba) λsrc=>Bq (Ga 4 (Ay (Aj 10) (Ay (Aj 11) (Ay (Aj 12) (Ay (Aj 13) Dt))))) src.g (Ae (bnd (bnd (Ek (A6 (A0 10) (A6 (A0 12) Ai))) Ba) λsrc=>Bq (Aj 14) src.g (Ae (Ej Cd (ret1 (.str (sO "+"))) (Ab Ag (A0 3) (A0 14)) (A0 11))
 (Ae (Ej Cd (ret1 (.str (sO "+"))) (Ab Ag (A0 3) (A0 14)) (A0 13))
 (ret1 .next))) src.ds)
 (ret1 .next)) src.ds)
 (Ae (bnd (bnd (A0 4) Ba) λsrc=>Bq (Ga 4 (Ay (Aj 10) (Ay (Aj 11) (Ay (Aj 12) (Ay (Aj 13) Dt))))) src.g (Ae (bnd (bnd (A6 (A0 3) (A6 (A0 10) (A6 (A0 11) (A6 (A0 12) (A6 (A0 13) Ai))))) E9) Dg)
 (ret1 .next)) src.ds)
 (Ae (bnd (bnd (A6 (A0 4) (A6 (Ab Ag (A0 0) (ret1 (.int 2))) Ai)) M6) λsrc=>Bq (Ga 2 (Ay (Aj 15) (Ay (Aj 16) Dt))) src.g (Ae (bnd (bnd (A6 (A0 3) (A6 (Ab Ag (A0 15) (ret1 (.int 0))) (A6 (Ab Ag (A0 15) (ret1 (.int 1))) (A6 (Ab Ag (A0 16) (ret1 (.int 4))) Ai)))) F8) Dg)
 (ret1 .next)) src.ds)
 (Ae (E1 (bnd (ret1 (.str (sO "\n"))) (El λx=>bnd (A6 (bnd (bnd (A0 3) Ba) (Bm [18] (Aj 18) (ret1 true) (bnd (ret1 (.str (Str.ofString ""))) (El λx=>bnd (A6 (A0 18) Ai) (Dw x))))) Ai) (Dw x))))
 (ret1 .next)))))))))))
noncomputable def Kh:List D->Mn D:=Dv [0] To
theorem Wt{G:Gd}{P:Params}(L:Co G (Mine.Internal.hK P) 49 45):SF G 5 81 Kh:=
 Dx (xs:=[sO "table"]) (tbl:=[sO "table",sO "xs",sO "ys",sO "signs",sO "boxes",sO "top",sO "left",sO "high",sO "wide",sO "text",sO "north",sO "west",sO "south",sO "east",sO "y",sO "box",sO "cell",sO "k",sO "row"]) (n:=4) (C2 L.lay (by kernel_rfl) (by kernel_rfl) (Ho (by intros;kernel_rfl))) (by kernel_rfl) (code:=.ref 80) (by kernel_rfl) (qual:=sO "drawn.<locals>.") (by kernel_rfl) (by decide+kernel) rfl ((Cp (R8 L) 60).s ⟨C1 pw 15,_,_,_,_,_⟩ (Cr pw 15) To (by kernel_rfl))
noncomputable def zAb:Tb:={T_tight with fns:=((sO "drawn"),81,5,Kh)::T_tight.fns}
theorem Xx{G:Gd}{P:Params}(L:Co G (Mine.Internal.hK P) 49 45):Cq G zAb:=(R8 L).add (L.lay.glob (by kernel_rfl)) (L.lay.fd (by kernel_rfl)) (Wt L)
noncomputable def zCl:Mn Fl:=(Ae (bnd (bnd (A6 (bnd (A6 (A0 0) (A6 (ret1 (.int 0)) Ai)) Dn) Ai) Fb) (Af 1))
 (Ae (bnd (bnd (A6 (bnd (A6 (A0 0) (A6 (ret1 (.int 1)) Ai)) Dn) Ai) Fb) (Af 2))
 (Ae (bnd (Ab Eh (Ab Dz (bnd (A6 (A0 0) (A6 (ret1 (.int 2)) Ai)) Dn) (ret1 (.int 8))) (ret1 (.int 5))) (Af 3))
 (Ae (Iv (bnd (A0 3) Cf) (Ae (bnd (Ab Ao (ret1 (.int 6)) (Ab Dz (A0 1) (ret1 (.int 4)))) (Af 1))
 (Ae (bnd (Ab Ao (ret1 (.int 6)) (Ab Dz (A0 2) (ret1 (.int 4)))) (Af 2))
 (ret1 .next))) (ret1 .next))
 (Ae (Iv (Dl Eh (Ab Dz (bnd (A6 (A0 0) (A6 (ret1 (.int 2)) Ai)) Dn) (ret1 (.int 64))) (ret1 (.int 13))) (Ae (bnd (Ab Ao (A0 1) (ret1 (.int 5))) (Af 1))
 (Ae (bnd (Ab Ao (A0 2) (ret1 (.int 5))) (Af 2))
 (ret1 .next))) (ret1 .next))
 (Ae (bnd (bnd (A6 (A0 0) (A6 (A0 1) (A6 (A0 2) (A6 (A0 3) Ai)))) Ee) (Af 4))
 (Ae (bnd (Ek (A6 (A0 1) (A6 (A0 2) (A6 (bnd (A6 (A0 4) Ai) F5) Ai)))) (Af 5))
 (Ae (bnd (bnd (A6 (A0 5) Ai) Kh) (Af 6))
 (Ae (bnd (bnd (A6 (A0 4) (A6 (bnd (A6 (A0 4) (A6 (A0 1) (A6 (ret1 (.int 0)) Ai))) D4) (A6 (bnd (A6 (A0 4) (A6 (A0 2) (A6 (ret1 (.int 1)) Ai))) D4) Ai))) Ec) (Af 7))
 (Ae (E1 (R0 (bnd (A0 6) (Pr "str")) (R0 (Ab Eh (A0 6) (A0 7)) (Ab Eh (Ab Ag (A0 5) (ret1 (.int 2))) (A0 4)))))
 (ret1 .next)))))))))))
noncomputable def Y7:List D->Mn D:=Dv [0] zCl
theorem zDt{G:Gd}{P:Params}(L:Co G (Mine.Internal.hK P) 49 45):SF G 6 141 Y7:=
 Dx (xs:=[sO "_law_script"]) (tbl:=[sO "_law_script",sO "_law_rows",sO "_law_columns",sO "_law_grid",sO "_law_cells_here",sO "_law_table",sO "_law_found",sO "_law_due"]) (n:=5) (C2 L.lay (by kernel_rfl) (by kernel_rfl) (Ho (by intros;kernel_rfl))) (by kernel_rfl) (code:=.ref 140) (by kernel_rfl) (qual:=sO "law.<locals>.") (by kernel_rfl) (by decide+kernel) rfl ((Cp (Xx L) 60).s ⟨C1 pw 26,_,_,_,_,_⟩ (Cr pw 26) zCl (by kernel_rfl))
end
noncomputable abbrev Sp:=Int×Int×Int
noncomputable def Ca (F:List Int) (k:Int) (p:Int) (s:Sp):Int:=if s.2.1=k then max p (F.getD s.1.toNat 0+s.2.2)else p
noncomputable def Hf (sp:List Sp) (F:List Int) (k:Int):Int:=sp.foldl (Ca F k) (F.getD (k - 1).toNat 0+2)
noncomputable def Ng (sp:List Sp):Prop:=∀s,s∈sp->0<=s.1/\s.1<s.2.1
structure Bf (sp:List Sp) (F:List Int):Prop where
 pos:1<=F.length
 zero:F[0]? =some 0
 step:∀k:Nat,1<=k->k<F.length->F.getD k 0=Hf sp F k
theorem H9{α β:Type}{f g:β->α->β}:∀(l:List α) (b:β),(∀b a,a∈l->f b a=g b a)->l.foldl f b=l.foldl g b
 |[],_,_=>rfl
 |a::l,b,h=>by rw[List.foldl_cons,List.foldl_cons,h b a lq1];exact H9 l _ λb a m=>h b a (lq4 _ m)
theorem G5{F:List Int}{x:Int}{i:Nat}(h:i<F.length):(F++[x]).getD i 0=F.getD i 0:=by
 rw[List.getD_eq_getElem?_getD,List.getD_eq_getElem?_getD,List.getElem?_append_left h]
theorem W8{sp:List Sp}(h:Ng sp){F:List Int}{x:Int}{k:Nat}(h1:1<=k) (h2:k<=F.length):Hf sp (F++[x]) k=Hf sp F k:=by
 unfold Hf;rw[G5 (by exact Ja (Dq λZ=>Ac [_,_,_] [A9 x0 x1,A9 x2 x0,B0 x1 (.s x2 (.n 1))] rT Z (C5 h2) (Ch (Bi λY=>Ac [_] [A7 (.s x0 (.n 1)) (.n 0),A9 (.n 1) x0] rT Y (C5 h1)))))]
 refine H9 _ _ λp s m=>?_
 unfold Ca;split
 ·rename_i e;have:=h s m
  rw[G5 (by exact Ja (Dq λZ=>Ac [_,_,_,_,_] [A9 x0 x1,B0 x3 x2,A7 x4 x3,A9 x2 x0,B0 x1 x4] rT Z e this.2 (C5 h2) (Ch (Bi λY=>Ac [_] [A7 x0 (.n 0),A9 (.n 0) x0] rT Y this.1))))]
 ·rfl
theorem Bf.one(sp:List Sp):Bf sp [0]:=⟨by simp,rfl,λk h1 h2=>by simp at h2;exact False.elim (A5 [_] [A9 (.n 1) x0,B0 x0 (.n 0)] rT h1 h2)⟩
theorem Bf.app{sp:List Sp}(h:Ng sp){F:List Int}(l:Bf sp F):Bf sp (F++[Hf sp F F.length]):=by
 refine⟨by simp,by rw[List.getElem?_append_left (by have:=l.pos;exact Bw λhz=>A5 [_] [A9 x0 (.n 0),A9 (.n 1) x0] rT hz this)];exact l.zero,λk h1 h2=>?_⟩
 simp only[lq7,List.length_cons,List.length_nil]at h2;rw[W8 h h1 (by exact Ar λhz=>A5 [_,_] [A7 x1 x0,A7 x0 (.a x1 (.a (.n 0) (.n 1)))] rT hz h2)]
 by_cases hk:k<F.length
 ·rw[G5 hk];exact l.step k h1 hk
 ·have:k=F.length:=by exact Gw (λhz=>A5 [_,_] [A7 x0 x1,A9 x1 x0] rT hz (Nat.not_lt.mp hk)) (λhz=>A5 [_,_] [A7 x1 x0,A7 x0 (.a x1 (.a (.n 0) (.n 1)))] rT hz h2)
  subst this;rw[List.getD_eq_getElem?_getD,List.getElem?_append_right (Nat.le_refl _)];simp
noncomputable def kq (b:Nat->Bool) (a:Nat):Nat->Nat
 |0=>0
 |n+1=>kq b a n+bif Nat.ble n a||b n then 1 else 0
theorem K0{b:Nat->Bool}{a n:Nat}:kq b a (n+1)=kq b a n+bif Nat.ble n a||b n then 1 else 0:=rfl
theorem U7{b:Nat->Bool}{a:Nat}:∀x,x<=a+1->kq b a x=x
 |0,_=>rfl
 |x+1,h=>by
  have e:Nat.ble x a=true:=Nat.ble_eq.mpr (Nat.le_of_succ_le_succ h)
  unfold kq;rw[U7 x (Nat.le_of_succ_le h),e];rfl
theorem Ck{b:Nat->Bool}{a:Nat}{x:Nat}:∀y,x<=y->kq b a x<=kq b a y
 |0,h=>by rw[Nat.le_zero.mp h];exact Nat.le_refl _
 |y+1,h=>by
  rcases Nat.lt_or_eq_of_le h with h|h
  ·exact Nat.le_trans (Ck y (Nat.le_of_lt_succ h)) (Nat.le_add_right ..)
  ·rw[h];exact Nat.le_refl _
theorem Oq{b:Nat->Bool}{a:Nat}{x y:Nat}(hb:b x=true∨x<=a) (h:x<y):kq b a x<kq b a y:=by
 refine Nat.lt_of_lt_of_le ?_ (Ck y h)
 show _<kq b a x+_
 have:(Nat.ble x a||b x)=true:=by
  rcases hb with h|h
  ·rw[h,Bool.or_true]
  ·rw[Nat.ble_eq.mpr h,Bool.true_or]
 rw[this];exact Nat.lt_succ_self _
theorem Qw{b:Nat->Bool}{a:Nat}:∀x,kq b a x<=x
 |0=>Nat.le_refl _
 |x+1=>by
  unfold kq;have:=Qw (b:=b) (a:=a) x
  cases(Nat.ble x a||b x)<;>first|exact Nat.le_succ_of_le this|exact Nat.succ_le_succ this
structure Bn where
 t:Nat
 l:Nat
 b:Nat
 r:Nat
noncomputable def Bn.In (b:Bn) (i j:Nat):Prop:=(b.t<=i/\i<b.b)/\b.l<=j/\j<b.r
noncomputable def zGW (a b:Bn):Prop:=a.t<b.t∨a.t=b.t/\a.l<b.l
noncomputable def at0 (fr:List Nat) (j:Nat):Nat:=fr.getD j 0
structure zCP (R C:Nat) (fr:List Nat) (bs:List Bn):Prop where
 len:fr.length=C
 le:∀j,j<C->at0 fr j<=R
 good:∀b,b∈bs->(b.t<b.b/\b.b<=R)/\b.l<b.r/\b.r<=C
 cov:∀i j,j<C->i<at0 fr j->∃b,b∈bs/\b.In i j
 und:∀b,b∈bs->∀i j,b.In i j->i<at0 fr j
 dis:bs.Pairwise λa b=>∀i j,a.In i j->¬b.In i j
 ord:bs.Pairwise zGW
 frt:∀b,b∈bs->∀j,j<C->b.t<=at0 fr j/\(j<=b.l->b.t<at0 fr j)
theorem zCP.start(R C:Nat):zCP R C (List.replicate C 0) [] where
 len:=List.length_replicate
 le j h:=by unfold at0;rw[List.getD_eq_getElem?_getD,List.getElem?_replicate];split<;>exact lq5 _
 good _ m:=nomatch m
 cov i j h z:=by unfold at0 at z;rw[List.getD_eq_getElem?_getD,List.getElem?_replicate,if_pos h]at z;exact absurd z (Nat.not_lt_zero _)
 und _ m:=nomatch m
 dis:=.nil
 ord:=.nil
 frt _ m:=nomatch m
noncomputable def put (fr:List Nat) (l w v:Nat):List Nat:=fr.take l++List.replicate w v++fr.drop (l+w)
theorem M8{fr:List Nat}{l w v:Nat}(h:l+w<=fr.length):(put fr l w v).length=fr.length:=by
 unfold put;rw[lq7,lq7,List.length_take,List.length_replicate,List.length_drop];omega
theorem Zy{fr:List Nat}{l w v:Nat}(h:l+w<=fr.length) (j:Nat):at0 (put fr l w v) j=if l<=j/\j<l+w then v else at0 fr j:=by
 have h1:(fr.take l).length=l:=by rw[List.length_take];omega
 unfold at0 put;rw[List.getD_eq_getElem?_getD,List.getD_eq_getElem?_getD,lq8];by_cases a:j<l
 ·rw[if_neg (by omega),List.getElem?_append_left (by exact Bw λZ=>A5 [_,_,_] [A9 x0 x1,Cg x0 x2,A7 x1 x2] rT Z h1 a),List.getElem?_take_of_lt a]
 ·rw[List.getElem?_append_right (by exact Ar λZ=>A5 [_,_,_] [A7 x1 x0,B0 x0 x2,A9 x2 x1] rT Z h1 (Nat.not_lt.mp a)),h1]
  by_cases b:j<l+w
  ·rw[if_pos ⟨Nat.le_of_not_lt a,b⟩,List.getElem?_append_left (by rw[List.length_replicate];exact Bw λZ=>A5 [_,_,_,_] [A9 x0 x1,A7 x3 (.a x2 x0),B0 (.a x1 x2) x3] rT Z b (B8 (Ar λY=>A5 [_,_] [A7 x1 x0,A9 x0 x1] rT Y (Nat.not_lt.mp a)))),List.getElem?_replicate,if_pos (by exact Bw λZ=>A5 [_,_,_,_] [A9 x0 x1,A7 x3 (.a x2 x0),B0 (.a x1 x2) x3] rT Z b (B8 (Ar λY=>A5 [_,_] [A7 x1 x0,A9 x0 x1] rT Y (Nat.not_lt.mp a))))];rfl
  ·rw[if_neg (by omega),List.getElem?_append_right (by rw[List.length_replicate];exact Ar λZ=>A5 [_,_,_,_] [A7 x1 x0,A9 (.a x2 x0) x3,A9 x3 (.a x1 x2)] rT Z (Nat.not_lt.mp b) (Bh _ _)),List.length_replicate,List.getElem?_drop]
   congr 2;exact Gw (λZ=>A5 [_,_,_,_,_] [A7 (.a (.a x0 x1) x3) x2,A9 x2 (.a x4 x0),A9 x4 (.a x3 x1)] rT Z (Bh _ _) (Bh _ _)) (λZ=>A5 [_,_,_,_,_] [A7 x2 (.a (.a x0 x1) x3),B0 (.a x4 x0) x2,B0 (.a x3 x1) x4] rT Z (B8 (Ar λY=>A5 [_,_] [A7 x1 x0,A9 x0 x1] rT Y (Nat.not_lt.mp a))) (B8 (Ar λY=>A5 [_,_,_,_] [A7 x1 x0,A9 (.a x2 x0) x3,A9 x3 (.a x1 x2)] rT Y (Nat.not_lt.mp b) (Bh _ _))))
theorem U6(w v:Nat):(List.replicate w v).sum=w*v:=by
 induction w with
 |zero=>simp
 |succ w ih=>rw[List.replicate_succ,List.sum_cons,ih,Nat.succ_mul];exact Gw (λZ=>A5 [_,_] [A7 (.a x1 x0) (.a x0 x1)] rT Z) (λZ=>A5 [_,_] [A7 (.a x0 x1) (.a x1 x0)] rT Z)
theorem zCK{fr:List Nat}{l w m h:Nat}(hl:l+w<=fr.length) (hw:1<=w) (hh:1<=h) (hm:∀j,l<=j->j<l+w->at0 fr j=m):fr.sum+1<=(put fr l w (m+h)).sum:=by
 have e:fr=fr.take l++List.replicate w m++fr.drop (l+w):=by
  refine List.ext_getElem (by rw[←M8 (v:=m) hl];rfl) λj h1 h2=>?_
  have:=Zy (v:=m) hl j
  unfold at0 at this;rw[List.getD_eq_getElem?_getD,List.getD_eq_getElem?_getD,List.getElem?_eq_getElem (by rw[M8 hl];exact h1),List.getElem?_eq_getElem h1]at this
  have this:(put fr l w m)[j]'(by rw[M8 hl];exact h1)=if l<=j/\j<l+w then m else fr[j]:=this
  refine Eq.trans ?_ this.symm
  split
  ·rename_i z;have:=hm j z.1 z.2
   unfold at0 at this;rw[List.getD_eq_getElem?_getD,List.getElem?_eq_getElem h1]at this;exact this
  ·rfl
 have e2:fr.sum=(fr.take l).sum+w*m+(fr.drop (l+w)).sum:=by
  conv=>lhs;rw[e]
  rw[List.sum_append,List.sum_append,U6]
 unfold put;rw[List.sum_append,List.sum_append,U6,e2,Nat.mul_add];have:1<=w*h:=Nat.mul_pos hw hh
 exact Ar λZ=>A5 [_,_,_,_] [A7 (.a (.a x0 (.a x1 x3)) x2) (.a (.a (.a x0 x1) x2) (.n 1)),A9 (.n 1) x3] rT Z this
theorem zCP.step{R C:Nat}{fr:List Nat}{bs:List Bn}(S:zCP R C fr bs){m l w h:Nat}(hmin:∀j,j<C->m<=at0 fr j) (hfirst:∀j,j<l->at0 fr j≠m) (hl:l+w<=C) (hw:1<=w) (hh:1<=h) (hR:m+h<=R)
  (hm:∀j,l<=j->j<l+w->at0 fr j=m):zCP R C (put fr l w (m+h)) (bs++[⟨m,l,m+h,l+w⟩]):=by
 have hlen:l+w<=fr.length:=by rw[S.len];exact hl
 have pa:=Zy (v:=m+h) hlen;have up:∀j,j<C->at0 fr j<=at0 (put fr l w (m+h)) j:=λj hj=>by
  rw[pa j];split
  ·rename_i z;rw[hm j z.1 z.2];exact Ar λZ=>A5 [_,_] [A7 (.a x1 x0) x1,A9 (.n 1) x0] rT Z hh
  ·exact Nat.le_refl _
 refine⟨(M8 hlen).trans S.len,λj hj=>?_,λb mb=>?_,λi j hj hi=>?_,λb mb i j hb=>?_,?_,?_,λb mb j hj=>?_⟩
 ·rw[pa j];split
  ·exact hR
  ·exact S.le j hj
 ·rcases List.mem_append.mp mb with mb|mb
  ·exact S.good b mb
  ·rw[lq0 mb];exact⟨⟨by show m<m+h;exact Bw λZ=>A5 [_,_] [A9 (.a x1 x0) x1,A9 (.n 1) x0] rT Z hh,hR⟩,by show l<l+w;exact Bw λZ=>A5 [_,_] [A9 (.a x0 x1) x0,A9 (.n 1) x1] rT Z hw,hl⟩
 ·by_cases z:i<at0 fr j
  ·obtain⟨b,mb,hb⟩:=S.cov i j hj z;exact⟨b,List.mem_append.mpr (.inl mb),hb⟩
  ·rw[pa j]at hi;split at hi
   ·rename_i q;rw[hm j q.1 q.2]at z;exact⟨_,List.mem_append.mpr (.inr lq1),⟨Nat.le_of_not_lt z,hi⟩,q.1,q.2⟩
   ·exact absurd hi z
 ·rcases List.mem_append.mp mb with mb|mb
  ·have h1:=S.und b mb i j hb;exact Nat.lt_of_lt_of_le h1 (up j (Nat.lt_of_lt_of_le hb.2.2 (S.good b mb).2.2))
  ·rw[lq0 mb]at hb;rw[pa j,if_pos ⟨hb.2.1,hb.2.2⟩];exact hb.1.2
 ·refine List.pairwise_append.mpr ⟨S.dis,List.pairwise_singleton _ _,λa ma b mb i j ha hb=>?_⟩
  rw[lq0 mb]at hb;have h1:=S.und a ma i j ha;rw[hm j hb.2.1 hb.2.2]at h1;exact absurd hb.1.1 (Nat.not_le.mpr h1)
 ·refine List.pairwise_append.mpr ⟨S.ord,List.pairwise_singleton _ _,λa ma b mb=>?_⟩
  rw[lq0 mb];have h1:=S.frt a ma l (by exact Bw λZ=>A5 [_,_,_] [A9 x1 x0,A9 (.a x0 x2) x1,A9 (.n 1) x2] rT Z hl hw)
  rw[hm l (Nat.le_refl _) (by exact Bw λZ=>A5 [_,_] [A9 (.a x0 x1) x0,A9 (.n 1) x1] rT Z hw)]at h1
  rcases Nat.lt_or_eq_of_le h1.1 with z|z
  ·exact .inl z
  ·refine .inr ⟨z,?_⟩
   show a.l<l
   rcases Nat.lt_or_ge a.l l with q|q
   ·exact q
   ·have:=h1.2 q;exact Bw λZ=>A5 [_,_] [Cg x1 x0,A7 x1 x0] rT z this
 ·rcases List.mem_append.mp mb with mb|mb
  ·have h1:=S.frt b mb j hj;exact⟨Nat.le_trans h1.1 (up j hj),λz=>Nat.lt_of_lt_of_le (h1.2 z) (up j hj)⟩
  ·rw[lq0 mb];refine⟨Nat.le_trans (hmin j hj) (up j hj),λz=>?_⟩
   have z:j<=l:=z
   show m<_
   rw[pa j];split
   ·exact Bw λZ=>A5 [_,_] [A9 (.a x1 x0) x1,A9 (.n 1) x0] rT Z hh
   ·have h1:=hmin j hj;have h2:=hfirst j (by omega);omega
theorem R2{R:Nat}:∀{fr:List Nat},(∀j,j<fr.length->at0 fr j<=R)->R*fr.length<=fr.sum->∀j,j<fr.length->at0 fr j=R
 |[],_,_,j,h=>absurd h (Nat.not_lt_zero _)
 |x::fr,h1,h2,j,h=>by
  have a1:x<=R:=h1 0 (Nat.zero_lt_succ _)
  have a2:∀j,j<fr.length->at0 fr j<=R:=λj hj=>h1 (j+1) (Nat.succ_lt_succ hj)
  have up:∀{l:List Nat},(∀j,j<l.length->at0 l j<=R)->l.sum<=R*l.length:=by
   intro l
   induction l with
   |nil=>intro _;exact Nat.le_refl _
   |cons y l ih=>
    intro hh;have b1:y<=R:=hh 0 (Nat.zero_lt_succ _)
    have b2:=ih λj hj=>hh (j+1) (Nat.succ_lt_succ hj)
    rw[List.sum_cons,List.length_cons,Nat.mul_succ];exact Ar λZ=>A5 [_,_,_,_] [A7 (.a x3 x0) (.a x1 x2),A9 x1 x0,A9 x2 x3] rT Z b1 b2
  have a3:=up a2;rw[List.sum_cons,List.length_cons,Nat.mul_succ]at h2
  cases j with
  |zero=>show x=R;exact Gw (λZ=>A5 [_,_,_,_] [A7 x1 x0,A9 (.a x2 x0) (.a x1 x3),A9 x3 x2] rT Z h2 a3) (λZ=>A5 [_,_] [A7 x0 x1,A9 x1 x0] rT Z a1)
  |succ j=>exact R2 a2 (by exact Ar λZ=>A5 [_,_,_,_] [A7 x1 x0,A9 (.a x0 x2) (.a x3 x1),A9 x3 x2] rT Z h2 a1) j (Nat.lt_of_succ_lt_succ h)
structure zFq (R C:Nat) (bs:List Bn):Prop where
 good:∀b,b∈bs->(b.t<b.b/\b.b<=R)/\b.l<b.r/\b.r<=C
 cov:∀i j,i<R->j<C->∃b,b∈bs/\b.In i j
 dis:bs.Pairwise λa b=>∀i j,a.In i j->¬b.In i j
 ord:bs.Pairwise zGW
theorem zCP.full{R C:Nat}{fr:List Nat}{bs:List Bn}(S:zCP R C fr bs) (h:∀j,j<C->at0 fr j=R):zFq R C bs:=
 ⟨S.good,λi j hi hj=>S.cov i j hj (by rw[h j hj];exact hi),S.dis,S.ord⟩
section
open Builtin.Str
noncomputable def Na:Str:=sO " !\"#$&'()*+,-./0123456789:;<=>?@ABCDEFGHIJKLMNOPQRSTUVWXYZ[\\]^_`"++sO "abcdefghijklmnopqrstuvwxyz{|}~"
theorem Jn:Na.length=94:=by decide+kernel
noncomputable def plain (c:Nat):Bool:=decide (32<=c)&&decide (c<=126)
theorem V8:(cl Na).all plain=true:=by decide+kernel
theorem zEm:(sO " !\"#$&'()*+,-./0123456789:;<=>?@ABCDEFGHIJKLMNOPQRSTUVWXYZ[\\]^_`").length=64:=by decide+kernel
theorem zFF:(sO "abcdefghijklmnopqrstuvwxyz{|}~").length=30:=by decide+kernel
theorem Sa(x y:Str):∃j,cl (Txt.rstripChars x y)=(cl x).take j:=by
 obtain⟨j,hj,e⟩:=rstripChars_is_prefix x y;refine⟨j,?_⟩
 rw[e];simp[cl,strSub]
theorem F4{a b:Int}{S:St}(h:(F0 a||F0 b)=true):De (.int a) (.int b) S=.ok (.int (a*b)) S:=C3 h
theorem Ru{x y:Str}{S:St}(h:x.length+y.length<=sizeLine):Ao (.str x) (.str y) S=.ok (.str (x++y)) S:=C3 h
theorem Ui:∀(zs:List Str),(∀y,y∈zs->∃c,y=⟨#[c]⟩/\plain c=true)->(zs.map cl).flatten.all plain=true/\(zs.map cl).flatten.length=zs.length
 |[],_=>⟨rfl,rfl⟩
 |z::r,h=>by
  obtain⟨c,rfl,hc⟩:=h z lq1;obtain⟨i1,i2⟩:=Ui r (λy m=>h y (lq4 _ m))
  rw[List.map_cons,List.flatten_cons];refine⟨?_,?_⟩
  ·rw[List.all_append,i1,Bool.and_true];show(plain c&&true)=true
   rw[hc];rfl
  ·rw[lq7,i2,List.length_cons,Nat.add_comm];rfl
theorem U4{xs ds:List D}{V:Str->Prop}(r:Bs (λx d=>∃y,x=D.str y/\V y) xs ds):∃ys:List Str,xs=ys.map D.str/\ys.length=ds.length/\∀y,y∈ys->V y:=by
 induction r with
 |nil=>exact⟨[],rfl,rfl,λy m=>absurd m List.not_mem_nil⟩
 |cons h _ ih=>
  obtain⟨y,rfl,v⟩:=h;obtain⟨ys,rfl,hl,hv⟩:=ih;refine⟨y::ys,rfl,by rw[List.length_cons,hl];rfl,λz m=>?_⟩
  rcases List.mem_cons.mp m with rfl|m
  ·exact v
  ·exact hv z m
theorem Xd{ys:List Str}{size:Int}(h1:size<=300) (hys:∀y,y∈ys->∃c,y=⟨#[c]⟩/\plain c=true) (hlen:(ys.length:Int)<=size):
  JoinOk (Str.ofString "") ys=true∧(Str.join (Str.ofString "") ys).length≤sizeLine∧(cl (Txt.rstripChars (Str.join (Str.ofString "") ys) (sO " "))).all plain=true∧((Txt.rstripChars (Str.join (Str.ofString "") ys) (sO " ")).length:Int)≤size:=by
 have hsl:(1000:Nat)<=sizeLine:=by decide
 have hf:cl (Str.join (Str.ofString "") ys)=(ys.map cl).flatten:=by rw[Xo];exact Nl ys
 obtain⟨i1,i2⟩:=Ui ys hys;have hjl:(Str.join (Str.ofString "") ys).length=ys.length:=by rw[←Bz,hf,i2]
 obtain⟨t,ht⟩:=Sa (Str.join (Str.ofString "") ys) (sO " ")
 refine⟨Ih (B:=1) (λy m=>?_) ?_,by exact Hj (Bi λZ=>Ac [_,_,_,_] [A7 x0 x1,A9 x2 (.n 300),A9 x3 x2,A9 (.n 1000) x0,B0 x1 x3] rT Z h1 hlen (C5 hsl) (Kj hjl)),?_,?_⟩
 ·obtain⟨c,rfl,_⟩:=hys y m;exact Nat.le_refl 1
 ·show ys.length*1+ys.length*0<=_
  omega
 ·rw[ht,hf];exact List.all_eq_true.mpr λc mc=>List.all_eq_true.mp i1 c (List.mem_of_mem_take mc)
 ·rw[←Bz,ht,List.length_take,Bz];omega
theorem S5{n size:Int}{st:St}{Q:D->St->Prop}(h0:0<=size) (h1:size<=300) (hQ:∀x j,(cl x).all plain=true->(x.length:Int)<=size->Q (.str x) ⟨st.loc,st.sto++j⟩):W (D3 [.int n,.int size]) st Q:=by
 have hsl:(1000:Nat)<=sizeLine:=by decide
 refine Cy rfl ?_
 unfold I5;refine As (st1:=⟨B9 (Fj Br [0,1] [.int n,.int size]) 2 (.str _),st.sto⟩) rfl (As (Bk (A8 rfl rfl (Ru (by rw[zEm,zFF];exact Ar λZ=>A5 [_] [A7 x0 (.a (.n 64) (.n 30)),A9 (.n 1000) x0] rT Z hsl)))) (Al ?_))
 refine Ad.mpr (Ad.mpr (Ad.mpr (Aa rfl (Ad.mpr (Ad.mpr (Ad.mpr (Aa (A2 rfl (Ax (Hs.mpr ⟨Cl.mpr ⟨by exact Bi λZ=>Ac [_] [A7 x0 (.s (.n 0) (.n 1099511627776)),A9 (.n 0) x0] rT Z h0,by exact Dq λZ=>Ac [_] [A9 (.n 1099511627776) x0,A9 x0 (.n 300)] rT Z h1⟩,rfl,rfl⟩))) ?_)))))))
 refine F1 (λ_=>true) (λ_ x _=>∃y,x=.str y/\∃c,y=⟨#[c]⟩/\plain c=true) (λl=>l 2=some (.str Na)/\l 0=some (.int n)) (by show(Di _ _ _).length<=sizeLine;rw[Dy];exact Hj (Bi λZ=>Ac [_,_,_] [A7 x0 x1,A9 x2 (.n 300),A9 (.n 1000) x0,B0 x1 x2] rT Z h1 (C5 hsl) (Ch (Bi λY=>Ac [_] [A7 x0 (.n 0),A9 (.n 0) x0] rT Y h0)))) (λ_ _ _ _ _ h=>h) (λ_ _=>trivial) ⟨rfl,rfl⟩ (λd hd l σ' hA hx=>?_) λxs σ' hx r=>?_
 ·obtain⟨j,hj,rfl⟩:=Mj hd;have hr:=Bu (a:=n+(0+(j:Int)*1)*(1+(n.fdiv 94).fmod 93)) (b:=94) (by decide);refine⟨B9 l 3 _,rfl,hA,Aa rfl ⟨rfl,rfl,.refl _,λ_=>Jw (Aa (A1 (i:=2) hA.1) (Aa (A8 (A8 (A1 (i:=0) hA.2) (A8 rfl (A8 rfl (A8 (A8 (A1 (i:=0) hA.2) rfl rfl) rfl rfl) rfl) (F4 (by rw[E4 (by omega) (by omega)];rfl))) rfl) rfl rfl) ?_))⟩⟩
  refine(zD2 hr.1 (by rw[Jn];exact hr.2) (by rw[Jn];decide)).mpr ⟨rfl,.refl _,_,rfl,_,rfl,?_⟩
  exact List.all_eq_true.mp V8 _ (Array.getElem_mem_toList (xs:=Na.cps) (i:=(n+(0+(j:Int)*1)*(1+(n.fdiv 94).fmod 93)).fmod 94 |>.toNat) (by show _<Na.length;rw[Jn];exact Ja (Dq λZ=>Ac [_,_] [A9 (.n 94) x0,A7 x1 (.n 94),B0 x0 x1] rT Z hr.2 (Ch (Bi λY=>Ac [_] [A7 x0 (.n 0),A9 (.n 0) x0] rT Y hr.1)))))
 ·rw[D6]at r;obtain⟨ys,rfl,hl,hys⟩:=U4 r;rw[Dy]at hl;obtain⟨j1,j2,j3,j4⟩:=Xd (size:=size) h1 hys (by exact Bi λZ=>Ac [_,_,_] [A7 x0 x1,B0 x1 x2,B0 x2 x0] rT Z (Kj hl) (Ch (Bi λY=>Ac [_] [A7 x0 (.n 0),A9 (.n 0) x0] rT Y h0)))
  obtain⟨j,rfl⟩:=hx;refine Aa rfl (Pl.mpr ⟨_,ys,lq3,H3 ys,j1,Aa (A2 rfl (C3 j2)) (Aa rfl ?_)⟩)
  have:=hQ _ (j++[.list (ys.map D.str)]) j3 j4
  rw[←lq8]at this;exact this
noncomputable def Is (c:Nat):Bool:=c==10||plain c
theorem N9{l:List Nat}(h:l.all plain=true):l.all Is=true:=by
 rw[List.all_eq_true]at h ⊢;intro c m;unfold Is;rw[h c m,Bool.or_true]
theorem Oj{p:Nat->Bool}{c:Nat}(hc:p c=true):∀(as:List (List Nat)),(∀a,a∈as->a.all p=true)->(Db c as).all p=true
 |[],_=>rfl
 |[a],h=>h a lq1
 |a::b::r,h=>by
  have:=Oj hc (b::r) λx m=>h x (lq4 _ m)
  simp only[Db,List.all_append,List.all_cons,hc,this,h a lq1,Bool.and_self]
theorem zAf(x y:Str):(x++y).length=x.length+y.length:=by
 rw[←Bz,Fv,lq7,Bz,Bz]
theorem zCR{ps:List Str}{B:Nat}(hp:∀p,p∈ps->(cl p).all plain=true/\p.length<=B) (hl:ps.length*(B+1)<=200):
  JoinOk ⟨#[10]⟩ ps=true∧(Str.join ⟨#[10]⟩ ps).length+(sO ".").length≤sizeLine∧(cl (Str.join ⟨#[10]⟩ ps++sO ".")).all Is=true∧(Str.join ⟨#[10]⟩ ps++sO ".").length≤201:=by
 have hsl:(2000:Nat)<=sizeLine:=by decide
 have l1:(sO ".").length=1:=rfl
 have hjl:(Str.join ⟨#[10]⟩ ps).length<=200:=by
  rw[←Bz,K9];refine Nat.le_trans (Km 10 (B:=B) (ps.map cl) (λa m=>?_)) ?_
  ·obtain⟨p,mp,rfl⟩:=List.mem_map.mp m;rw[Bz];exact(hp p mp).2
  ·rw[lq6];exact hl
 rw[Nat.mul_succ]at hl;refine⟨Ih (B:=B) (λy m=>(hp y m).2) (by show ps.length*B+ps.length*1<=_;omega),by exact Ar λZ=>A5 [_,_,_] [A7 x0 (.a x2 x1),A9 (.n 2000) x0,B0 x1 (.n 1),A9 x2 (.n 200)] rT Z hsl l1 hjl,?_,by rw[zAf];exact Ar λZ=>A5 [_,_] [A7 (.n 201) (.a x1 x0),B0 x0 (.n 1),A9 x1 (.n 200)] rT Z l1 hjl⟩
 rw[Fv,List.all_append,K9];refine Bool.and_eq_true_iff.mpr ⟨Oj rfl _ λa m=>?_,rfl⟩
 obtain⟨p,mp,rfl⟩:=List.mem_map.mp m;exact N9 (hp p mp).1
theorem Ts{msrc:Mn Gz}{margs:Mn (List D)}{N B:Nat}{loc:Be}{σ:Bp}{more:Int}{Q:Fl->St->Prop}(hsrc:msrc ⟨loc,σ⟩=.ok ⟨Di 0 1 N,λ_=>True⟩ ⟨loc,σ⟩) (hN:N*(B+1)<=200) (hB:B<=10) (h1:loc 1=some (.int more))
  (hargs:∀(l:Be) (σ':Bp) (i:Int),l 1=some (.int more)->∃a b,margs ⟨B9 l 3 (.int i),σ'⟩=.ok [.int a,.int b] ⟨B9 l 3 (.int i),σ'⟩/\0<=b/\b<=B)
  (hQ:∀x l j,(cl x).all Is=true->x.length<=201->Q (.ret (.str x)) ⟨l,σ++j⟩):
  W (Ae (bnd (bnd msrc (Bm [3] (Aj 3) (ret1 true) (bnd margs D3))) (Af 2)) (Ae (E1 (Ab Ao (bnd (ret1 (.str (sO "\n"))) (El λx=>bnd (A6 (A0 2) Ai) (Dw x))) (ret1 (.str (sO "."))))) (ret1 .next))) ⟨loc,σ⟩ Q:=by
 have hsl:(1000:Nat)<=sizeLine:=by decide
 refine Al (Ad.mpr (Ad.mpr (Aa hsrc ?_)))
 refine F1 (λ_=>true) (λ_ x _=>∃y,x=.str y/\(cl y).all plain=true/\y.length<=B) (λl=>l 1=some (.int more)) (by show(Di _ _ _).length<=_;rw[Dy];rw[Nat.mul_succ]at hN;exact Ar λZ=>A5 [_,_,_] [A7 x1 x0,A9 (.a x2 x0) (.n 200),A9 (.n 1000) x1,A9 (.n 0) x2] rT Z hN hsl (lq5 _)) (λ_ _ _ _ _ h=>h) (λ_ _=>trivial) h1 (λd hd l σ' hA hx=>?_) λxs σ₁ hx r=>?_
 ·obtain⟨i,_,rfl⟩:=Mj hd;obtain⟨a,b,e,b0,b1⟩:=hargs l σ' (0+(i:Int)*1) hA
  exact⟨B9 l 3 _,rfl,hA,Aa rfl ⟨rfl,rfl,.refl _,λ_=>Ad.mpr (Aa e (S5 b0 (by exact Bi λZ=>Ac [_,_] [A7 (.n 300) x0,A9 x0 x1,A9 x1 (.n 10)] rT Z b1 (C5 hB)) λx jj h1 h2=>⟨rfl,.app _ _,x,rfl,h1,by exact Hj (Bi λZ=>Ac [_,_,_] [A7 x0 x1,A9 x2 x0,A9 x1 x2] rT Z b1 h2)⟩))⟩⟩
 ·rw[D6]at r;obtain⟨ps,rfl,hl,hps⟩:=U4 r;rw[Dy]at hl;obtain⟨g1,g2,g3,g4⟩:=zCR hps (by rw[hl];exact hN)
  obtain⟨j,rfl⟩:=hx;refine Aa rfl (Al (Ad.mpr (Jw (Ad.mpr (Aa rfl (Ad.mpr (Aa rfl (Pl.mpr ⟨_,ps,lq3,H3 ps,g1,Aa rfl (Aa (Ru g2) (Aa rfl ?_))⟩))))))))
  have:=hQ _ (B9 loc 2 (.ref (σ++j).length)) (j++[.list (ps.map D.str)]) g3 g4
  rw[←lq8]at this;exact this
theorem zEA{n:Int}{st:St}{Q:D->St->Prop}(hQ:∀x j,(cl x).all Is=true->x.length<=201->Q (.str x) ⟨st.loc,st.sto++j⟩):W (F7 [.int n]) st Q:=by
 refine Cy rfl ?_
 unfold Ib;refine As (st1:=⟨B9 (Fj Br [0] [.int n]) 1 (.int (n.fdiv 8)),st.sto⟩) rfl ?_
 generalize n.fdiv 8=more
 refine Dj (b:=n.fmod 64==7) rfl (λ_=>?_) λ_=>Aa rfl (Dj (b:=n.fmod 16==14) rfl (λ_=>?_) λ_=>Aa rfl (Dj (b:=n.fmod 8==6) rfl (λ_=>?_) λ_=>Aa rfl ?_))
 ·have hm:=Bu (a:=more.fdiv 8) (b:=201) (by decide);exact Al (Ad.mpr (Ad.mpr (Aa rfl (S5 hm.1 (by exact Bi λZ=>Ac [_] [A7 (.n 300) x0,A7 x0 (.n 201)] rT Z hm.2) λx j h1 h2=>Aa rfl (hQ x j (N9 h1) (by exact Hj (Bi λZ=>Ac [_,_] [A7 (.n 201) x0,A7 x1 (.n 201),A9 x0 x1] rT Z hm.2 h2)))))))
 ·have hm:=Bu (a:=more.fdiv 2) (b:=60) (by decide);refine Ts (more:=more) (N:=(1+(more.fdiv 2).fmod 60).toNat) (A2 rfl (Ax (Hs.mpr ⟨Cl.mpr ⟨by exact Bi λZ=>Ac [_] [A7 (.a (.n 1) x0) (.s (.n 0) (.n 1099511627776)),A9 (.n 0) x0] rT Z hm.1,by exact Dq λZ=>Ac [_] [A9 (.n 1099511627776) (.a (.n 1) x0),A7 x0 (.n 60)] rT Z hm.2⟩,rfl,rfl⟩))) (B:=2) (by omega) (by decide) rfl (λl σ' i hA=>?_) λx l j h1 h2=>hQ x j h1 h2
  have hm3:=Bu (a:=more+i) (b:=3) (by decide);exact⟨_,_,A2 (A8 (A8 (A1 (i:=1) hA) rfl rfl) (A8 rfl rfl (F4 (by rw[E4 (by decide) (by decide)];rfl))) rfl) (A2 (A2 (A8 (A8 (A1 (i:=1) hA) rfl rfl) rfl rfl) rfl) rfl),hm3.1,by exact Bi λZ=>Ac [_] [A7 (.n 2) x0,A7 x0 (.n 3)] rT Z hm3.2⟩
 ·have hm:=Bu (a:=more) (b:=4) (by decide);refine Ts (more:=more) (N:=(1+more.fmod 4).toNat) (A2 rfl (Ax (Hs.mpr ⟨Cl.mpr ⟨by exact Bi λZ=>Ac [_] [A7 (.a (.n 1) x0) (.s (.n 0) (.n 1099511627776)),A9 (.n 0) x0] rT Z hm.1,by exact Dq λZ=>Ac [_] [A9 (.n 1099511627776) (.a (.n 1) x0),A7 x0 (.n 4)] rT Z hm.2⟩,rfl,rfl⟩))) (B:=8) (by omega) (by decide) rfl (λl σ' i hA=>?_) λx l j h1 h2=>hQ x j h1 h2
  have hm3:=Bu (a:=more.fdiv 4+2*i) (b:=9) (by decide);exact⟨_,_,A2 (A8 (A8 (A1 (i:=1) hA) rfl rfl) (A8 rfl rfl (F4 (by rw[E4 (by decide) (by decide)];rfl))) rfl) (A2 (A2 (A8 (A8 (A8 (A1 (i:=1) hA) rfl rfl) (A8 rfl rfl (F4 (by rw[E4 (by decide) (by decide)];rfl))) rfl) rfl rfl) rfl) rfl),hm3.1,by exact Bi λZ=>Ac [_] [A7 (.n 8) x0,A7 x0 (.n 9)] rT Z hm3.2⟩
 ·have hm:=Bu (a:=more) (b:=7) (by decide);have hm8:=Bu (a:=n) (b:=8) (by decide);have hmin:min 1 (n.fmod 8)=0∨min 1 (n.fmod 8)=1:=by omega
  have hmul:0<=more.fmod 7*min 1 (n.fmod 8)/\more.fmod 7*min 1 (n.fmod 8)<=200:=by
   rcases hmin with e|e<;>rw[e]<;>omega
  refine Al (Ad.mpr (Ad.mpr (Aa (A2 rfl (A2 (A2 (A8 rfl rfl (F4 (a:=more.fmod 7) (b:=min 1 (n.fmod 8)) (by rw[E4 (by exact Dq λZ=>Ac [_] [A9 x0 (.s (.n 0) (.n 1000000)),A9 (.n 0) x0] rT Z hm.1) (by exact Dq λZ=>Ac [_] [A9 (.n 1000000) x0,A7 x0 (.n 7)] rT Z hm.2)];rfl))) rfl) rfl)) (S5 hmul.1 (by exact Bi λZ=>Ac [_] [A7 (.n 300) x0,A9 x0 (.n 200)] rT Z hmul.2) λx j h1 h2=>Aa rfl (hQ x j (N9 h1) (by exact Hj (Bi λZ=>Ac [_,_] [A7 (.n 201) x0,A9 x1 (.n 200),A9 x0 x1] rT Z hmul.2 h2)))))))
theorem zDd{ns:List Int}{k:Int}{st:St}{Q:D->St->Prop}(h0:0<=k) (hk:k<2 ^ 63) (hl:ns.length<2 ^ 62) (hQ:Q (.int (ns.getD k.toNat 0)) st):W (Dn [.scr ns,.int k]) st Q:=by
 refine Cy rfl (Dj (b:=decide (k<ns.length)) (Dc rfl (A2 rfl (C3 hl)) rfl rfl) (λh=>?_) λh=>?_)
 ·have h:=of_decide_eq_true h;have hlt:k.toNat<ns.length:=by exact Ja (Dq λZ=>Ac [_,_,_] [A9 x0 x1,A7 x2 x0,B0 x1 x2] rT Z h (Ch (Bi λY=>Ac [_] [A7 x0 (.n 0),A9 (.n 0) x0] rT Y h0)))
  rw[List.getD_eq_getElem?_getD,List.getElem?_eq_getElem hlt]at hQ;exact Al (Ad.mpr (Jw (Aa rfl (Aa rfl (Ss.mpr ⟨⟨h0,hk⟩,_,List.getElem?_eq_getElem hlt,Aa rfl hQ⟩)))))
 ·have h:=of_decide_eq_false h;rw[List.getD_eq_getElem?_getD,List.getElem?_eq_none (by exact Hj (Bi λZ=>Ac [_,_,_] [A7 x1 x0,A9 x0 x2,A9 x2 x1] rT Z (Int.not_lt.mp h) (G6 _)))]at hQ
  exact Aa rfl (Jo rfl hQ)
theorem zAP{n:Int}{st:St}{Q:D->St->Prop}(hQ:∀m,1<=m->m<=20->Q (.int m) st):W (Fb [.int n]) st Q:=by
 refine Cy rfl (Dj (b:=n.fmod 3==1) rfl (λ_=>?_) λ_=>?_)
 ·have:=Bu (a:=n.fdiv 9) (b:=20) (by decide)
  exact Jo rfl (hQ _ (by exact Bi λZ=>Ac [_] [A7 (.a (.n 1) x0) (.n 1),A9 (.n 0) x0] rT Z this.1) (by exact Bi λZ=>Ac [_] [A7 (.n 20) (.a (.n 1) x0),A7 x0 (.n 20)] rT Z this.2))
 ·have:=Bu (a:=n.fdiv 9) (b:=6) (by decide)
  exact Aa rfl (Jo rfl (hQ _ (by exact Bi λZ=>Ac [_] [A7 (.a (.n 1) x0) (.n 1),A9 (.n 0) x0] rT Z this.1) (by exact Bi λZ=>Ac [_] [A7 (.n 20) (.a (.n 1) x0),A7 x0 (.n 6)] rT Z this.2)))
theorem Jq{x:Str}{st:St}{Q:D->St->Prop}(hx:x.length+2<=sizeLine) (h:Q (.ref st.sto.length) ⟨st.loc,st.sto++[.list ((Txt.split x ⟨#[10]⟩).map D.str)]⟩):W (Es [.str x]) st Q:=by
 refine Cy rfl ?_
 simp only[Jc,L3,Ad,Sw,Fj,Su,Nat.reduceBEq,BEq.rfl,cond_true,cond_false,Cj,Ty,Rm,Option.some.injEq,exists_eq_left',zE4,zFI];exact Mr hx h
noncomputable def Rb (xs:List Str):List Int:=xs.map λx=>(x.length:Int)
noncomputable def Qc (x:Str):Int:=(Rb (Txt.split x ⟨#[10]⟩)).foldl max 0
theorem Rh{α β:Type}{R:α->β->Prop}{f:β->α}:∀{xs:List α}{ys:List β},Bs R xs ys->(∀x y,y∈ys->R x y->x=f y)->xs=ys.map f
 |_,_,.nil,_=>rfl
 |_,_,.cons r rs,h=>by
  rw[List.map_cons,h _ _ lq1 r,Rh rs λx y m=>h x y (lq4 _ m)]
theorem Mm{x:Str}:∀y,y∈Txt.split x ⟨#[10]⟩->y.length<=x.length:=λy m=>by
 have h1:(cl y)∈D7 10 (cl x):=by rw[←Rq];exact List.mem_map.mpr ⟨y,m,rfl⟩
 have gen:∀(l:List Nat) (p:List Nat),p∈D7 10 l->p.length<=l.length:=by
  intro l
  induction l with
  |nil=>intro p m;simp[D7]at m;rw[m];simp
  |cons c l ih=>
   intro p m;unfold D7 at m;by_cases h:c=10
   ·rw[if_pos h]at m;rcases List.mem_cons.mp m with rfl|m
    ·simp
    ·have:=ih p m;simp;exact Ar λZ=>A5 [_,_] [A7 (.a x1 (.n 1)) x0,A9 x0 x1] rT Z this
   ·rw[if_neg h]at m
    cases e:D7 10 l with
    |nil=>exact absurd e (Ft 10 l)
    |cons a s=>
     rw[e]at m ih;rcases List.mem_cons.mp m with rfl|m
     ·have:=ih a lq1;simp;exact Ar λZ=>A5 [_,_] [A7 x1 x0,A9 x0 x1] rT Z this
     ·have:=ih p (lq4 _ m);simp;exact Ar λZ=>A5 [_,_] [A7 (.a x1 (.n 1)) x0,A9 x0 x1] rT Z this
 have:=gen _ _ h1
 rwa [Bz,Bz]at this
theorem zAL(x:Str):Builtin.Str.strKind (⟨#[10]⟩:Str)<=Builtin.Str.strKind x:=by
 have:Builtin.Str.strKind (⟨#[10]⟩:Str)=1:=by decide+kernel
 rw[this];unfold Builtin.Str.strKind;split<;>(try split)<;>(try split)<;>omega
theorem Il{x:Str}:((Txt.split x ⟨#[10]⟩).length:Int)=Txt.count x ⟨#[10]⟩+1:=by
 unfold Txt.split Txt.count;have hc:(⟨#[10]⟩:Str).length=1:=rfl
 by_cases h1:(decide (x.length<(⟨#[10]⟩:Str).length)||decide (Builtin.Str.strKind x<Builtin.Str.strKind ⟨#[10]⟩))=true
 ·rw[if_pos h1];have:occurrences x ⟨#[10]⟩ 0 x.length (x.length+1)=[]:=by
   have hx0:x.length=0:=by
    simp only[hc,Bool.or_eq_true,decide_eq_true_eq]at h1;rcases h1 with h1|h1
    ·exact Gw (λZ=>A5 [_] [A7 x0 (.n 0),A9 (.n 0) x0] rT Z (lq5 _)) (λZ=>A5 [_] [A7 (.n 0) x0,A7 x0 (.n 1)] rT Z h1)
    ·have:Builtin.Str.strKind (⟨#[10]⟩:Str)<=Builtin.Str.strKind x:=zAL x
     exact Gw (λZ=>A5 [_,_] [A7 x0 x1,A9 x1 x0] rT h1 this) (λZ=>A5 [_,_] [A7 x0 x1,A9 x1 x0] rT h1 this)
   have e0:x=⟨#[]⟩:=by
    apply zDi
    rw[show cl (⟨#[]⟩:Str)=[]from rfl]
    exact List.eq_nil_of_length_eq_zero (by rw[Bz];exact hx0)
   subst e0;decide+kernel
  rw[this];rfl
 ·rw[if_neg h1];by_cases h2:(occurrences x ⟨#[10]⟩ 0 x.length (x.length+1)).isEmpty=true
  ·rw[if_pos h2,List.isEmpty_iff.mp h2];rfl
  ·rw[if_neg h2,StrLaws.partsBetween_eq,Gp];exact Gh (λZ=>Ac [_] [A7 (.a x0 (.n 1)) (.a x0 (.n 1))] rT Z) (λZ=>Ac [_] [A7 (.a x0 (.n 1)) (.a x0 (.n 1))] rT Z)
theorem Hv{x:Str}:(Txt.split x ⟨#[10]⟩).length<=x.length+2:=by
 have h1:=Il (x:=x);unfold Txt.count at h1;have h2:=StrLaws.occ_length_le_len x ⟨#[10]⟩ 0 x.length (x.length+1);exact Hj (Bi λZ=>Ac [(↑(Txt.split x {cps:= #[10]}).length),(↑x.length),(↑(occurrences x {cps:= #[10]} 0 x.length (x.length+1)).length),(↑(x.length+1 - 0))] [A7 (.a x1 (.n 2)) x0,B0 x0 (.a x2 (.n 1)),A9 x2 x3,B0 (.a x3 (.n 0)) (.a x1 (.n 1))] rT Z h1 (C5 h2) (J5 (Bi λY=>Ac [(↑x.length)] [A7 (.a x0 (.n 1)) (.n 0),A9 (.n 0) x0] rT Y (Az _))))
theorem W2{x:Str}{st:St}{Q:D->St->Prop}(hx:x.length<=1000) (h:∀j,Q (.int (Qc x)) ⟨st.loc,st.sto++j⟩):W (Io [.str x]) st Q:=by
 have hsl:(2000:Nat)<=sizeLine:=by decide
 have hsm:=Hv (x:=x);refine Cy rfl ?_
 simp only[Lc,L3,Ad,Sw,Fj,Su,Nat.reduceBEq,BEq.rfl,cond_true,cond_false,Cj,Ty,Rm,Option.some.injEq,exists_eq_left'];refine Jq (by exact Ar λZ=>A5 [_,_] [A7 x1 (.a x0 (.n 2)),A9 x0 (.n 1000),A9 (.n 2000) x1] rT Z hx hsl) ?_
 refine E2.mpr ⟨(Txt.split x ⟨#[10]⟩).map D.str,by simp,?_⟩
 refine F1 (λ_=>true) (λd v _=>∃y,d=.str y/\v=.int y.length) (λ_=>True) (by rw[lq6];exact Ar λZ=>A5 [_,_,_] [A7 x0 x1,A9 x2 (.n 1000),A9 (.n 2000) x0,A9 x1 (.a x2 (.n 2))] rT Z hx hsl hsm) (λ_ _ _ _ _ h=>h) (λσ hx=>hx.get (by simp)) trivial ?_ ?_
 ·intro d hd l σ' hA hx';obtain⟨y,hy,rfl⟩:=List.mem_map.mp hd;refine⟨_,rfl,trivial,?_⟩
  simp only[Ad,Sw,Cj,Su,Nat.reduceBEq,BEq.rfl,cond_true,cond_false,Option.some.injEq,exists_eq_left',Yq,true_and];exact⟨.refl _,λ_=>⟨by have:=Mm y hy;exact Bw λZ=>A5 [_,_] [A9 (.n 4611686018427387904) x0,A9 x1 (.n 1000),A9 x0 x1] rT Z hx this,.refl _,y,rfl,rfl⟩⟩
 ·intro xs σ' hx' r;have e:xs=(Rb (Txt.split x ⟨#[10]⟩)).map D.int:=by
   rw[D6]at r;have:=Rh (f:=λd=>match d with|.str y=>D.int y.length|_=>.none) r (λv d _ h=>by obtain⟨y,rfl,rfl⟩:=h;rfl)
   rw[this];simp[Rb]
  have hmx:(Rb (Txt.split x ⟨#[10]⟩)).max? =some (Qc x):=by
   unfold Qc
   cases hs:Txt.split x ⟨#[10]⟩with
   |nil=>exact absurd hs (Mu x 10)
   |cons p r=>
    show some (List.foldl max _ _)=some (List.foldl max (max 0 _) _)
    rw[Int.max_eq_right (by exact Bi λZ=>Ac [_] [A7 x0 (.n 0),A9 (.n 0) x0] rT Z (Az _):(0:Int)<=p.length)]
  refine zAT.mpr ⟨xs,Rb (Txt.split x ⟨#[10]⟩),Qc x,by simp,by rw[e];exact H1 _,hmx,?_⟩
  obtain⟨j,rfl⟩:=hx';have:=h ([.list ((Txt.split x ⟨#[10]⟩).map D.str)]++j++[.list xs])
  simpa using this
noncomputable def zEb (s:Sp):D:=.tup [.int s.1,.int s.2.1,.int s.2.2]
noncomputable def Te:Mn Fl:=(Ae (Iv (Dl Eh (A0 6) (A0 3)) (Ae (bnd (bnd (A6 (A0 4) (A6 (Ab Ao (Ab Ag (A0 2) (A0 5)) (A0 7)) Ai)) Jx) (Af 4))
 (ret1 .next)) (ret1 .next))
 (ret1 .next))
noncomputable def lL (ks kf:Nat) (n:Int) (k p a b c:Option D):Be:=Oe [some (.int n),some (.ref ks),some (.ref kf),k,p,a,b,c]
theorem zFn{ks kf:Nat}{n:Int}{k p a b c:Option D}{d:D}:B9 (lL ks kf n k p a b c) 3 d=lL ks kf n (some d) p a b c:=Cc rfl
theorem zFU{ks kf:Nat}{n:Int}{k p a b c:Option D}{d:D}:B9 (lL ks kf n k p a b c) 4 d=lL ks kf n k (some d) a b c:=Cc rfl
theorem zGA{ks kf:Nat}{n:Int}{k p a b c:Option D}{d e f:D}:B9 (B9 (B9 (lL ks kf n k p a b c) 5 d) 6 e) 7 f=lL ks kf n k p (some d) (some e) (some f):=by
 unfold lL;rw[Cc rfl,Cc rfl,Cc rfl];rfl
theorem Vw{F:List Int}{ks kf:Nat}{n k p:Int}{s:Sp}{σ:Bp}(hk:σ[kf]? =some (.list (F.map D.int))) (h0:0<=s.1) (h1:s.1<s.2.1) (hL:F.length<=2 ^ 62) (hF:k<=F.length):
  W Te ⟨lL ks kf n (some (.int k)) (some (.int p)) (some (.int s.1)) (some (.int s.2.1)) (some (.int s.2.2)),σ⟩ λfl st'=>fl=.next/\st'=⟨lL ks kf n (some (.int k)) (some (.int (Ca F k p s))) (some (.int s.1)) (some (.int s.2.1)) (some (.int s.2.2)),σ⟩:=by
 unfold Te Ca;refine Dj (b:=s.2.1==k) (st1:=⟨lL ks kf n (some (.int k)) (some (.int p)) (some (.int s.1)) (some (.int s.2.1)) (some (.int s.2.2)),σ⟩) rfl (λh=>?_) λh=>?_
 ·have h:=beq_iff_eq.mp h;rw[if_pos h];refine Al (Xf (p:=p) rfl (Aa (A8 (A8 rfl rfl (Fk hk h0 (by exact Dq λZ=>Ac [_,_,_,_] [A9 x1 x0,A7 x0 x2,A9 x3 x1,B0 x2 x3] rT Z h1 hF h) hL)) rfl rfl) ⟨_,rfl,Aa rfl (Aa rfl ⟨rfl,?_⟩)⟩))
  show St.mk (B9 (lL ks kf n (some (.int k)) (some (.int p)) (some (.int s.1)) (some (.int s.2.1)) (some (.int s.2.2))) 4 _) σ=_
  rw[zFU]
 ·rw[if_neg (λe=>by rw[beq_iff_eq.mpr e]at h;cases h)]
  exact Aa rfl (Aa rfl ⟨rfl,rfl⟩)
theorem Tf{N i:Nat}{d:D}(h:(Di 1 1 N)[i]? =some d):i<N/\d=.int ((i+1:Nat):Int):=by
 simp only[Di,List.getElem?_map,Option.map_eq_some_iff]at h;obtain⟨a,ha,rfl⟩:=h;obtain⟨hh,e⟩:=lq2 ha;rw[List.getElem_range]at e;rw[List.length_range]at hh;subst e;exact⟨hh,by congr 1;omega⟩
theorem zBi{n:Nat}(hn:n<=100){ks:Nat}{sp:List Sp}{st:St}{Q:D->St->Prop}(hk:st.sto[ks]? =some (.list (sp.map zEb))) (hsp:Ng sp) (hQ:∀F,Bf sp F->F.length=n+1->Q (.ref st.sto.length) ⟨st.loc,st.sto++[.list (F.map D.int)]⟩):W (Ii [.int n,.ref ks]) st Q:=by
 have hks:ks<st.sto.length:=(lq2 hk).1
 have hk2:∀x:PO,(st.sto++[x])[ks]? =some (.list (sp.map zEb)):=λx=>by rw[List.getElem?_append_left hks];exact hk
 have hloc:B9 (Fj Br [0,1] [.int n,.ref ks]) 2 (.ref st.sto.length)=lL ks st.sto.length n none none none none none:=by
  funext i;rcases i with _|_|_|_|_|_|_|_|i<;>rfl
 refine Cy rfl ?_
 unfold Pi;refine As (st1:=⟨lL ks st.sto.length n none none none none none,st.sto++[.list [.int 0]]⟩) (by rw[←hloc];rfl) (Al (Ad.mpr (Aa (A2 rfl (Ax (Ni.mpr ⟨Bool.and_eq_true_iff.mpr ⟨Cl.mpr ⟨by exact Bi λZ=>Ac [] [A7 (.n 1) (.s (.n 0) (.n 1099511627776))] rT Z,by exact Dq λZ=>Ac [] [A9 (.n 1099511627776) (.n 1)] rT Z⟩,Cl.mpr ⟨by exact Bi λZ=>Ac [_] [A7 (.a x0 (.n 1)) (.s (.n 0) (.n 1099511627776)),A9 (.n 0) x0] rT Z (Az _),by exact Dq λZ=>Ac [_] [A9 (.n 1099511627776) (.a x0 (.n 1)),A9 x0 (.n 100)] rT Z (C5 hn)⟩⟩,rfl,rfl⟩))) ?_)))
 rw[show((n:Int)+1 - 1).toNat=n by exact Iq (Gh (λZ=>Ac [_,_] [A7 x1 x0,A9 (.s (.a x0 (.n 1)) (.n 1)) x1] rT Z (G6 _)) (λZ=>Ac [_,_] [A7 x0 x1,B0 x1 (.s (.a x0 (.n 1)) (.n 1))] rT Z (Ch (Bi λY=>Ac [_] [A7 (.s (.a x0 (.n 1)) (.n 1)) (.n 0),A9 (.n 0) x0] rT Y (Az _)))))]
 refine Fg (λrem st'=>∃(F:List Int) (k p a b c:Option D),st'=⟨lL ks st.sto.length n k p a b c,st.sto++[.list (F.map D.int)]⟩/\Bf sp F/\F.length<=n+1/\rem=(Di 1 1 n).drop (F.length - 1)) ?_ ?_ _ _ ⟨[0],none,none,none,none,none,rfl,.one sp,by simp,rfl⟩
 ·rintro d rest _ ⟨F,k,p,a,b,c,rfl,hF,hl,hrem⟩
  obtain⟨hd,hr⟩:=Cw hrem;have hp:=hF.pos;obtain⟨hlt,rfl⟩:=Tf hd;rw[Nat.sub_add_cancel hp];have hgk:(st.sto++[PO.list (F.map D.int)])[st.sto.length]? =some (.list (F.map D.int)):=lq3
  have hL:F.length<=2 ^ 62:=by exact Ar λZ=>A5 [_,_] [A7 (.n 4611686018427387904) x0,A9 x1 (.n 100),A9 x0 (.a x1 (.n 1))] rT Z hn hl
  refine⟨trivial,_,rfl,?_⟩
  show W _ ⟨B9 (lL ks st.sto.length n k p a b c) 3 _,_⟩ _
  rw[zFn];refine As (Bk (A8 (A8 rfl rfl (Fk hgk (by exact Bi λZ=>Ac [_] [A7 (.s x0 (.n 1)) (.n 0),A9 (.n 1) x0] rT Z (C5 hp)) (by exact Dq λZ=>Ac [_] [A9 x0 (.s x0 (.n 1))] rT Z) hL)) rfl rfl)) ?_
  show W _ ⟨B9 (lL ks st.sto.length n _ p a b c) 4 _,_⟩ _
  rw[zFU];refine Al (Ad.mpr (Aa (A2 rfl (Ax (E2.mpr ⟨_,hk2 _,rfl,rfl⟩))) ?_))
  refine Fg (λrem st'=>∃(sr:List Sp) (p:Int) (a b c:Option D),st'=⟨lL ks st.sto.length n (some (.int (F.length:Int))) (some (.int p)) a b c,st.sto++[.list (F.map D.int)]⟩/\rem=sr.map zEb/\(∀s,s∈sr->s∈sp)/\sr.foldl (Ca F F.length) p=Hf sp F F.length) ?_ ?_ _ _ ⟨sp,_,a,b,c,rfl,rfl,λ_ m=>m,rfl⟩
  ·rintro d rest' _ ⟨sr,p,a,b,c,rfl,ge,gm,gf⟩
   cases sr with
   |nil=>cases ge
   |cons s sr=>
    cases ge;have hs:=hsp s (gm s lq1);refine⟨hk2 _,B9 (B9 (B9 (lL ks st.sto.length n (some (.int (F.length:Int))) (some (.int p)) a b c) 5 (.int s.1)) 6 (.int s.2.1)) 7 (.int s.2.2),rfl,?_⟩
    rw[zGA];refine(Vw hgk hs.1 hs.2 hL (Int.le_refl _)).mono ?_
    rintro fl _ ⟨rfl,rfl⟩
    exact⟨sr,_,_,_,_,rfl,rfl,λs m=>gm s (lq4 _ m),gf⟩
  ·rintro _ ⟨sr,p,a,b,c,rfl,ge,gm,gf⟩
   cases sr with
   |cons s sr=>cases ge
   |nil=>
    cases(show p=Hf sp F F.length from gf)
    have hsl:(1000:Nat)<=sizeLine:=by decide
    refine⟨hk2 _,Al (Ad.mpr (Ad.mpr (Aa rfl (zCn.mpr ⟨⟨_,hgk⟩,Ad.mpr (Aa rfl (Qy.mpr ⟨_,hgk,by rw[lq6];exact Ar λZ=>A5 [_,_,_] [A7 x1 x0,A9 x2 (.n 100),A9 x0 (.a x2 (.n 1)),A9 (.n 1000) x1] rT Z hn hl hsl,Aa rfl (Aa rfl ?_)⟩))⟩))))⟩
    refine⟨F++[Hf sp F F.length],some (.int (F.length:Int)),some (.int (Hf sp F F.length)),a,b,c,?_,hF.app hsp,by rw[lq7];show F.length+1<=_;exact Ar λZ=>A5 [_,_,_] [A7 (.a x0 (.n 1)) (.a x1 (.n 1)),A7 x2 x0,A9 x1 (.a x2 (.n 1))] rT Z hlt (Bh _ _),?_⟩
    ·show St.mk _ ((st.sto++[PO.list (F.map D.int)]).set st.sto.length _)=_
     rw[List.set_append_right _ _ (Nat.le_refl _),Nat.sub_self,List.map_append];rfl
    ·rw[hr,lq7];congr 1
     show _=F.length+1 - 1
     exact Gw (λZ=>A5 [_,_] [A7 (.a x1 (.n 1)) x0,A9 x0 (.a x1 (.n 1))] rT Z (Bh _ _)) (λZ=>A5 [_,_] [A7 x0 (.a x1 (.n 1)),B0 (.a x1 (.n 1)) x0] rT Z (B8 (Ar λY=>A5 [_] [A7 x0 (.n 1),A9 (.n 1) x0] rT Y hp)))
 ·rintro _ ⟨F,k,p,a,b,c,rfl,hF,hl,hrem⟩
  have hlen:F.length=n+1:=by
   have:=Ef hrem
   rw[Dy]at this;have:=hF.pos
   omega
  exact⟨trivial,Jo rfl (hQ F hF hlen)⟩
theorem F9{α:Type}{f g:α->D}:∀{l:List α}{xs:List D},Bs (λx d=>∀a,d=f a->x=g a) xs (l.map f)->xs=l.map g
 |[],_,.nil=>rfl
 |a::l,_,.cons r rs=>by rw[List.map_cons,r a rfl,F9 rs]
noncomputable def zEB (x:Str):Int:=Txt.count x ⟨#[10]⟩
theorem zEG{α:Type}(l:List α){i:Int}(h0:0<=i) (h1:i<=l.length):Eg none (some i) l=l.take i.toNat:=by
 unfold Eg Bl;have:max 0 (min (if i<0 then i+(l.length:Int)else i) (l.length:Int))=i:=by rw[if_neg (by exactλZ=>Ac [_] [A7 x0 (.n 0),A9 (.n 0) x0] rT Z h0)];omega
 simp only[this,List.drop_zero,Int.toNat_zero,Int.sub_zero]
theorem Y0{α:Type}(l:List α){i:Int}(h0:0<=i) (h1:i<=l.length):Eg (some i) none l=l.drop i.toNat:=by
 unfold Eg Bl;have:max 0 (min (if i<0 then i+(l.length:Int)else i) (l.length:Int))=i:=by rw[if_neg (by exactλZ=>Ac [_] [A7 x0 (.n 0),A9 (.n 0) x0] rT Z h0)];omega
 simp only[this];rw[List.take_of_length_le];simp
 omega
theorem Pk{k:Nat}{i:Int}{ds:List D}{S:St}(hk:S.sto[k]? =some (.list ds)) (h0:0<=i) (h1:i<ds.length) (h2:ds.length<=2 ^ 62):Ag (.ref k) (.int i) S=.ok (ds[i.toNat]'(by exact Ja (Dq λZ=>Ac [_,_,_] [A9 x0 x1,A7 x2 x0,B0 x1 x2] rT Z h1 (Ch (Bi λY=>Ac [_] [A7 x0 (.n 0),A9 (.n 0) x0] rT Y h0))))) S:=
 Ax ((Za h0 hk h1 h2).mpr ⟨rfl,rfl⟩)
theorem Td{k:Nat}{l h:Option Int}{ds:List D}{S:St}(hk:S.sto[k]? =some (.list ds)) (h2:ds.length<=sizeLine):G3 (.ref k) l h S=.ok (.ref S.sto.length) ⟨S.loc,S.sto++[.list (Eg l h ds)]⟩:=
 Ax (W5.mpr ⟨ds,hk,h2,rfl,rfl⟩)
theorem Rd{k l:Nat}{ds es:List D}{S:St}(hk:S.sto[k]? =some (.list ds)) (hl:S.sto[l]? =some (.list es)) (h2:ds.length+es.length<=sizeLine):Ao (.ref k) (.ref l) S=.ok (.ref S.sto.length) ⟨S.loc,S.sto++[.list (ds++es)]⟩:=
 Ax (Ve.mpr ⟨ds,es,hk,hl,h2,rfl,rfl⟩)
theorem zEE{x:Str}(h:(cl x).all Is=true):PyData.strOk x=true:=by
 unfold PyData.strOk;rw[←Array.all_toList];rw[List.all_eq_true]at h ⊢;intro c m;have:=h c m
 unfold Is plain at this;simp at this ⊢
 exact Or.elim this (λhd3=>Bw λZ=>A5 [_] [A9 (.n 1114112) x0,B0 x0 (.n 10)] rT Z hd3) (λhd3=>Bw λZ=>A5 [_] [A9 (.n 1114112) x0,A9 x0 (.n 126)] rT Z hd3.2)
theorem zGD{σ j l:Bp}{k:Nat}{o:PO}(h:σ[k]? =some o):(σ++j++l)[k]? =some o:=(Ct.app _ _).get ((Ct.app _ _).get h)
theorem Ct.set{σ σ':Bp}{k:Nat}{o:PO}(x:Ct σ σ') (h:σ.length<=k):Ct σ (σ'.set k o):=by
 obtain⟨j,rfl⟩:=x;exact⟨j.set (k - σ.length) o,List.set_append_right _ _ h⟩
theorem Kf{σ:Bp}{k:Nat}{o o':PO}(h:σ[k]? =some o):(σ.set k o')[k]? =some o':=by
 rw[List.getElem?_set_self (lq2 h).1]
theorem Ph{σ:Bp}{k m:Nat}{o o':PO}(h:σ[m]? =some o) (hn:k≠m):(σ.set k o')[m]? =some o:=by
 rw[List.getElem?_set_ne hn];exact h
structure Cn where
 t:Nat
 l:Nat
 b:Nat
 r:Nat
 x:Str
noncomputable def Cn.mv (f g:Nat->Nat) (c:Cn):Cn:=⟨f c.t,g c.l,f c.b,g c.r,c.x⟩
noncomputable def lo (w:Bool) (c:Cn):Nat:=bif w then c.l else c.t
noncomputable def hi (w:Bool) (c:Cn):Nat:=bif w then c.r else c.b
noncomputable def wI (w:Bool):Int:=bif w then 1 else 0
noncomputable def Cs (c:Cn):D:=.tup [.int c.t,.int c.l,.int ((c.b:Int) - c.t),.int ((c.r:Int) - c.l),.str c.x]
theorem Qk{w:Bool}{c:Cn}{S:St}:Ag (Cs c) (.int (wI w)) S=.ok (.int (lo w c)) S:=by cases w<;>rfl
theorem zEo{w:Bool}{c:Cn}{S:St}:Ag (Cs c) (.int (2+wI w)) S=.ok (.int ((hi w c:Int) - lo w c)) S:=by cases w<;>rfl
theorem Zm{k:Nat}{i:Int}{ds:List D}{v:D}{mv mo mi:Mn D}{S:St}(hv:mv S=.ok v S) (ho:mo S=.ok (.ref k) S) (hi:mi S=.ok (.int i) S) (hk:S.sto[k]? =some (.list ds)) (h:0<=i/\i<ds.length/\ds.length<=sizeLine):
  Ej Cd mv mo mi S=.ok .next ⟨S.loc,S.sto.set k (.list (ds.set i.toNat v))⟩:=
 A2 hv (A2 ho (A2 hi (by simp only[Cd,hk];rw[if_pos h])))
theorem Hd{k:Nat}{ds:List D}{v:D}{mo mt:Mn D}{S:St}(ho:mo S=.ok (.ref k) S) (hk:S.sto[k]? =some (.list ds)) (hl:ds.length<=sizeLine) (ht:mt S=.ok v S):
  bnd (bnd mo (Da λk=>bnd mt (Bg k))) Dg S=.ok .next ⟨S.loc,S.sto.set k (.list (ds++[v]))⟩:=
 A2 (b:=D.none) (A2 ho (by simp only[Da,hk];exact A2 ht (Ax (Qy.mpr ⟨ds,hk,hl,rfl,rfl⟩)))) rfl
theorem H4{a b:Int}{S:St}(h:b≠0):Dz (.int a) (.int b) S=.ok (.int (a.fmod b)) S:=C3 h
theorem zCB{a b:Int}{S:St}(h:b≠0/\b.natAbs<1073741824):Hk (.int a) (.int b) S=.ok (.int (a.fdiv b)) S:=C3 h
theorem T7{k:Nat}{σ:Bp}{a b:PO}(h:k=σ.length):(σ++[a]).set k b=σ++[b]:=by
 subst h;rw[List.set_append_right _ _ (Nat.le_refl _),Nat.sub_self];rfl
theorem Yo{n:Nat}{S:St}(h:n<=1000):C4 [.int (n:Int)] S=.ok ⟨Di 0 1 n,λ_=>True⟩ S:=Ax (Hs.mpr ⟨Cl.mpr ⟨by exact Bi λZ=>Ac [_] [A7 x0 (.s (.n 0) (.n 1099511627776)),A9 (.n 0) x0] rT Z (Az _),by exact Dq λZ=>Ac [_] [A9 (.n 1099511627776) x0,A9 x0 (.n 1000)] rT Z (C5 h)⟩,rfl,rfl⟩)
noncomputable def Aq (w:Bool) (cs:List Cn) (i:Nat):Bool:=cs.any λc=>lo w c==i
noncomputable def O2 (b:Nat->Bool) (n:Nat):List D:=(List.range (n+1)).map λ(i:Nat)=>D.int (kq b 0 i)
theorem Q7{b:Nat->Bool}{n:Nat}:(O2 b n).length=n+1:=by unfold O2;simp
theorem Ze{b:Nat->Bool}{n:Nat}:O2 b (n+1)=O2 b n++[.int (kq b 0 (n+1))]:=by unfold O2;rw[List.range_succ,List.map_append];rfl
theorem Js{b:Nat->Bool}{n x r:Nat}{i:Int}{S:St}(hr:S.sto[r]? =some (.list (O2 b n))) (hi:i=x) (hx:x<=n) (hn:n<=1000):Ag (.ref r) (.int i) S=.ok (.int (kq b 0 x)) S:=by
 subst hi;rw[Pk hr (by exact Bi λZ=>Ac [(↑x)] [A7 x0 (.n 0),A9 (.n 0) x0] rT Z (Az _)) (by rw[Q7];exact Dq λZ=>Ac [(↑x),(↑n)] [A9 (.a x1 (.n 1)) x0,A9 x0 x1] rT Z (C5 hx)) (by rw[Q7];exact Ar λZ=>A5 [(n)] [A7 (.n 4611686018427387904) (.a x0 (.n 1)),A9 x0 (.n 1000)] rT Z hn)]
 congr 1
 unfold O2;rw[List.getElem_map,List.getElem_range];rfl
theorem zDx{m n:Mn Bool}{a b:Bool}{S:St}(e1:m S=.ok a S) (e2:n S=.ok b S):zF7 m n S=.ok (a||b) S:=A2 e1 (by cases a<;>first|exact e2|rfl)
theorem Ou:∀bs:List Nat,Do (bs.map λ(i:Nat)=>D.int i)=some (bs.map λ(i:Nat)=>PyData.int i)/\PyData.canLayAll0 (bs.map λ(i:Nat)=>PyData.int i)=true
 |[]=>⟨by simp[Do],by simp[PyData.canLayAll0]⟩
 |b::bs=>by
  obtain⟨h1,h2⟩:=Ou bs;exact⟨by simp only[List.map_cons,Do,Ks,h1,Option.bind_some,Option.map_some],by simp only[List.map_cons,PyData.canLayAll0,PyData.canLay0,h2,Bool.and_self]⟩
theorem zDY{bs:List Nat}{k i:Nat}{S:St}(hk:S.sto[k]? =some (.list (bs.map λ(i:Nat)=>D.int i))):O8 (.int i) (.ref k) S=.ok (.bool (bs.any λn=>n==i)) S:=by
 obtain⟨h1,h2⟩:=Ou bs;simp only[O8,Ks,hk,h1];rw[if_pos ⟨h2,by simp[PyData.canLay0],by simp[PyData.depth]⟩];congr 2
 rw[List.any_map];congr 1
 funext n
 show PyData.eqv (.int n) (.int i)=(n==i)
 simp only[PyData.eqv];rw[Bool.eq_iff_iff,beq_iff_eq,beq_iff_eq];omega
noncomputable def kL (n k r:Nat) (x:Option D):Be:=Oe [some (.int n),some (.ref k),some (.ref r),x]
theorem zGE{n k r:Nat}{x:Option D}{d:D}:B9 (kL n k r x) 3 d=kL n k r (some d):=Cc rfl
theorem Xn{n:Nat}{bs:List Nat}{k:Nat}{st:St}{Q:D->St->Prop}(hn:n<=1000) (hk:st.sto[k]? =some (.list (bs.map λ(i:Nat)=>D.int i)))
  (hQ:Q (.ref st.sto.length) ⟨st.loc,st.sto++[.list (O2 (λi=>bs.any λn=>n==i) n)]⟩):W (Nw [.int n,.ref k]) st Q:=by
 have hsl:(1000000:Nat)<=sizeLine:=by decide
 have hloc:B9 (Fj Br [0,1] [.int n,.ref k]) 2 (.ref st.sto.length)=kL n k st.sto.length none:=by
  funext i;rcases i with _|_|_|_|i<;>rfl
 refine Cy rfl ?_
 unfold Sk;refine As (st1:=⟨kL n k st.sto.length none,st.sto++[.list [.int 0]]⟩) (by rw[←hloc];rfl) (Al (Ad.mpr (Aa (a:=⟨Di 0 1 n,λ_=>True⟩) (st1:=⟨kL n k st.sto.length none,st.sto++[.list [.int 0]]⟩) (A2 (b:=[.int (n:Int)]) (st1:=⟨kL n k st.sto.length none,st.sto++[.list [.int 0]]⟩) rfl (by exact Yo hn)) ?_)))
 refine Fg (λrem st'=>∃(i m:Nat) (x:Option D),i+m=n/\rem=Di (i:Int) 1 m/\st'=⟨kL n k st.sto.length x,st.sto++[.list (O2 (λi=>bs.any λn=>n==i) i)]⟩) ?_ ?_ _ _ ⟨0,n,none,Nat.zero_add _,rfl,rfl⟩
 ·rintro d rest _ ⟨i,m,x,him,hrem,rfl⟩
  cases m with
  |zero=>rw[Kz]at hrem;cases hrem
  |succ m=>
   rw[Gr]at hrem
   cases hrem;refine⟨trivial,kL n k st.sto.length (some (.int i)),congrArg some zGE,?_⟩
   have hr:∀S:St,S=⟨kL n k st.sto.length (some (.int i)),st.sto++[.list (O2 (λi=>bs.any λn=>n==i) i)]⟩->Ab Ag (A0 2) (A0 3) S=.ok (.int (kq (λi=>bs.any λn=>n==i) 0 i)) S:=λS h=>by
    subst h;exact A8 rfl rfl (Js lq3 rfl (Nat.le_refl _) (by exact Ar λZ=>A5 [_,_,_] [A7 (.n 1000) x0,A9 x1 (.n 1000),B0 (.a x0 (.a x2 (.n 1))) x1,A9 (.n 0) x2] rT Z hn him (lq5 _)))
   have hc:∀S:St,S=⟨kL n k st.sto.length (some (.int i)),st.sto++[.list (O2 (λi=>bs.any λn=>n==i) i)]⟩->zF7 (Dl Eh (A0 3) (ret1 (.int 0))) (Dl O8 (A0 3) (A0 1)) S=.ok (Nat.ble i 0||bs.any λn=>n==i) S:=λS h=>by
    subst h;refine zDx (Dc (t:=Nat.ble i 0) rfl rfl rfl ?_) (Dc rfl rfl (zDY ((Ct.app _ _).get hk)) rfl)
    show Gq.ok ((i:Int)==0) _=_
    congr 1
    rw[Bool.eq_iff_iff,beq_iff_eq,Nat.ble_eq];omega
   have hl:(O2 (λi=>bs.any λn=>n==i) i).length<=sizeLine:=by rw[Q7];exact Ar λZ=>A5 [_,_,_,_] [A7 x0 (.a x1 (.n 1)),A9 x2 (.n 1000),A9 (.n 1000000) x0,B0 (.a x1 (.a x3 (.n 1))) x2,A9 (.n 0) x3] rT Z hn hsl him (lq5 _)
   have go:∀v:Int,v=kq (λi=>bs.any λn=>n==i) 0 (i+1)->∃(i' m':Nat) (x:Option D),i'+m'=n/\Di ((i:Int)+1) 1 m=Di (i':Int) 1 m'/\(⟨kL n k st.sto.length (some (.int i)),(st.sto++[PO.list (O2 (λi=>bs.any λn=>n==i) i)]).set st.sto.length (.list (O2 (λi=>bs.any λn=>n==i) i++[.int v]))⟩:St)=⟨kL n k st.sto.length x,st.sto++[.list (O2 (λi=>bs.any λn=>n==i) i')]⟩:=λv hv=>by
    refine⟨i+1,m,some (.int i),by exact Gw (λZ=>A5 [_,_,_] [A7 (.a (.a x1 (.n 1)) x2) x0,Cg (.a x1 (.a x2 (.n 1))) x0] rT Z him) (λZ=>A5 [_,_,_] [A7 x0 (.a (.a x1 (.n 1)) x2),B0 (.a x1 (.a x2 (.n 1))) x0] rT Z him),rfl,?_⟩
    rw[T7 rfl,Ze,hv]
   cases hb:(Nat.ble i 0||bs.any λn=>n==i)with
   |true=>exact Al (zFV (hc _ rfl) hb (As (Hd rfl lq3 hl (A8 (hr _ rfl) rfl rfl)) (Aa rfl (Aa rfl (go _ (by rw[K0,hb];rfl))))))
   |false=>exact Al (zFb (hc _ rfl) hb (As (Hd rfl lq3 hl (hr _ rfl)) (Aa rfl (Aa rfl (go _ (by rw[K0,hb];rfl))))))
 ·rintro _ ⟨i,m,x,him,hrem,rfl⟩
  cases m with
  |succ m=>rw[Gr]at hrem;cases hrem
  |zero=>
   obtain rfl:i=n:=by exact Gw (λZ=>A5 [_,_] [A7 x1 x0,Cg (.a x1 (.n 0)) x0] rT Z him) (λZ=>A5 [_,_] [A7 x0 x1,B0 (.a x1 (.n 0)) x0] rT Z him)
   exact⟨trivial,Jo rfl hQ⟩
noncomputable def zEe (a b:Cn):Prop:=a.t<b.t∨a.t=b.t/\a.l<b.l
theorem Qn{F:List D->Mn D}(hFk:∀(c:Cn) (st:St),F [Cs c] st=.ok (.tup [.int c.t,.int c.l]) st){cs:List Cn}{k:Nat}{st:St}{Q:D->St->Prop}(hk:st.sto[k]? =some (.list (cs.map Cs))) (hl:cs.length<=400) (hs:cs.Pairwise zEe) (hb:∀c,c∈cs->c.l<1000)
  (hQ:Q (.ref st.sto.length) ⟨st.loc,st.sto++[.list (cs.map Cs)]⟩):W (By F [.ref k]) st Q:=by
 have hlt:cs.Pairwise λa b=>Hh ((a.t:Int),(a.l:Int))<Hh ((b.t:Int),(b.l:Int)):=hs.imp_of_mem λ{a b} ma mb h=>by
  have h1:=hb a ma;have h2:=hb b mb;unfold zEe at h;unfold Hh;dsimp only;omega
 have hK:Jk F st (cs.map Cs) (cs.map λc=>((c.t:Int),(c.l:Int))):=by
  refine⟨by rw[lq6];exact Ar λZ=>A5 [_] [A7 (.n 100000) x0,A9 x0 (.n 400)] rT Z hl,?_,?_⟩
  ·have:∀l:List Cn,(∀c,c∈l->c.l<1000)->Bs (λd (p:Int×Int)=>F [d] st=.ok (.tup [.int p.1,.int p.2]) st/\0<=p.2/\p.2<1048576) (l.map Cs) (l.map λc=>((c.t:Int),(c.l:Int))):=by
    intro l
    induction l with
    |nil=>intro _;exact .nil
    |cons c l ih=>
     intro h;have:=h c lq1
     exact .cons ⟨hFk _ _,by show(0:Int)<=(c.l:Int);exact Bi λZ=>Ac [_] [A7 x0 (.n 0),A9 (.n 0) x0] rT Z (Az _),by show(c.l:Int)<1048576;exact Dq λZ=>Ac [_] [A9 (.n 1048576) x0,A7 x0 (.n 1000)] rT Z (Gi this)⟩ (ih λc m=>h c (lq4 _ m))
   exact this cs hb
  ·rw[List.map_map];exact List.pairwise_map.mpr hlt
 exact V6 hk hK hQ
noncomputable abbrev qL:Str:=sO "in_order.<locals>.<lambda>"
noncomputable def Fa (σ:Bp):Prop:=∃k,σ[0]? =some (.ctab Ob 24 29 qL k)/\∀m,k=some m->σ[m]? =some (.code qL)
noncomputable def Kp (σ σ':Bp):Prop:=σ.length<=σ'.length/\∀(i:Nat) (ds:List D),σ[i]? =some (PO.list ds)->σ'[i]? =some (PO.list ds)
theorem Ct.kp{σ σ':Bp}(x:Ct σ σ'):Kp σ σ':=⟨x.len,λ_ _ e=>x.get e⟩
theorem Kp.trans{a b c:Bp}(x:Kp a b) (y:Kp b c):Kp a c:=⟨Nat.le_trans x.1 y.1,λi ds e=>y.2 i ds (x.2 i ds e)⟩
theorem Fa.ext{σ σ':Bp}(h:Fa σ) (x:Ct σ σ'):Fa σ':=let⟨k,e,hk⟩:=h;⟨k,x.get e,λm q=>x.get (hk m q)⟩
theorem zEs{st:St}{Q:Unit->St->Prop}(h:Fa st.sto) (hQ:∀σ',Fa σ'->Kp st.sto σ'->Q () ⟨st.loc,σ'⟩):W (H8 0 Ob 24 29 qL) st Q:=by
 obtain⟨k,e,hk⟩:=h;have hlt:0<st.sto.length:=(lq2 e).1
 cases k with
 |none=>
  refine⟨(),⟨st.loc,st.sto.set 0 (.ctab Ob 24 29 qL (some st.sto.length))++[.code qL]⟩,by simp[H8,e],hQ _ ⟨some st.sto.length,?_,λm q=>?_⟩ ⟨by simp,λi ds q=>?_⟩⟩
  ·rw[List.getElem?_append_left (by simpa using hlt),List.getElem?_set_self hlt]
  ·cases q;rw[List.getElem?_append_right (by simp)];simp
  ·have hi:=(lq2 q).1;have h0:i≠0:=λz=>by rw[z,e]at q;cases q
   rw[List.getElem?_append_left (by simpa using hi),List.getElem?_set_ne (Ne.symm h0)];exact q
 |some m=>
  have hm:=hk m rfl;exact⟨(),st,by simp[H8,e,hm],hQ st.sto ⟨some m,e,hk⟩ ⟨Nat.le_refl _,λ_ _ e=>e⟩⟩
theorem Sj{cs:List Cn}{k:Nat}{st:St}{Q:D->St->Prop}(h0:Fa st.sto) (hk:st.sto[k]? =some (.list (cs.map Cs))) (hl:cs.length<=400) (hs:cs.Pairwise zEe) (hb:∀c,c∈cs->c.l<1000)
  (hQ:∀r σ',Fa σ'->Kp st.sto σ'->st.sto.length<=r->σ'[r]? =some (.list (cs.map Cs))->Q (.ref r) ⟨st.loc,σ'⟩):W (H7 [.ref k]) st Q:=by
 refine Cy rfl ?_
 unfold Jb;refine Al (Ad.mpr (Ad.mpr (Aa rfl (Ad.mpr (zEs h0 λσ' t' k'=>Qn (λ_ _=>rfl) (k'.2 _ _ hk) hl hs hb (Aa rfl ?_))))))
 exact hQ σ'.length _ (t'.ext (.app _ _)) (k'.trans (Ct.app _ _).kp) k'.1 lq3
theorem zE3{w:Bool}{c c':Cn}(e:Cs c=Cs c'):lo w c=lo w c':=by
 have:=congrArg (λd=>Ag d (.int (wI w)) ⟨Br,[]⟩) e
 simp only[Qk]at this;injection this with h
 injection h with h
 exact Iq (Gh (λZ=>Ac [_,_] [A7 x0 x1,Cg x0 x1] rT Z h) (λZ=>Ac [_,_] [A7 x1 x0,B0 x0 x1] rT Z h))
theorem zCy{w:Bool}{a b:D}{cs:List Cn}{k:Nat}{loc:Be}{σ:Bp}{Q:D->St->Prop}(h0:loc 0=some (.tup [a,b,.ref k])) (hk:σ[k]? =some (.list (cs.map Cs))) (hl:cs.length<=400)
  (hQ:∀j,Q (.ref (σ++j).length) ⟨loc,σ++j++[.list ((cs.map (lo w)).map λ(i:Nat)=>D.int i)]⟩):W (bnd (bnd (Ab Ag (A0 0) (ret1 (.int 2))) Ba) (Bm [11] (Aj 11) (ret1 true) (Ab Ag (A0 11) (ret1 (.int (wI w)))))) ⟨loc,σ⟩ Q:=by
 have hsl:(1000:Nat)<=sizeLine:=by decide
 refine Ad.mpr (Aa (A2 (A8 (A1 h0) rfl rfl) (Ax (E2.mpr ⟨_,hk,rfl,rfl⟩))) ?_)
 refine F1 (λ_=>true) (λd x _=>∀c,d=Cs c->x=D.int (lo w c)) (λ_=>True) (by show(cs.map Cs).length<=_;rw[lq6];exact Ar λZ=>A5 [_,_] [A7 x1 x0,A9 x0 (.n 400),A9 (.n 1000) x1] rT Z hl hsl) (λ_ _ _ _ _ h=>h) (λσ' hx=>hx.get hk) trivial (λd hd l σ' _ hx=>?_) λxs σ' hx r=>?_
 ·obtain⟨c,mc,rfl⟩:=List.mem_map.mp hd;exact⟨B9 l 11 (Cs c),rfl,trivial,Aa rfl ⟨rfl,rfl,.refl _,λ_=>Aa (A8 rfl rfl Qk) ⟨rfl,.refl _,λc' e=>by rw[zE3 (w:=w) e]⟩⟩⟩
 ·rw[D6]at r;have hxs:xs=(cs.map (lo w)).map λ(i:Nat)=>D.int i:=by
   rw[List.map_map];exact F9 r
  subst hxs;obtain⟨j,rfl⟩:=hx;exact hQ j
noncomputable def tL (T:D) (kr kc kf:Nat) (a b c d e f g:Option D):Be:=Oe [some T,some (.ref kr),some (.ref kc),some (.ref kf),a,b,c,d,e,f,g,none]
theorem zFt{T:D}{kr kc kf:Nat}{a b c d e f g:Option D}{x1 x2 x3 x4 x5:D}:B9 (B9 (B9 (B9 (B9 (tL T kr kc kf a b c d e f g) 4 x1) 5 x2) 6 x3) 7 x4) 8 x5=tL T kr kc kf (some x1) (some x2) (some x3) (some x4) (some x5) f g:=by
 unfold tL;rw[Cc rfl,Cc rfl,Cc rfl,Cc rfl,Cc rfl];rfl
theorem zFp{T:D}{kr kc kf:Nat}{a b c d e f g:Option D}{x:D}:B9 (tL T kr kc kf a b c d e f g) 9 x=tL T kr kc kf a b c d e (some x) g:=Cc rfl
theorem zFO{T:D}{kr kc kf:Nat}{a b c d e f g:Option D}{x:D}:B9 (tL T kr kc kf a b c d e f g) 10 x=tL T kr kc kf a b c d e f (some x):=Cc rfl
structure Z2 (R C:Nat) (cs:List Cn):Prop where
 len:cs.length<=400
 srt:cs.Pairwise zEe
 row:∀c,c∈cs->c.t<=c.b/\c.b<=R
 col:∀c,c∈cs->c.l<=c.r/\c.r<=C
 r1:1<=R
 c1:1<=C
 r2:R<=60
 c2:C<=60
 tx:∀c,c∈cs->(cl c.x).all Is=true
noncomputable def D5 (cs:List Cn):List Cn:=cs.map (Cn.mv (kq (Aq false cs) 0) (kq (Aq true cs) 0))
theorem Hc{w:Bool}{cs:List Cn}{c:Cn}(m:c∈cs):Aq w cs (lo w c)=true:=List.any_eq_true.mpr ⟨c,m,beq_self_eq_true _⟩
theorem Xp{cs:List Cn}{a b:Cn}(ma:a∈cs) (mb:b∈cs) (h:zEe a b):zEe (a.mv (kq (Aq false cs) 0) (kq (Aq true cs) 0)) (b.mv (kq (Aq false cs) 0) (kq (Aq true cs) 0)):=by
 rcases h with h|⟨h1,h2⟩
 ·exact .inl (Oq (.inl (Hc (w:=false) ma)) h)
 ·exact .inr ⟨congrArg (kq (Aq false cs) 0) h1,Oq (.inl (Hc (w:=true) ma)) h2⟩
theorem Yg{R C:Nat}{cs:List Cn}(ok:Z2 R C cs):Z2 (kq (Aq false cs) 0 R) (kq (Aq true cs) 0 C) (D5 cs):=by
 have h1:=ok.r1;have h2:=ok.c1;refine⟨by unfold D5;rw[lq6];exact ok.len,List.pairwise_map.mpr (ok.srt.imp_of_mem λ{a b} ma mb h=>Xp ma mb h),λc m=>?_,λc m=>?_,?_,?_,Nat.le_trans (Qw _) ok.r2,Nat.le_trans (Qw _) ok.c2,λc m=>?_⟩
 ·obtain⟨e,me,rfl⟩:=List.mem_map.mp m;exact⟨Ck _ (ok.row e me).1,Ck _ (ok.row e me).2⟩
 ·obtain⟨e,me,rfl⟩:=List.mem_map.mp m;exact⟨Ck _ (ok.col e me).1,Ck _ (ok.col e me).2⟩
 ·have:=Ck (b:=Aq false cs) (a:=0) R h1
  rw[U7 1 (Nat.le_refl _)]at this;exact this
 ·have:=Ck (b:=Aq true cs) (a:=0) C h2
  rw[U7 1 (Nat.le_refl _)]at this;exact this
 ·obtain⟨e,me,rfl⟩:=List.mem_map.mp m;exact ok.tx e me
theorem zBq{R C:Nat}{cs:List Cn}{k:Nat}{st:St}{Q:D->St->Prop}(h0:Fa st.sto) (ok:Z2 R C cs) (hk:st.sto[k]? =some (.list (cs.map Cs)))
  (hQ:∀r σ',Fa σ'->Kp st.sto σ'->st.sto.length<=r->σ'[r]? =some (.list ((D5 cs).map Cs))->Q (.tup [.int (kq (Aq false cs) 0 R),.int (kq (Aq true cs) 0 C),.ref r]) ⟨st.loc,σ'⟩):W (Mb [.tup [.int R,.int C,.ref k]]) st Q:=by
 have hsl:(1000:Nat)<=sizeLine:=by decide
 have hcl:=ok.len;have hr2:=ok.r2;have hc2:=ok.c2;refine Cy rfl ?_
 unfold Q2;refine Al (Ad.mpr (Ad.mpr (Ad.mpr (Aa rfl (Ad.mpr (Ad.mpr (zCy (w:=false) (a:=.int R) (b:=.int C) (cs:=cs) rfl hk hcl λj1=>Aa rfl (Aa rfl (Xn (n:=R) (bs:=cs.map (lo false)) (by exact Ar λZ=>A5 [_] [A7 (.n 1000) x0,A9 x0 (.n 60)] rT Z hr2) lq3 (Aa rfl ?_))))))))))
 rw[show(λi=>(cs.map (lo false)).any λn=>n==i)=Aq false cs from funext λi=>by unfold Aq;rw[List.any_map];rfl]
 generalize hs1:st.sto++j1++[PO.list ((cs.map (lo false)).map λ(i:Nat)=>D.int i)]=σ1
 have x1:Ct st.sto σ1:=by rw[←hs1];exact(Ct.app _ _).trans (.app _ _)
 refine Al (Ad.mpr (Ad.mpr (Ad.mpr (Aa rfl (Ad.mpr (Ad.mpr (zCy (w:=true) (a:=.int R) (b:=.int C) (cs:=cs) rfl ((x1.trans (.app _ _)).get hk) hcl λj2=>Aa rfl (Aa rfl (Xn (n:=C) (bs:=cs.map (lo true)) (by exact Ar λZ=>A5 [_] [A7 (.n 1000) x0,A9 x0 (.n 60)] rT Z hc2) lq3 (Aa rfl ?_))))))))))
 rw[show(λi=>(cs.map (lo true)).any λn=>n==i)=Aq true cs from funext λi=>by unfold Aq;rw[List.any_map];rfl]
 have g1:(σ1++[PO.list (O2 (Aq false cs) R)])[σ1.length]? =some (.list (O2 (Aq false cs) R)):=lq3
 generalize hs2:σ1++[PO.list (O2 (Aq false cs) R)]++j2++[PO.list ((cs.map (lo true)).map λ(i:Nat)=>D.int i)]=σ2
 have g1':σ2[σ1.length]? =some (.list (O2 (Aq false cs) R)):=by rw[←hs2];exact zGD g1
 have x2:Ct st.sto σ2:=by rw[←hs2];exact((x1.trans (.app _ _)).trans (.app _ _)).trans (.app _ _)
 generalize hs3:σ2++[PO.list (O2 (Aq true cs) C)]=σ3
 have g2:σ3[σ2.length]? =some (.list (O2 (Aq true cs) C)):=by rw[←hs3];exact lq3
 have g1:σ3[σ1.length]? =some (.list (O2 (Aq false cs) R)):=by rw[←hs3];exact(Ct.app _ _).get g1'
 have x3:Ct st.sto σ3:=by rw[←hs3];exact x2.trans (.app _ _)
 generalize σ1.length=kr at g1
 generalize σ2.length=kc at g2
 have hloc:B9 (B9 (B9 (Fj Br [0] [.tup [.int R,.int C,.ref k]]) 1 (.ref kr)) 2 (.ref kc)) 3 (.ref σ3.length)=tL (.tup [.int R,.int C,.ref k]) kr kc σ3.length none none none none none none none:=by
  funext i;rcases i with _|_|_|_|_|_|_|_|_|_|_|_|i<;>rfl
 refine As (st1:=⟨tL (.tup [.int R,.int C,.ref k]) kr kc σ3.length none none none none none none none,σ3++[.list []]⟩) (by rw[←hloc];rfl) (Al (Ad.mpr (Aa (A2 rfl (Ax (E2.mpr ⟨_,(Ct.app _ _).get (x3.get hk),rfl,rfl⟩))) ?_)))
 refine Fg (λrem st'=>∃(ds cr:List Cn) (σ':Bp) (a b c d e f g:Option D),st'=⟨tL (.tup [.int R,.int C,.ref k]) kr kc σ3.length a b c d e f g,σ'⟩/\Ct σ3 σ'/\σ'[σ3.length]? =some (.list ((ds.map (Cn.mv (kq (Aq false cs) 0) (kq (Aq true cs) 0))).map Cs))/\cs=ds++cr/\rem=cr.map Cs) ?_ ?_ _ _ ⟨[],cs,_,none,none,none,none,none,none,none,rfl,.app _ _,lq3,rfl,rfl⟩
 ·rintro d rest _ ⟨ds,cr,σ',a,b,c,d,e,f,g,rfl,hx,hr,hcs,hrem⟩
  cases cr with
  |nil=>cases hrem
  |cons c cr=>
   cases hrem;have mc:c∈cs:=by rw[hcs];simp
   have hgr:=ok.row c mc;have hgc:=ok.col c mc;have hdl:(ds.map (Cn.mv (kq (Aq false cs) 0) (kq (Aq true cs) 0))).length<=400:=by
    rw[lq6];rw[hcs,lq7]at hcl;omega
   refine⟨hx.get (x3.get hk),tL (.tup [.int R,.int C,.ref k]) kr kc σ3.length (some (.int c.t)) (some (.int c.l)) (some (.int ((c.b:Int) - c.t))) (some (.int ((c.r:Int) - c.l))) (some (.str c.x)) f g,congrArg some zFt,?_⟩
   have q1:∀(S:St) (i:Int) (x:Nat),S.sto=σ'->i=x->x<=R->Ag (.ref kr) (.int i) S=.ok (.int (kq (Aq false cs) 0 x)) S:=λS i x h e hx'=>Js (by rw[h];exact hx.get g1) e hx' (by exact Ar λZ=>A5 [_] [A7 (.n 1000) x0,A9 x0 (.n 60)] rT Z hr2)
   have q2:∀(S:St) (i:Int) (x:Nat),S.sto=σ'->i=x->x<=C->Ag (.ref kc) (.int i) S=.ok (.int (kq (Aq true cs) 0 x)) S:=λS i x h e hx'=>Js (by rw[h];exact hx.get g2) e hx' (by exact Ar λZ=>A5 [_] [A7 (.n 1000) x0,A9 x0 (.n 60)] rT Z hc2)
   refine As (Bk (A8 (A8 rfl (A8 rfl rfl rfl) (q1 _ _ c.b rfl (by omega) hgr.2)) (A8 rfl rfl (q1 _ _ c.t rfl rfl (by omega))) rfl)) ?_
   show W _ ⟨B9 (tL _ kr kc σ3.length _ _ _ _ _ f g) 9 _,σ'⟩ _
   rw[zFp];refine As (Bk (A8 (A8 rfl (A8 rfl rfl rfl) (q2 _ _ c.r rfl (by omega) hgc.2)) (A8 rfl rfl (q2 _ _ c.l rfl rfl (by omega))) rfl)) ?_
   show W _ ⟨B9 (tL _ kr kc σ3.length _ _ _ _ _ _ g) 10 _,σ'⟩ _
   rw[zFO];refine As (Hd (v:=Cs (c.mv (kq (Aq false cs) 0) (kq (Aq true cs) 0))) rfl hr (by rw[lq6];omega) (Ax (Lg.mpr (Aa (A2 (A8 rfl rfl (q1 _ _ c.t rfl rfl (by omega))) (A2 (A2 (A8 rfl rfl (q2 _ _ c.l rfl rfl (by omega))) (A2 rfl rfl)) rfl)) ⟨?_,rfl,rfl⟩)))) (Aa rfl ?_)
   ·show 5<=sizeLine;exact Ar λZ=>A5 [_] [A7 x0 (.n 5),A9 (.n 1000) x0] rT Z hsl
   ·refine⟨ds++[c],cr,_,_,_,_,_,_,_,_,rfl,hx.set (Nat.le_refl _),?_,by rw[hcs];simp,rfl⟩
    rw[Kf hr,List.map_append,List.map_append];rfl
 ·rintro _ ⟨ds,cr,σ',a,b,c,d,e,f,g,rfl,hx,hr,hcs,hrem⟩
  cases cr with
  |cons c cr=>cases hrem
  |nil=>
   rw[List.append_nil]at hcs;subst hcs;refine⟨hx.get (x3.get hk),?_⟩
   have ok':=Yg ok;have x4:=x3.trans hx;refine Al (Ad.mpr (Ad.mpr (Ad.mpr (Aa (A8 rfl (A8 rfl rfl rfl) (Js (x:=R) (hx.get g1) rfl (Nat.le_refl _) (by exact Ar λZ=>A5 [_] [A7 (.n 1000) x0,A9 x0 (.n 60)] rT Z hr2))) (Ad.mpr (Ad.mpr (Aa (A8 rfl (A8 rfl rfl rfl) (Js (x:=C) (hx.get g2) rfl (Nat.le_refl _) (by exact Ar λZ=>A5 [_] [A7 (.n 1000) x0,A9 x0 (.n 60)] rT Z hc2))) (Ad.mpr (Ad.mpr (Ad.mpr (Aa rfl ?_)))))))))))
   refine Sj (h0.ext x4) hr ok'.len ok'.srt (λc m=>?_) λr σ'' t' k' hrl hr'=>?_
   ·have:=ok'.col c m
    have:=ok'.c2
    omega
   ·exact Aa rfl (Aa rfl (Aa rfl (Aa rfl (Aa rfl (hQ r σ'' t' (x4.kp.trans k') (Nat.le_trans x4.len hrl) hr')))))
end
noncomputable abbrev Bo:=Nat->Nat->Nat
noncomputable def D0 (B:Bo) (y x c:Nat):Bo:=λi j=>if i=y/\j=x then c else B i j
structure Qb where
 n:Nat
 w:Nat
 s:Nat
 e:Nat
noncomputable def S6 (b:Qb) (y x:Nat):Prop:=(y=b.n∨y=b.s)/\(x=b.w∨x=b.e)
noncomputable def zFN (b:Qb) (y x:Nat):Prop:=(y=b.n∨y=b.s)/\b.w<=x/\x<=b.e
noncomputable def zEi (b:Qb) (y x:Nat):Prop:=(x=b.w∨x=b.e)/\b.n<=y/\y<=b.s
noncomputable def M9 (b:Qb) (y x:Nat):Prop:=(y=b.n∨y=b.s)/\b.w<x/\x<b.e
noncomputable def Qd (b:Qb) (y x:Nat):Prop:=(x=b.w∨x=b.e)/\b.n<y/\y<b.s
open Classical in
noncomputable def D8 (P:Nat->Nat->Prop) (c:Nat) (B:Bo):Bo:=λy x=>if P y x then c else B y x
open Classical in
noncomputable def Cu (P:Nat->Nat->Prop) (c:Nat) (B:Bo):Bo:=λy x=>if P y x/\B y x≠43 then c else B y x
section
open Classical
theorem Kt{P:Nat->Nat->Prop}{c y x:Nat}{B:Bo}(h:P y x):D8 P c B y x=c:=if_pos h
theorem Kd{P:Nat->Nat->Prop}{c y x:Nat}{B:Bo}(h:¬P y x):D8 P c B y x=B y x:=if_neg h
theorem Fu{P:Nat->Nat->Prop}{c y x:Nat}{B:Bo}:D0 (D8 P c B) y x c=D8 (λi j=>P i j∨(i=y/\j=x)) c B:=by
 funext i j
 unfold D0 D8;by_cases h:i=y/\j=x
 ·rw[if_pos h,if_pos (.inr h)]
 ·rw[if_neg h];by_cases g:P i j
  ·rw[if_pos g,if_pos (.inl g)]
  ·rw[if_neg g,if_neg (λz=>z.elim g h)]
theorem Pa{c:Nat}{B:Bo}:D8 (λ_ _=>False) c B=B:=by
 funext i j;exact if_neg (λz=>z)
theorem E7{P P':Nat->Nat->Prop}{c:Nat}{B:Bo}(h:∀y x,P y x↔P' y x):D8 P c B=D8 P' c B:=by
 have:P=P':=by funext y x;exact propext (h y x)
 rw[this]
theorem Oi{P P':Nat->Nat->Prop}{c:Nat}{B:Bo}:D8 P' c (D8 P c B)=D8 (λi j=>P i j∨P' i j) c B:=by
 funext i j
 unfold D8;by_cases h:P' i j
 ·rw[if_pos h,if_pos (.inr h)]
 ·rw[if_neg h];by_cases g:P i j
  ·rw[if_pos g,if_pos (.inl g)]
  ·rw[if_neg g,if_neg (λz=>z.elim g h)]
theorem Er{α:Type}{P:α->Nat->Nat->Prop}{c:Nat}:∀(l:List α) (B:Bo),l.foldl (λB a=>D8 (P a) c B) B=D8 (λy x=>∃a,a∈l/\P a y x) c B
 |[],B=>by
  rw[List.foldl_nil,E7 (P':=λ_ _=>False) λy x=>⟨λ⟨a,m,_⟩=>(nomatch m),False.elim⟩,Pa]
 |a::l,B=>by
  rw[List.foldl_cons,Er l,Oi];refine E7 λy x=>⟨λh=>?_,λ⟨b,m,h⟩=>?_⟩
  ·rcases h with h|⟨b,m,h⟩
   ·exact⟨a,lq1,h⟩
   ·exact⟨b,lq4 _ m,h⟩
  ·rcases List.mem_cons.mp m with rfl|m
   ·exact .inl h
   ·exact .inr ⟨b,m,h⟩
theorem Oz{P P':Nat->Nat->Prop}{c:Nat}{B:Bo}(hc:c≠43):Cu P' c (Cu P c B)=Cu (λi j=>P i j∨P' i j) c B:=by
 funext i j
 unfold Cu;by_cases g:B i j=43<;>by_cases q:P i j<;>by_cases h:P' i j<;>simp[g,q,h,hc]
theorem zBw{c:Nat}{B:Bo}:Cu (λ_ _=>False) c B=B:=by
 funext i j;exact if_neg (λz=>z.1)
theorem G7{P P':Nat->Nat->Prop}{c:Nat}{B:Bo}(h:∀y x,P y x↔P' y x):Cu P c B=Cu P' c B:=by
 have:P=P':=by funext y x;exact propext (h y x)
 rw[this]
theorem Lf{α:Type}{P:α->Nat->Nat->Prop}{c:Nat}(hc:c≠43):∀(l:List α) (B:Bo),l.foldl (λB a=>Cu (P a) c B) B=Cu (λy x=>∃a,a∈l/\P a y x) c B
 |[],B=>by
  rw[List.foldl_nil,G7 (P':=λ_ _=>False) λy x=>⟨λ⟨a,m,_⟩=>(nomatch m),False.elim⟩,zBw]
 |a::l,B=>by
  rw[List.foldl_cons,Lf hc l,Oz hc];refine G7 λy x=>⟨λh=>?_,λ⟨b,m,h⟩=>?_⟩
  ·rcases h with h|⟨b,m,h⟩
   ·exact⟨a,lq1,h⟩
   ·exact⟨b,lq4 _ m,h⟩
  ·rcases List.mem_cons.mp m with rfl|m
   ·exact .inl h
   ·exact .inr ⟨b,m,h⟩
theorem Ql{B:Bo}{y x c:Nat}:(if B y x≠43 then D0 B y x c else B)=Cu (λi j=>i=y/\j=x) c B:=by
 funext i j
 by_cases g:B y x=43
 ·rw[if_neg (λz=>z g)]
  refine(if_neg λz=>?_).symm
  obtain⟨⟨rfl,rfl⟩,z⟩:=z;exact z g
 ·rw[if_pos g];unfold Cu D0;by_cases h:i=y/\j=x
  ·obtain⟨rfl,rfl⟩:=h;rw[if_pos ⟨rfl,rfl⟩,if_pos ⟨⟨rfl,rfl⟩,g⟩]
  ·rw[if_neg h,if_neg (λz=>h z.1)]
theorem V0{bs:List Qb}(hb:∀b,b∈bs->b.n<=b.s/\b.w<=b.e) (hx:∀a,a∈bs->∀b,b∈bs->∀y x,M9 a y x->¬Qd b y x):
  bs.foldl (λB b=>Cu (Qd b) 124 (Cu (M9 b) 45 B)) (bs.foldl (λB b=>D8 (S6 b) 43 B) (λ_ _=>32))=
  bs.foldl (λB b=>D8 (S6 b) 43 B) (bs.foldl (λB b=>D8 (zFN b) 45 B) (bs.foldl (λB b=>D8 (zEi b) 124 B) (λ_ _=>32))):=by
 funext y x
 have key:∀(l:List Qb) (B:Bo),(∀b,b∈l->b∈bs)->(l.foldl (λB b=>Cu (Qd b) 124 (Cu (M9 b) 45 B)) B) y x=if B y x=43 then 43 else if∃b,b∈l/\M9 b y x then 45 else if∃b,b∈l/\Qd b y x then 124 else B y x:=by
  intro l
  induction l with
  |nil=>
   intro B _;by_cases g:B y x=43
   ·rw[if_pos g];exact g
   ·rw[if_neg g,if_neg (λ⟨b,m,_⟩=>nomatch m),if_neg (λ⟨b,m,_⟩=>nomatch m)];rfl
  |cons a l ih=>
   intro B hl;rw[List.foldl_cons,ih _ λb m=>hl b (lq4 _ m)]
   have ma:=hl a lq1;have ev:Cu (Qd a) 124 (Cu (M9 a) 45 B) y x=if B y x=43 then 43 else if M9 a y x then 45 else if Qd a y x then 124 else B y x:=by
    unfold Cu;by_cases g:B y x=43
    ·rw[if_pos g,if_neg (c:=M9 a y x/\B y x≠43) (λz=>z.2 g),if_neg (λz=>z.2 g)];exact g
    ·rw[if_neg g];by_cases h:M9 a y x
     ·rw[if_pos (c:=M9 a y x/\B y x≠43) ⟨h,g⟩,if_neg (λz=>hx a ma a ma y x h z.1),if_pos h]
     ·rw[if_neg (c:=M9 a y x/\B y x≠43) (λz=>h z.1),if_neg h]
      by_cases v:Qd a y x
      ·rw[if_pos ⟨v,g⟩,if_pos v]
      ·rw[if_neg (λz=>v z.1),if_neg v]
   rw[ev];by_cases g:B y x=43
   ·rw[if_pos g,if_pos rfl,if_pos g]
   ·rw[if_neg g,if_neg g];by_cases h:M9 a y x
    ·rw[if_pos h,if_neg (by decide),if_pos (c:=∃b,b∈a::l/\M9 b y x) ⟨a,lq1,h⟩]
     have nv:¬∃b,b∈l/\Qd b y x:=λ⟨b,m,v⟩=>hx a ma b (hl b (lq4 _ m)) y x h v
     rw[if_neg nv,ite_self]
    ·rw[if_neg h];have eH:(∃b,b∈a::l/\M9 b y x)↔∃b,b∈l/\M9 b y x:=⟨λ⟨b,m,z⟩=>by
      rcases List.mem_cons.mp m with rfl|m
      ·exact absurd z h
      ·exact⟨b,m,z⟩,λ⟨b,m,z⟩=>⟨b,lq4 _ m,z⟩⟩
     by_cases v:Qd a y x
     ·rw[if_pos v,if_neg (by decide)];have nh:¬∃b,b∈l/\M9 b y x:=λ⟨b,m,z⟩=>hx b (hl b (lq4 _ m)) a ma y x z v
      rw[if_neg nh,ite_self,if_neg (λz=>nh (eH.mp z)),if_pos ⟨a,lq1,v⟩]
     ·rw[if_neg v,if_neg g];have eV:(∃b,b∈a::l/\Qd b y x)↔∃b,b∈l/\Qd b y x:=⟨λ⟨b,m,z⟩=>by
       rcases List.mem_cons.mp m with rfl|m
       ·exact absurd z v
       ·exact⟨b,m,z⟩,λ⟨b,m,z⟩=>⟨b,lq4 _ m,z⟩⟩
      by_cases p:∃b,b∈l/\M9 b y x
      ·rw[if_pos p,if_pos (eH.mpr p)]
      ·rw[if_neg p,if_neg (λz=>p (eH.mp z))]
       by_cases q:∃b,b∈l/\Qd b y x
       ·rw[if_pos q,if_pos (eV.mpr q)]
       ·rw[if_neg q,if_neg (λz=>q (eV.mp z))]
 rw[key bs _ λ_ m=>m,Er,Er,Er,Er]
 by_cases k:∃b,b∈bs/\S6 b y x
 ·rw[Kt k,if_pos rfl,Kt k]
 ·rw[Kd k,if_neg (by show¬32=43;decide),Kd k]
  have nk:∀b,b∈bs->¬S6 b y x:=λb m z=>k ⟨b,m,z⟩
  by_cases h:∃b,b∈bs/\M9 b y x
  ·rw[if_pos h];obtain⟨b,m,hh⟩:=h;exact(Kt ⟨b,m,hh.1,Nat.le_of_lt hh.2.1,Nat.le_of_lt hh.2.2⟩).symm
  ·rw[if_neg h,Kd (λ⟨b,m,z⟩=>by
    have q:=nk b m;refine h ⟨b,m,z.1,?_,?_⟩
    ·rcases Nat.lt_or_eq_of_le z.2.1 with r|r
     ·exact r
     ·exact absurd ⟨z.1,.inl r.symm⟩ q
    ·rcases Nat.lt_or_eq_of_le z.2.2 with r|r
     ·exact r
     ·exact absurd ⟨z.1,.inr r⟩ q)]
   by_cases v:∃b,b∈bs/\Qd b y x
   ·rw[if_pos v];obtain⟨b,m,hh⟩:=v;exact(Kt ⟨b,m,hh.1,Nat.le_of_lt hh.2.1,Nat.le_of_lt hh.2.2⟩).symm
   ·rw[if_neg v,Kd (λ⟨b,m,z⟩=>by
     have q:=nk b m;refine v ⟨b,m,z.1,?_,?_⟩
     ·rcases Nat.lt_or_eq_of_le z.2.1 with r|r
      ·exact r
      ·exact absurd ⟨.inl r.symm,z.1⟩ q
     ·rcases Nat.lt_or_eq_of_le z.2.2 with r|r
      ·exact r
      ·exact absurd ⟨.inr r,z.1⟩ q)]
end
structure Oo (sp:List Sp) (b:Nat->Bool) (N:Nat) (F:List Int):Prop where
 zero:F.getD 0 0=0
 step:∀k:Nat,1<=k->k<=N->F.getD k 0=sp.foldl (Ca F k) (F.getD (k - 1) 0+bif b k||Nat.beq k N then 2 else 0)
theorem Tl{F:List Int}{k:Int}:∀{sp:List Sp}{p:Int},(∀s,s∈sp->s.2.1≠k)->sp.foldl (Ca F k) p=p
 |[],p,_=>rfl
 |s::sp,p,h=>by
  rw[List.foldl_cons,show Ca F k p s=p from if_neg (h s lq1)]
  exact Tl λt m=>h t (lq4 _ m)
theorem Rr{α:Type}{f g:α->Sp}{F G:List Int}{k k':Int}:∀{l:List α}{p:Int},(∀a,a∈l->((f a).2.1=k↔(g a).2.1=k'))->(∀a,a∈l->(f a).2.1=k->F.getD (f a).1.toNat 0+(f a).2.2=G.getD (g a).1.toNat 0+(g a).2.2)->
  (l.map f).foldl (Ca F k) p=(l.map g).foldl (Ca G k') p
 |[],p,_,_=>rfl
 |a::l,p,h1,h2=>by
  have e:Ca F k p (f a)=Ca G k' p (g a):=by
   unfold Ca;by_cases z:(f a).2.1=k
   ·rw[if_pos z,if_pos ((h1 a lq1).mp z),h2 a lq1 z]
   ·rw[if_neg z,if_neg λq=>z ((h1 a lq1).mpr q)]
  rw[List.map_cons,List.map_cons,List.foldl_cons,List.foldl_cons,e];exact Rr (λa m=>h1 a (lq4 _ m)) λa m=>h2 a (lq4 _ m)
section
variable {α:Type}{lo hi:α->Nat}{rm:α->Int}{l:List α}{b:Nat->Bool}{N:Nat}{F G:List Int}
theorem zBY{x:Nat}(hx:1<=x):1<=kq b 0 x:=by
 have:=Ck (b:=b) (a:=0) x hx
 rw[U7 1 (Nat.le_refl _)]at this;exact this
structure zCT (lo hi:α->Nat) (l:List α) (b:Nat->Bool) (N:Nat):Prop where
 lt:∀a,a∈l->lo a<hi a
 le:∀a,a∈l->hi a<=N
 beg:∀a,a∈l->b (lo a)=true
 fin:∀a,a∈l->b (hi a)=true∨hi a=N
theorem Rp(h:zCT lo hi l b N) (LF:Oo (l.map λa=>((lo a:Int),(hi a:Int),rm a)) b N F) (LG:Bf (l.map λa=>((kq b 0 (lo a):Int),(kq b 0 (hi a):Int),rm a)) G) (hG:G.length=kq b 0 N+1):
  ∀i,i<=N->(b i=true∨i=N∨i=0)->(∀j,j<i->F.getD j 0=G.getD (kq b 0 (j+1) - 1) 0)->F.getD i 0=G.getD (kq b 0 i) 0:=λi hi0 hb ih=>by
 by_cases z:i=0
 ·subst z;rw[LF.zero];have:=LG.zero
  show 0=G.getD 0 0
  rw[List.getD_eq_getElem?_getD,this];rfl
 have hi1:1<=i:=Nat.one_le_iff_ne_zero.mpr z
 have k1:=zBY (b:=b) hi1;have k2:=Ck (b:=b) (a:=0) N hi0;have e1:(b i||Nat.beq i N)=true:=by
  rcases hb with q|q|q
  ·rw[q,Bool.true_or]
  ·rw[q,Nat.beq_refl,Bool.or_true]
  ·exact absurd q z
 rw[LF.step i hi1 hi0,e1,LG.step _ k1 (by exact Bw λZ=>A5 [_,_,_] [A9 x0 x1,Cg x0 (.a x2 (.n 1)),A9 x1 x2] rT Z hG k2)]
 unfold Hf;have e2:F.getD (i - 1) 0=G.getD (((kq b 0 i:Nat):Int) - 1).toNat 0:=by
  rw[ih (i - 1) (by exact Bw λZ=>A5 [_,_] [A9 x0 x1,B0 (.a x1 (.n 1)) x0] rT Z (B8 (Ar λY=>A5 [_] [A7 x0 (.n 1),A9 (.n 1) x0] rT Y hi1))),Nat.sub_add_cancel hi1]
  congr 1;exact Iq (Gh (λZ=>Ac [_,_,_] [A7 x0 x1,Cg (.a x0 (.n 1)) x2,B0 x1 (.s x2 (.n 1))] rT Z (J5 (Bi λY=>Ac [_] [A7 x0 (.n 1),A9 (.n 1) x0] rT Y (C5 k1))) (Ch (Bi λY=>Ac [_] [A7 (.s x0 (.n 1)) (.n 0),A9 (.n 1) x0] rT Y (C5 k1)))) (λZ=>Ac [_,_,_] [A7 x1 x0,A9 (.s x2 (.n 1)) x1,B0 (.a x0 (.n 1)) x2] rT Z (G6 _) (J5 (Bi λY=>Ac [_] [A7 x0 (.n 1),A9 (.n 1) x0] rT Y (C5 k1)))))
 rw[e2];refine Rr (λa m=>?_) λa m q=>?_
 ·show((hi a:Int)=(i:Int))↔((kq b 0 (hi a):Nat):Int)=((kq b 0 i:Nat):Int)
  refine⟨λq=>by rw[show hi a=i by exact Iq (Gh (λZ=>Ac [_,_] [A7 x1 x0,Cg x1 x0] rT Z q) (λZ=>Ac [_,_] [A7 x0 x1,B0 x1 x0] rT Z q))],λq=>?_⟩
  rcases Nat.lt_trichotomy (hi a) i with r|r|r
  ·have hf:=h.fin a m;have:=Oq (b:=b) (a:=0) (x:=hi a) (y:=i) (.inl (by rcases hf with q|q;exact q;exact absurd q (by exactλZ=>A5 [_,_,_] [Cg x1 x0,A9 x2 x0,A7 x1 x2] rT Z hi0 r))) r
   exact Gh (λZ=>Ac [_,_] [Cg x1 x0,A7 x1 x0] rT q (Gi this)) (λZ=>Ac [_,_] [A7 x0 x1,A7 x1 x0] rT Z (Gi r))
  ·exact Gh (λZ=>Ac [_,_] [A7 x1 x0,Cg x1 x0] rT Z (Kj r)) (λZ=>Ac [_,_] [A7 x0 x1,B0 x1 x0] rT Z (Kj r))
  ·have:=h.le a m
   have:=Oq (b:=b) (a:=0) (x:=i) (y:=hi a) (.inl (by rcases hb with q|q|q;exact q;exact False.elim (A5 [_,_,_] [A7 x0 x1,A9 x1 x2,Cg x0 x2] rT r this q);exact False.elim (A5 [_] [A9 (.n 1) x0,B0 x0 (.n 0)] rT hi1 q))) r
   exact Gh (λZ=>Ac [_,_] [A7 x1 x0,A7 x0 x1] rT Z (Gi r)) (λZ=>Ac [_,_] [B0 x1 x0,A7 x0 x1] rT q (Gi this))
 ·have q:hi a=i:=by have:(hi a:Int)=(i:Int):=q;exact Iq (Gh (λZ=>Ac [_,_] [A7 x1 x0,Cg x1 x0] rT Z q) (λZ=>Ac [_,_] [A7 x0 x1,B0 x1 x0] rT Z q))
  have h1:=h.lt a m;show F.getD ((lo a:Int)).toNat 0+rm a=G.getD (((kq b 0 (lo a):Nat):Int)).toNat 0+rm a
  rw[Int.toNat_natCast,Int.toNat_natCast,ih (lo a) (by exact Bw λZ=>A5 [_,_,_] [A9 x0 x1,B0 x2 x0,A7 x1 x2] rT Z q h1)]
  have:kq b 0 (lo a+1)=kq b 0 (lo a)+1:=by
   rw[K0,h.beg a m,Bool.or_true];rfl
  rw[this,Nat.add_sub_cancel]
theorem Of(h:zCT lo hi l b N) (LF:Oo (l.map λa=>((lo a:Int),(hi a:Int),rm a)) b N F) (LG:Bf (l.map λa=>((kq b 0 (lo a):Int),(kq b 0 (hi a):Int),rm a)) G) (hG:G.length=kq b 0 N+1):
  ∀n i,i<n->i<N->F.getD i 0=G.getD (kq b 0 (i+1) - 1) 0
 |0,i,h1,_=>absurd h1 (Nat.not_lt_zero _)
 |n+1,i,h1,h2=>by
  have ih:∀j,j<i->F.getD j 0=G.getD (kq b 0 (j+1) - 1) 0:=λj hj=>Of h LF LG hG n j (by exact Bw λZ=>A5 [_,_,_] [A9 x0 x1,A7 x2 (.a x0 (.n 1)),A7 x1 x2] rT Z h1 hj) (by exact Bw λZ=>A5 [_,_,_] [A9 x0 x1,A7 x2 x0,A7 x1 x2] rT Z h2 hj)
  by_cases z:b i=true∨i=0
  ·rw[Rp h LF LG hG i (Nat.le_of_lt h2) (by rcases z with q|q;exact .inl q;exact .inr (.inr q)) ih]
   have:(Nat.ble i 0||b i)=true:=by
    rcases z with q|q
    ·rw[q,Bool.or_true]
    ·rw[q];rfl
   rw[K0,this];rfl
  ·have z1:b i=false:=by
    cases q:b i with
    |false=>rfl
    |true=>exact absurd (.inl q) z
   have z2:i≠0:=λq=>z (.inr q)
   have z3:Nat.ble i 0=false:=by
    cases q:Nat.ble i 0 with
    |false=>rfl
    |true=>exact absurd (Nat.le_zero.mp (Nat.ble_eq.mp q)) z2
   have e:(b i||Nat.beq i N)=false:=by
    rw[z1,Bool.false_or]
    cases q:Nat.beq i N with
    |false=>rfl
    |true=>exact absurd (Nat.eq_of_beq_eq_true q) (by exactλZ=>A5 [_,_] [Cg x0 x1,A7 x0 x1] rT Z h2)
   rw[LF.step i (by omega) (Nat.le_of_lt h2),e,Tl λs m q=>?_,K0,z1,z3]
   ·show F.getD (i - 1) 0+0=G.getD (kq b 0 i+0 - 1) 0
    rw[Int.add_zero,ih (i - 1) (by omega),Nat.sub_add_cancel (by omega)];rfl
   ·obtain⟨a,ma,rfl⟩:=List.mem_map.mp m;have q:hi a=i:=by have:(hi a:Int)=(i:Int):=q;exact Iq (Gh (λZ=>Ac [_,_] [A7 x1 x0,Cg x1 x0] rT Z q) (λZ=>Ac [_,_] [A7 x0 x1,B0 x1 x0] rT Z q))
    rcases h.fin a ma with r|r
    ·rw[q,z1]at r;cases r
    ·exact A5 [_,_,_] [A7 x0 x1,B0 x2 x0,Cg x2 x1] rT h2 q r
theorem Ro(h:zCT lo hi l b N) (LF:Oo (l.map λa=>((lo a:Int),(hi a:Int),rm a)) b N F) (LG:Bf (l.map λa=>((kq b 0 (lo a):Int),(kq b 0 (hi a):Int),rm a)) G) (hG:G.length=kq b 0 N+1){i:Nat}(hi0:i<=N) (hb:b i=true∨i=N):
  F.getD i 0=G.getD (kq b 0 i) 0:=
 Rp h LF LG hG i hi0 (by rcases hb with q|q;exact .inl q;exact .inr (.inl q)) λj hj=>Of h LF LG hG (j+1) j (Nat.lt_succ_self _) (by exact Bw λZ=>A5 [_,_,_] [A9 x0 x1,A9 x2 x0,A7 x1 x2] rT Z hi0 hj)
end
theorem Py{F:List Int}{k:Int}:∀{sp:List Sp}{p:Int},p<=sp.foldl (Ca F k) p/\∀s,s∈sp->s.2.1=k->F.getD s.1.toNat 0+s.2.2<=sp.foldl (Ca F k) p
 |[],p=>⟨Int.le_refl _,λ_ m=>nomatch m⟩
 |s::sp,p=>by
  obtain⟨h1,h2⟩:=Py (F:=F) (k:=k) (sp:=sp) (p:=Ca F k p s)
  have h3:p<=Ca F k p s:=by unfold Ca;split<;>omega
  refine⟨Int.le_trans h3 h1,λt m e=>?_⟩
  rcases List.mem_cons.mp m with rfl|m
  ·refine Int.le_trans ?_ h1
   unfold Ca;rw[if_pos e];omega
  ·exact h2 t m e
theorem Ul{F:List Int}{k M:Int}:∀{sp:List Sp}{p:Int},p<=M->(∀s,s∈sp->s.2.1=k->F.getD s.1.toNat 0+s.2.2<=M)->sp.foldl (Ca F k) p<=M
 |[],p,h,_=>h
 |s::sp,p,h,h2=>by
  refine Ul (sp:=sp) (p:=Ca F k p s) ?_ λt m e=>h2 t (lq4 _ m) e
  unfold Ca;split
  ·rename_i e;have:=h2 s lq1 e
   omega
  ·exact h
theorem Bf.up{sp:List Sp}{F:List Int}(L:Bf sp F){k:Nat}(h:k+1<F.length):F.getD k 0+2<=F.getD (k+1) 0:=by
 rw[L.step (k+1) (Nat.succ_le_succ (lq5 _)) h];unfold Hf;have:=(Py (F:=F) (k:=((k+1:Nat):Int)) (sp:=sp) (p:=F.getD (((k+1:Nat):Int) - 1).toNat 0+2)).1
 rw[show(((k+1:Nat):Int) - 1).toNat=k by omega]at this ⊢
 exact this
theorem Bf.at0{sp:List Sp}{F:List Int}(L:Bf sp F):F.getD 0 0=0:=by rw[List.getD_eq_getElem?_getD,L.zero];rfl
theorem Bf.mono{sp:List Sp}{F:List Int}(L:Bf sp F){i:Nat}:∀{j:Nat},i<=j->j<F.length->F.getD i 0+2*((j:Int) - i)<=F.getD j 0
 |0,h,_=>by rw[Nat.le_zero.mp h];exact Bi λZ=>Ac [_] [A7 x0 (.a x0 (.m 2 (.s (.n 0) (.n 0))))] rT Z
 |j+1,h,h2=>by
  rcases Nat.lt_or_eq_of_le h with q|q
  ·have h3:=L.mono (i:=i) (j:=j) (by exact Ar λZ=>A5 [_,_] [A7 x1 x0,A7 x0 (.a x1 (.n 1))] rT Z q) (by exact Bw λZ=>A5 [_,_] [A9 x1 x0,A7 (.a x0 (.n 1)) x1] rT Z h2)
   have h4:=L.up h2;exact Bi λZ=>Ac [(↑i),(↑j),(F.getD i 0),(F.getD (j+1) 0),(F.getD j 0)] [A7 x3 (.a x2 (.m 2 (.s (.a x1 (.n 1)) x0))),A9 (.a x2 (.m 2 (.s x1 x0))) x4,A9 (.a x4 (.n 2)) x3] rT Z h3 h4
  ·rw[q];exact Bi λZ=>Ac [(↑j),(F.getD (j+1) 0)] [A7 x1 (.a x1 (.m 2 (.s (.a x0 (.n 1)) (.a x0 (.n 1)))))] rT Z
theorem Bf.room{sp:List Sp}{F:List Int}(L:Bf sp F){s:Sp}(m:s∈sp){k:Nat}(e:s.2.1=k) (h1:1<=k) (h2:k<F.length):F.getD s.1.toNat 0+s.2.2<=F.getD k 0:=by
 rw[L.step k h1 h2];exact(Py (F:=F)).2 s m e
theorem Bf.bound{sp:List Sp}{F:List Int}(L:Bf sp F) (ok:Ng sp){M:Int}(hM:2<=M) (hr:∀s,s∈sp->s.2.2<=M):∀n k:Nat,k<=n->k<F.length->F.getD k 0<=M*k
 |n,0,_,_=>by rw[L.at0,Int.natCast_zero,Int.mul_zero];exact Int.le_refl _
 |0,k+1,h,_=>absurd h (by exactλZ=>A5 [_] [A9 (.a x0 (.n 1)) (.n 0),A9 (.n 0) x0] rT Z (lq5 _))
 |n+1,k+1,h,h2=>by
  have ih:∀j:Nat,j<=k->F.getD j 0<=M*j:=λj hj=>L.bound ok hM hr n j (by exact Ar λZ=>A5 [_,_,_] [A7 x0 x1,A9 (.a x2 (.n 1)) (.a x0 (.n 1)),A9 x1 x2] rT Z h hj) (by exact Bw λZ=>A5 [_,_,_] [A9 x0 x1,A7 (.a x2 (.n 1)) x0,A9 x1 x2] rT Z h2 hj)
  have up:∀j:Nat,j<=k->F.getD j 0+M<=M*((k+1:Nat):Int):=λj hj=>by
   have h1:=ih j hj;have h2:M*(j:Int)<=M*(k:Int):=Int.mul_le_mul_of_nonneg_left (by exact Bi λZ=>Ac [_,_] [A7 x0 x1,A9 x1 x0] rT Z (C5 hj)) (by exact Bi λZ=>Ac [_] [A7 x0 (.n 0),A9 (.n 2) x0] rT Z hM)
   rw[show((k+1:Nat):Int)=(k:Int)+1 by exact Gh (λZ=>Ac [_] [A7 (.a x0 (.n 1)) (.a x0 (.n 1))] rT Z) (λZ=>Ac [_] [A7 (.a x0 (.n 1)) (.a x0 (.n 1))] rT Z),Int.mul_add,Int.mul_one]
   exact Bi λZ=>Ac [_,_,_,_] [A7 (.a x2 x0) (.a x1 x0),A9 x1 x3,A9 x3 x2] rT Z h1 h2
  rw[L.step (k+1) (by exact Ar λZ=>A5 [_] [A7 (.a x0 (.n 1)) (.n 1),A9 (.n 0) x0] rT Z (lq5 _)) h2]
  unfold Hf;refine Ul ?_ λs m e=>?_
  ·rw[show(((k+1:Nat):Int) - 1).toNat=k by omega]
   have:=up k (Nat.le_refl _)
   exact Bi λZ=>Ac [_,_,_] [A7 x1 (.a x0 (.n 2)),A9 (.n 2) x2,A9 (.a x0 x2) x1] rT Z hM this
  ·have h1:=ok s m;have h3:=up s.1.toNat (by exact Hj (Bi λZ=>Ac [_,_,_,_] [A7 x0 x1,B0 x2 (.a x0 (.n 1)),A7 x3 x2,B0 x1 x3] rT Z e h1.2 (Ch (Bi λY=>Ac [_] [A7 x0 (.n 0),A9 (.n 0) x0] rT Y h1.1))))
   have h4:=hr s m;exact Bi λZ=>Ac [_,_,_,_] [A7 x1 (.a x0 x2),A9 (.a x0 x3) x1,A9 x2 x3] rT Z h3 h4
section
open Builtin.Str
noncomputable def Wa (c:Nat):D:=.str ⟨#[c]⟩
noncomputable def Hb (f:Nat->Nat) (w:Nat):List D:=(List.range w).map λx=>Wa (f x)
noncomputable def Kq (n h:Nat):List D:=(List.range h).map λi=>D.ref (n+2*i+1)
theorem G0{f:Nat->Nat}{w:Nat}:(Hb f w).length=w:=by unfold Hb;simp
theorem Mx{n h:Nat}:(Kq n h).length=h:=by unfold Kq;simp
theorem Ku{f:Nat->Nat}{w j:Nat}(h:j<(Hb f w).length):(Hb f w)[j]=Wa (f j):=by simp only[Hb,List.getElem_map,List.getElem_range]
theorem We{n h j:Nat}(hh:j<(Kq n h).length):(Kq n h)[j]=.ref (n+2*j+1):=by simp only[Kq,List.getElem_map,List.getElem_range]
theorem Xh{f:Nat->Nat}{w x c:Nat}:(Hb f w).set x (Wa c)=Hb (λj=>if j=x then c else f j) w:=by
 refine List.ext_getElem (by rw[List.length_set,G0,G0]) λj h1 h2=>?_
 rw[List.getElem_set,Ku,Ku];by_cases h:x=j
 ·rw[if_pos h,if_pos h.symm]
 ·rw[if_neg h,if_neg (Ne.symm h)]
structure Bd (n h w kb:Nat) (B:Bo) (σ0 σ:Bp):Prop where
 wd:h<=100000/\w<=100000
 len:σ0.length<=σ.length
 kbd:σ[kb]? =some (.list (Kq n h))
 row:∀i,i<h->σ[n+2*i+1]? =some (.list (Hb (B i) w))
 off:∀i,i<h->kb≠n+2*i+1
 keep:∀(k:Nat) (o:PO),σ0[k]? =some o->(∀i,i<h->k≠n+2*i+1)->σ[k]? =some o
section
variable {n h w kb:Nat}{B:Bo}{σ0 σ:Bp}
theorem Bd.here(b:Bd n h w kb B σ0 σ):Bd n h w kb B σ σ:=⟨b.wd,Nat.le_refl _,b.kbd,b.row,b.off,λ_ _ e _=>e⟩
theorem Bd.trans{B':Bo}{σ':Bp}(a:Bd n h w kb B σ0 σ) (b:Bd n h w kb B' σ σ'):Bd n h w kb B' σ0 σ':=⟨a.wd,Nat.le_trans a.len b.len,b.kbd,b.row,b.off,λk o e q=>b.keep k o (a.keep k o e q) q⟩
theorem Bd.ext(b:Bd n h w kb B σ0 σ) (j:Bp):Bd n h w kb B σ0 (σ++j):=
 ⟨b.wd,by rw[lq7];exact Nat.le_trans b.len (Nat.le_add_right _ _),(Ct.app _ _).get b.kbd,λi hi=>(Ct.app _ _).get (b.row i hi),b.off,λk o e q=>(Ct.app _ _).get (b.keep k o e q)⟩
theorem R4(b:Bd n h w kb B σ0 σ){y:Nat}(hy:y<h){S:St}(hS:S.sto=σ){mo my:Mn D}{iy:Int}(ho:mo S=.ok (.ref kb) S) (hm:my S=.ok (.int iy) S) (hi:iy=y):Ab Ag mo my S=.ok (.ref (n+2*y+1)) S:=by
 subst hi;refine A8 ho hm ?_
 rw[Pk (ds:=Kq n h) (by rw[hS];exact b.kbd) (Int.natCast_nonneg _) (by rw[Mx];exact Dq λZ=>Ac [_,_] [A9 x1 x0,A7 x0 x1] rT Z (Gi hy)) (by rw[Mx];have:=b.wd.1;exact Ar λZ=>A5 [_] [A7 (.n 4611686018427387904) x0,A9 x0 (.n 100000)] rT Z this)]
 rw[We,Int.toNat_natCast]
theorem Zz(b:Bd n h w kb B σ0 σ){y x:Nat}(hy:y<h) (hx:x<w){S:St}(hS:S.sto=σ){mo my mx:Mn D}{iy ix:Int}(ho:mo S=.ok (.ref kb) S) (hm:my S=.ok (.int iy) S) (hi:iy=y) (hmx:mx S=.ok (.int ix) S) (hix:ix=x):
  Ab Ag (Ab Ag mo my) mx S=.ok (Wa (B y x)) S:=by
 subst hix;refine A8 (R4 b hy hS ho hm hi) hmx ?_
 rw[Pk (ds:=Hb (B y) w) (by rw[hS];exact b.row y hy) (Int.natCast_nonneg _) (by rw[G0];exact Dq λZ=>Ac [_,_] [A9 x1 x0,A7 x0 x1] rT Z (Gi hx)) (by rw[G0];have:=b.wd.2;exact Ar λZ=>A5 [_] [A7 (.n 4611686018427387904) x0,A9 x0 (.n 100000)] rT Z this)]
 rw[Ku,Int.toNat_natCast]
theorem Bd.put(b:Bd n h w kb B σ0 σ){y x c:Nat}(hy:y<h):Bd n h w kb (D0 B y x c) σ0 (σ.set (n+2*y+1) (.list ((Hb (B y) w).set x (Wa c)))):=by
 have hr:=b.row y hy;refine⟨b.wd,by rw[List.length_set];exact b.len,Ph b.kbd (Ne.symm (b.off y hy)),λi hi=>?_,b.off,λk o e q=>Ph (b.keep k o e q) (Ne.symm (q y hy))⟩
 by_cases z:i=y
 ·subst z;rw[Kf hr,Xh];congr 3
  funext j
  unfold D0;by_cases q:j=x
  ·rw[if_pos q,if_pos ⟨rfl,q⟩]
  ·rw[if_neg q,if_neg λz=>q z.2]
 ·rw[Ph (b.row i hi) (by omega)];congr 3
  funext j
  unfold D0;rw[if_neg λq=>z q.1]
theorem Df(b:Bd n h w kb B σ0 σ){y x c:Nat}(hy:y<h) (hx:x<w){loc:Be}{mv mo my mx:Mn D}{iy ix:Int}(hv:mv ⟨loc,σ⟩=.ok (Wa c) ⟨loc,σ⟩) (ho:mo ⟨loc,σ⟩=.ok (.ref kb) ⟨loc,σ⟩) (hm:my ⟨loc,σ⟩=.ok (.int iy) ⟨loc,σ⟩) (hi:iy=y) (hmx:mx ⟨loc,σ⟩=.ok (.int ix) ⟨loc,σ⟩) (hix:ix=x):
  Ej Cd mv (Ab Ag mo my) mx ⟨loc,σ⟩=.ok .next ⟨loc,σ.set (n+2*y+1) (.list ((Hb (B y) w).set x (Wa c)))⟩:=by
 have hsl:(100000:Nat)<=sizeLine:=by decide
 have:=Zm (v:=Wa c) (ds:=Hb (B y) w) (k:=n+2*y+1) (i:=ix) hv (R4 b hy rfl ho hm hi) hmx (b.row y hy) ⟨by exact Bi λZ=>Ac [_,_] [A7 x0 (.n 0),Cg x0 x1,A9 (.n 0) x1] rT Z hix (Az _),by rw[G0];exact Dq λZ=>Ac [_,_,_] [A9 x0 x1,B0 x1 x2,A7 x2 x0] rT Z hix (Gi hx),by rw[G0];have:=b.wd.2;exact Ar λZ=>A5 [_,_] [A7 x1 x0,A9 (.n 100000) x1,A9 x0 (.n 100000)] rT Z hsl this⟩
 rw[this,hix,Int.toNat_natCast]
noncomputable def Em {α:Type}(f:Nat->α->Bo->Bo):Nat->List α->Bo->Bo
 |_,[],B=>B
 |i,a::r,B=>Em f (i+1) r (f i a B)
theorem Ey{α:Type}{f:α->Bo->Bo}:∀{l:List α}{i:Nat}{B:Bo},Em (λ_ a B=>f a B) i l B=l.foldl (λB a=>f a B) B
 |[],_,_=>rfl
 |_::l,_,_=>Ey (l:=l)
theorem Cm{α:Type}{e:α->D}{tgt:D->Be->Option Be}{g:Bp->Prop}{body:Mn Fl}{Q:Fl->St->Prop}(A:Nat->Be->Prop) (f:Nat->α->Bo->Bo) (hg:∀σ' B',Bd n h w kb B' σ σ'->g σ'){xs:List α}
  (hstep:∀i a,xs[i]? =some a->∀loc σ' B',A i loc->Bd n h w kb B' σ σ'->∃loc',tgt (e a) loc=some loc'/\W body ⟨loc',σ'⟩ (λfl st'=>fl=.next/\A (i+1) st'.loc/\Bd n h w kb (f i a B') σ st'.sto)){loc:Be}(hA:A 0 loc) (b:Bd n h w kb B σ0 σ)
  (hQ:∀loc' σ',A xs.length loc'->Bd n h w kb (Em f 0 xs B) σ σ'->Q .next ⟨loc',σ'⟩):W (Bq tgt g body (xs.map e)) ⟨loc,σ⟩ Q:=by
 refine Fg (λrem st'=>∃(i:Nat) (r:List α) (B':Bo),rem=r.map e/\r=xs.drop i/\i<=xs.length/\A i st'.loc/\Bd n h w kb B' σ st'.sto/\Em f i r B'=Em f 0 xs B) ?_ ?_ _ _ ⟨0,xs,B,rfl,rfl,lq5 _,hA,b.here,rfl⟩
 ·rintro d rest ⟨l,σ'⟩ ⟨i,r,B',hr,hd,hi,hA',b',hf⟩
  cases r with
  |nil=>cases hr
  |cons a r=>
   cases hr;obtain⟨h1,h2⟩:=Cw hd;obtain⟨loc',e1,W1⟩:=hstep i a h1 l σ' B' hA' b';refine⟨hg _ _ b',loc',e1,W1.mono ?_⟩
   rintro fl ⟨l2,σ2⟩ ⟨rfl,hA2,b2⟩
   exact⟨i+1,r,f i a B',rfl,h2,(lq2 h1).1,hA2,b2,hf⟩
 ·rintro⟨l,σ'⟩ ⟨i,r,B',hr,hd,hi,hA',b',hf⟩
  cases r with
  |cons a r=>cases hr
  |nil=>
   have h1:=Ef hd;obtain rfl:i=xs.length:=by exact Gw (λZ=>A5 [_,_] [A7 x0 x1,A9 x1 x0] rT Z h1) (λZ=>A5 [_,_] [A7 x1 x0,A9 x0 x1] rT Z hi)
   have hf:B'=Em f 0 xs B:=hf
   subst hf;exact⟨hg _ _ b',hQ l σ' hA' b'⟩
end
end
section
open Builtin.Str
theorem Jv{a b:Nat}{ia ib:Int}{S:St}(ha:ia=a) (hb:ib=b) (h1:a<=100000) (h2:b<=100000):C4 [.int ia,.int ib] S=.ok ⟨(List.range (b - a)).map λj=>D.int ((a+j:Nat):Int),λ_=>True⟩ S:=by
 subst ha hb;refine Ax (Ni.mpr ⟨Bool.and_eq_true_iff.mpr ⟨Cl.mpr ⟨by exact Bi λZ=>Ac [_] [A7 x0 (.s (.n 0) (.n 1099511627776)),A9 (.n 0) x0] rT Z (Az _),by exact Dq λZ=>Ac [_] [A9 (.n 1099511627776) x0,A9 x0 (.n 100000)] rT Z (C5 h1)⟩,Cl.mpr ⟨by exact Bi λZ=>Ac [_] [A7 x0 (.s (.n 0) (.n 1099511627776)),A9 (.n 0) x0] rT Z (Az _),by exact Dq λZ=>Ac [_] [A9 (.n 1099511627776) x0,A9 x0 (.n 100000)] rT Z (C5 h2)⟩⟩,?_,rfl⟩)
 congr 1
 unfold Di;rw[show((b:Int) - (a:Int)).toNat=b - a by omega]
 refine List.map_congr_left λj _=>?_
 congr 1;omega
section
variable {n h w kb:Nat}{B:Bo}{σ0 σ:Bp}
noncomputable def zFD (c:String):Mn Fl:=(Ae (Iv (Dl Ux (Ab Ag (Ab Ag (A0 0) (A0 6)) (A0 5)) (ret1 (.str (sO "+")))) (Ae (Ej Cd (ret1 (.str (sO c))) (Ab Ag (A0 0) (A0 6)) (A0 5))
 (ret1 .next)) (ret1 .next))
 (ret1 .next))
theorem zCz{c:String}{cc:Nat}(hc:D.str (sO c)=Wa cc) (b:Bd n h w kb B σ0 σ){y x:Nat}(hy:y<h) (hx:x<w){loc:Be}(l0:loc 0=some (.ref kb)) (l6:loc 6=some (.int (y:Int))) (l5:loc 5=some (.int (x:Int))):
  W (zFD c) ⟨loc,σ⟩ λfl st'=>fl=.next/\st'.loc=loc/\Bd n h w kb (Cu (λi j=>i=y/\j=x) cc B) σ0 st'.sto:=by
 unfold zFD;refine Dj (b:=[B y x] !=[43]) (Dc (Zz b hy hx rfl (A1 l0) (A1 l6) rfl (A1 l5) rfl) rfl rfl rfl) (λz=>?_) λz=>?_
 ·have z:B y x≠43:=by simpa using z
  rw[hc];refine As (Df b hy hx rfl (A1 l0) (A1 l6) rfl (A1 l5) rfl) (Aa rfl (Aa rfl ⟨rfl,rfl,?_⟩))
  have:=b.put (x:=x) (c:=cc) hy
  rw[←Ql,if_pos z];exact this
 ·have z:B y x=43:=by simpa using z
  refine Aa rfl (Aa rfl ⟨rfl,rfl,?_⟩)
  rw[←Ql,if_neg λq=>q z]
  exact b
theorem zF6{P P':Nat->Nat->Prop}{c:Nat}(hc:c≠43){B:Bo}{Q:Nat->Nat->Prop}(h:∀y x,(P y x∨P' y x)↔Q y x):Cu P' c (Cu P c B)=Cu Q c B:=(Oz hc).trans (G7 h)
theorem zCG{q:Qb}(hn:q.n<=q.s) (hw:q.w<=q.e) (hs:q.s<h) (he:q.e<w){st:St}{Q:D->St->Prop}(b:Bd n h w kb B σ0 st.sto)
  (hQ:∀σ',Bd n h w kb (Cu (Qd q) 124 (Cu (M9 q) 45 B)) st.sto σ'->Q .none ⟨st.loc,σ'⟩):W (E9 [.ref kb,.int (q.n:Int),.int (q.w:Int),.int (q.s:Int),.int (q.e:Int)]) st Q:=by
 have wd:=b.wd;let A:Be->Prop:=λl=>l 0=some (.ref kb)/\l 1=some (.int (q.n:Int))/\l 2=some (.int (q.w:Int))/\l 3=some (.int (q.s:Int))/\l 4=some (.int (q.e:Int))
 refine Cy rfl ?_
 unfold H6;refine Al (Ad.mpr (Aa (A2 rfl (Jv (a:=q.w+1) (b:=q.e) rfl rfl (by exact Ar λZ=>A5 [_,_,_] [A7 (.n 100000) (.a x0 (.n 1)),A9 x0 x1,A7 x1 x2,A9 x2 (.n 100000)] rT Z hw he wd.2) (by exact Ar λZ=>A5 [_,_] [A7 (.n 100000) x0,A7 x0 x1,A9 x1 (.n 100000)] rT Z he wd.2))) ?_))
 refine Cm (λ_ l=>A l) (λ_ j B=>Cu (λy x=>(y=q.n∨y=q.s)/\x=q.w+1+j) 45 B) (λ_ _ _=>trivial) (λi j hj l σ1 B1 hA b1=>?_) ⟨rfl,rfl,rfl,rfl,rfl⟩ b λl1 σ1 hA1 b1=>?_
 ·have hj:j<q.e - (q.w+1):=by
   have:=List.mem_of_getElem? hj
   exact List.mem_range.mp this
  refine⟨B9 l 5 (.int ((q.w+1+j:Nat):Int)),rfl,?_⟩
  refine Al (Ad.mpr (Aa (A2 (A2 (A2 (A1 hA.2.1) (A2 (A2 (A1 hA.2.2.2.1) rfl) rfl)) rfl) rfl) ?_))
  refine Cm (α:=Nat) (xs:=[q.n,q.s]) (e:=λv=>D.int (v:Int)) (λ_ l=>A l/\l 5=some (.int ((q.w+1+j:Nat):Int))) (λ_ v B=>Cu (λy x=>y=v/\x=q.w+1+j) 45 B) (λ_ _ _=>trivial) (λi v hv l2 σ2 B2 hA2 b2=>?_) ⟨hA,rfl⟩ b1 λl2 σ2 hA2 b2=>?_
  ·have hv:v<h:=by
    rcases List.mem_cons.mp (List.mem_of_getElem? hv)with e|e
    ·exact Bw λZ=>A5 [_,_,_,_] [A9 x0 x1,A9 x2 x3,A7 x3 x0,B0 x1 x2] rT Z hn hs e
    ·rw[lq0 e];exact hs
   refine⟨B9 l2 6 (.int (v:Int)),rfl,(zCz (c:="-") (loc:=B9 l2 6 (.int (v:Int))) rfl b2 hv (by omega) (x:=q.w+1+j) hA2.1.1 rfl hA2.2).mono ?_⟩
   rintro fl ⟨l3,σ3⟩ ⟨rfl,hl,b3⟩
   cases hl;exact⟨rfl,hA2,b3⟩
  ·have e:Em (λ_ v B=>Cu (λy x=>y=v/\x=q.w+1+j) 45 B) 0 [q.n,q.s] B1=Cu (λy x=>(y=q.n∨y=q.s)/\x=q.w+1+j) 45 B1:=zF6 (by decide) λy x=>⟨λz=>z.elim (λz=>⟨.inl z.1,z.2⟩) λz=>⟨.inr z.1,z.2⟩,λz=>z.1.elim (λr=>.inl ⟨r,z.2⟩) λr=>.inr ⟨r,z.2⟩⟩
   rw[e]at b2;exact Aa rfl ⟨rfl,hA2.1,b1.trans b2⟩
 ·have e:Em (λ_ j B=>Cu (λy x=>(y=q.n∨y=q.s)/\x=q.w+1+j) 45 B) 0 (List.range (q.e - (q.w+1))) B=Cu (M9 q) 45 B:=by
   rw[Ey,Lf (by decide)];refine G7 λy x=>⟨λ⟨j,m,h1,h2⟩=>⟨h1,?_,?_⟩,λz=>⟨x - (q.w+1),List.mem_range.mpr ?_,z.1,?_⟩⟩
   ·exact Bw λZ=>A5 [_,_,_] [A9 x1 x0,Cg x1 (.a (.a x0 (.n 1)) x2),A9 (.n 0) x2] rT Z h2 (lq5 _)
   ·have:=List.mem_range.mp m;omega
   ·have:=z.2;exact Bw λZ=>A5 [_,_,_,_,_] [A9 x1 x0,A7 x3 x2,A9 x2 (.a x1 (.a x4 (.n 1))),B0 (.a x0 (.a x4 (.n 1))) x3] rT Z this.2 (Bh _ _) (B8 (Ar λY=>A5 [_,_] [A7 x1 (.a x0 (.n 1)),A7 x0 x1] rT Y this.1))
   ·have:=z.2;exact Gw (λZ=>A5 [_,_,_] [A7 x1 (.a (.a x0 (.n 1)) x2),B0 (.a x2 (.a x0 (.n 1))) x1] rT Z (B8 (Ar λY=>A5 [_,_] [A7 x1 (.a x0 (.n 1)),A7 x0 x1] rT Y this.1))) (λZ=>A5 [_,_,_] [A7 (.a (.a x0 (.n 1)) x2) x1,A9 x1 (.a x2 (.a x0 (.n 1)))] rT Z (Bh _ _))
  rw[e]at b1;refine Al (Ad.mpr (Aa (A2 (A2 (A8 (A1 hA1.2.1) rfl rfl) (A2 (A2 (A1 hA1.2.2.2.1) rfl) rfl)) (Jv (a:=q.n+1) (b:=q.s) rfl rfl (by exact Ar λZ=>A5 [_,_,_] [A7 (.n 100000) (.a x0 (.n 1)),A9 x0 x1,A7 x1 x2,A9 x2 (.n 100000)] rT Z hn hs wd.1) (by exact Ar λZ=>A5 [_,_] [A7 (.n 100000) x0,A7 x0 x1,A9 x1 (.n 100000)] rT Z hs wd.1))) ?_))
  refine Cm (λ_ l=>A l) (λ_ j B=>Cu (λy x=>(x=q.w∨x=q.e)/\y=q.n+1+j) 124 B) (λ_ _ _=>trivial) (λi j hj l σ2 B2 hA b2=>?_) hA1 b1 λl2 σ2 hA2 b2=>?_
  ·have hj:j<q.s - (q.n+1):=by
    have:=List.mem_of_getElem? hj
    exact List.mem_range.mp this
   refine⟨B9 l 6 (.int ((q.n+1+j:Nat):Int)),rfl,?_⟩
   refine Al (Ad.mpr (Aa (A2 (A2 (A2 (A1 hA.2.2.1) (A2 (A2 (A1 hA.2.2.2.2) rfl) rfl)) rfl) rfl) ?_))
   refine Cm (α:=Nat) (xs:=[q.w,q.e]) (e:=λv=>D.int (v:Int)) (λ_ l=>A l/\l 6=some (.int ((q.n+1+j:Nat):Int))) (λ_ v B=>Cu (λy x=>y=q.n+1+j/\x=v) 124 B) (λ_ _ _=>trivial) (λi v hv l3 σ3 B3 hA3 b3=>?_) ⟨hA,rfl⟩ b2 λl3 σ3 hA3 b3=>?_
   ·have hv:v<w:=by
     rcases List.mem_cons.mp (List.mem_of_getElem? hv)with e|e
     ·exact Bw λZ=>A5 [_,_,_,_] [A9 x0 x1,A9 x2 x3,A7 x3 x0,B0 x1 x2] rT Z hw he e
     ·rw[lq0 e];exact he
    refine⟨B9 l3 5 (.int (v:Int)),rfl,(zCz (c:="|") (loc:=B9 l3 5 (.int (v:Int))) rfl b3 (y:=q.n+1+j) (by omega) hv hA3.1.1 hA3.2 rfl).mono ?_⟩
    rintro fl ⟨l4,σ4⟩ ⟨rfl,hl,b4⟩
    cases hl;exact⟨rfl,hA3,b4⟩
   ·have e:Em (λ_ v B=>Cu (λy x=>y=q.n+1+j/\x=v) 124 B) 0 [q.w,q.e] B2=Cu (λy x=>(x=q.w∨x=q.e)/\y=q.n+1+j) 124 B2:=zF6 (by decide) λy x=>⟨λz=>z.elim (λz=>⟨.inl z.2,z.1⟩) λz=>⟨.inr z.2,z.1⟩,λz=>z.1.elim (λr=>.inl ⟨z.2,r⟩) λr=>.inr ⟨z.2,r⟩⟩
    rw[e]at b3;exact Aa rfl ⟨rfl,hA3.1,b2.trans b3⟩
  ·have e:Em (λ_ j B=>Cu (λy x=>(x=q.w∨x=q.e)/\y=q.n+1+j) 124 B) 0 (List.range (q.s - (q.n+1))) (Cu (M9 q) 45 B)=Cu (Qd q) 124 (Cu (M9 q) 45 B):=by
    rw[Ey,Lf (by decide)];refine G7 λy x=>⟨λ⟨j,m,h1,h2⟩=>⟨h1,?_,?_⟩,λz=>⟨y - (q.n+1),List.mem_range.mpr ?_,z.1,?_⟩⟩
    ·exact Bw λZ=>A5 [_,_,_] [A9 x1 x0,Cg x1 (.a (.a x0 (.n 1)) x2),A9 (.n 0) x2] rT Z h2 (lq5 _)
    ·have:=List.mem_range.mp m;omega
    ·have:=z.2;exact Bw λZ=>A5 [_,_,_,_,_] [A9 x1 x0,A7 x3 x2,A9 x2 (.a x1 (.a x4 (.n 1))),B0 (.a x0 (.a x4 (.n 1))) x3] rT Z this.2 (Bh _ _) (B8 (Ar λY=>A5 [_,_] [A7 x1 (.a x0 (.n 1)),A7 x0 x1] rT Y this.1))
    ·have:=z.2;exact Gw (λZ=>A5 [_,_,_] [A7 x1 (.a (.a x0 (.n 1)) x2),B0 (.a x2 (.a x0 (.n 1))) x1] rT Z (B8 (Ar λY=>A5 [_,_] [A7 x1 (.a x0 (.n 1)),A7 x0 x1] rT Y this.1))) (λZ=>A5 [_,_,_] [A7 (.a (.a x0 (.n 1)) x2) x1,A9 x1 (.a x2 (.a x0 (.n 1)))] rT Z (Bh _ _))
   rw[e]at b2;exact Aa rfl (hQ _ (b1.trans b2))
end
end
section
open Builtin.Str
noncomputable def Ti (y x0:Nat) (ln:List Nat):Bo->Bo:=Em (λj c B=>D0 B y (x0+j) c) 0 ln
noncomputable def R9 (q:Qb) (x:Str):Bo->Bo:=Em (λk (ln:Str) B=>Ti (q.n+2+k) (q.w+2) (cl ln) B) 0 (Txt.split x ⟨#[10]⟩)
structure zBB (q:Qb) (x:Str) (h w:Nat):Prop where
 len:x.length<=1000
 row:q.n+2+(Txt.split x ⟨#[10]⟩).length<=h
 col:∀y,y∈Txt.split x ⟨#[10]⟩->q.w+2+y.length<=w
section
variable {n h w kb:Nat}{B:Bo}{σ0 σ:Bp}
theorem Bd.lt(b:Bd n h w kb B σ0 σ){i:Nat}(hi:i<h):n+2*i+1<σ.length:=(lq2 (b.row i hi)).1
theorem Bd.new(b:Bd n h w kb B σ0 σ){k:Nat}(hk:σ.length<=k){σ':Bp}{B':Bo}{σ1:Bp}(b':Bd n h w kb B' σ1 σ'){o:PO}(e:σ1[k]? =some o):σ'[k]? =some o:=b'.keep k o e λi hi z=>by have:=b.lt hi;exact A5 [_,_,_,_] [A9 x0 x1,B0 x1 (.a (.a x3 (.m 2 x2)) (.n 1)),A7 (.a (.a x3 (.m 2 x2)) (.n 1)) x0] rT hk z this
theorem Ra{q:Qb}{x:Str}(ft:zBB q x h w){st:St}{Q:D->St->Prop}(b:Bd n h w kb B σ0 st.sto)
  (hQ:∀σ',Bd n h w kb (R9 q x B) st.sto σ'->Q .none ⟨st.loc,σ'⟩):W (F8 [.ref kb,.int (q.n:Int),.int (q.w:Int),.str x]) st Q:=by
 have wd:=b.wd;have hsl:(2000:Nat)<=sizeLine:=by decide
 have hlen:=ft.len;have hrow:=ft.row;refine Cy rfl ?_
 unfold Hn;refine As rfl (Al (Ad.mpr (Ad.mpr (Ad.mpr (Aa rfl (Jq (by exact Ar λZ=>A5 [_,_] [A7 x0 (.a x1 (.n 2)),A9 (.n 2000) x0,A9 x1 (.n 1000)] rT Z hsl hlen) ?_))))))
 refine Aa (Ax (E2.mpr ⟨_,lq3,rfl,rfl⟩)) ?_
 have b1:=b.here.ext [.list ((Txt.split x ⟨#[10]⟩).map D.str)];refine Cm (λi l=>l 0=some (.ref kb)/\l 2=some (.int (q.w:Int))/\l 4=some (.int ((q.n+2+i:Nat):Int))) (λk ln B=>Ti (q.n+2+k) (q.w+2) (cl ln) B) (λσ' B' b'=>b.new (Nat.le_refl _) b' lq3) (λi ln hln l σ1 B1 hA b1=>?_) ⟨rfl,rfl,rfl⟩ b1 λl2 σ2 hA2 b2=>?_
 ·have hi:i<(Txt.split x ⟨#[10]⟩).length:=(lq2 hln).1
  have hcol:=ft.col ln (List.mem_of_getElem? hln);refine⟨B9 l 5 (.str ln),rfl,As (Bk (A8 (A1 hA.2.1) rfl rfl)) (Al (Ad.mpr (Aa (A2 rfl rfl) ?_)))⟩
  refine Cm (α:=Nat) (xs:=cl ln) (e:=Wa) (λj l=>l 0=some (.ref kb)/\l 2=some (.int (q.w:Int))/\l 4=some (.int ((q.n+2+i:Nat):Int))/\l 6=some (.int ((q.w+2+j:Nat):Int))) (λj c B=>D0 B (q.n+2+i) (q.w+2+j) c) (λ_ _ _=>trivial) (λj c hc l3 σ3 B3 hA3 b3=>?_) ⟨hA.1,hA.2.1,hA.2.2,rfl⟩ b1 λl3 σ3 hA3 b3=>?_
  ·have hj:j<ln.length:=by rw[←Bz];exact(lq2 hc).1
   refine⟨B9 l3 7 (Wa c),rfl,As (Df b3 (c:=c) (y:=q.n+2+i) (x:=q.w+2+j) (by exact Bw λZ=>A5 [_,_,_,_] [A9 x0 (.a (.a x1 (.n 2)) x2),A9 (.a (.a x1 (.n 2)) x3) x0,A7 x2 x3] rT Z hrow hi) (by exact Bw λZ=>A5 [_,_,_,_] [A9 x0 (.a (.a x1 (.n 2)) x2),A9 (.a (.a x1 (.n 2)) x3) x0,A7 x2 x3] rT Z hcol hj) rfl (A1 hA3.1) (A1 hA3.2.2.1) rfl (A1 hA3.2.2.2) rfl) ?_⟩
   refine As (Bk (A8 (A1 hA3.2.2.2) rfl rfl)) (Aa rfl ⟨rfl,⟨hA3.1,hA3.2.1,hA3.2.2.1,?_⟩,b3.put (by exact Bw λZ=>A5 [_,_,_,_] [A9 x0 (.a (.a x1 (.n 2)) x2),A9 (.a (.a x1 (.n 2)) x3) x0,A7 x2 x3] rT Z hrow hi)⟩)
   show some (D.int (((q.w+2+j:Nat):Int)+1))=_
   congr 2
  ·refine As (Bk (A8 (A1 hA3.2.2.1) rfl rfl)) (Aa rfl ⟨rfl,⟨hA3.1,hA3.2.1,?_⟩,b1.trans b3⟩)
   show some (D.int (((q.n+2+i:Nat):Int)+1))=_
   congr 2
 ·exact Aa rfl (hQ _ (b1.trans b2))
end
end
section
open Builtin.Str
theorem Ka{k:Nat}{i:Int}{ds:List D}{S:St}(hk:S.sto[k]? =some (.list ds)) (h0:0<=i) (h1:i<2 ^ 62) (h2:ds.length*i.toNat<=16777216):De (.ref k) (.int i) S=.ok (.ref S.sto.length) ⟨S.loc,S.sto++[.list (L6 i ds)]⟩:=by
 have hi:E5 i=true:=E3.mpr ⟨by exact Bi λZ=>Ac [_] [A7 x0 (.s (.n 0) (.n 9223372036854775808)),A9 (.n 0) x0] rT Z h0,by exact Dq λZ=>Ac [_] [A9 (.n 9223372036854775808) x0,A7 x0 (.n 4611686018427387904)] rT Z h1⟩
 unfold De;dsimp only;rw[hk];exact if_pos ⟨hi,h2⟩
theorem Kb{w:Nat}{d:D}:L6 (w:Int) [d]=List.replicate w d:=by
 unfold L6;rw[Int.toNat_natCast]
 induction w with
 |zero=>rfl
 |succ w ih=>rw[List.replicate_succ,List.flatten_cons,ih];rfl
theorem V2{w:Nat}:L6 (w:Int) [D.str (sO " ")]=Hb (λ_=>32) w:=by
 rw[Kb];refine List.ext_getElem (by rw[List.length_replicate,G0]) λj h1 h2=>?_
 rw[List.getElem_replicate,Ku];rfl
noncomputable def Nz (w:Nat):Nat->Bp
 |0=>[]
 |i+1=>Nz w i++[.list [D.str (sO " ")],.list (Hb (λ_=>32) w)]
theorem Fq{w:Nat}:∀i,(Nz w i).length=2*i
 |0=>rfl
 |i+1=>by show(Nz w i++_).length=_;rw[lq7,Fq i];rfl
theorem Wo{w:Nat}:∀{i j:Nat},j<i->(Nz w i)[2*j+1]? =some (.list (Hb (λ_=>32) w))
 |0,j,h=>absurd h (Nat.not_lt_zero _)
 |i+1,j,h=>by
  show(Nz w i++_)[2*j+1]? =_
  by_cases z:j<i
  ·rw[List.getElem?_append_left (by rw[Fq];exact Bw λZ=>A5 [_,_] [A9 (.m 2 x1) (.a (.m 2 x0) (.n 1)),zEY 2 x0 x1] rT Z z)];exact Wo z
  ·obtain rfl:j=i:=by exact Gw (λZ=>A5 [_,_] [A7 x0 x1,A9 x1 x0] rT Z (Nat.not_lt.mp z)) (λZ=>A5 [_,_] [A7 x1 x0,A7 x0 (.a x1 (.n 1))] rT Z h)
   rw[List.getElem?_append_right (by rw[Fq];exact Ar λZ=>A5 [_] [A7 (.a (.m 2 x0) (.n 1)) (.m 2 x0)] rT Z),Fq,show 2*j+1 - 2*j=1 by exact Gw (λZ=>A5 [_,_] [A7 x0 (.n 1),A9 (.a (.m 2 x1) (.n 1)) (.a x0 (.m 2 x1))] rT Z (Bh _ _)) (λZ=>A5 [_,_] [A7 (.n 1) x0,B0 (.a x0 (.m 2 x1)) (.a (.m 2 x1) (.n 1))] rT Z (B8 (Ar λY=>A5 [_] [A7 (.a (.m 2 x0) (.n 1)) (.m 2 x0)] rT Y)))];rfl
section
variable {v w:Nat}{mw:Mn D}{σ:Bp}{A:Be->Prop}
theorem Lp(hw:w<=100000) (hmw:∀(l:Be) (j:Bp),A l->mw ⟨l,σ++j⟩=.ok (.int (w:Int)) ⟨l,σ++j⟩) (hA:∀l d,A l->A (B9 l v d)):∀(m i:Nat) (acc:List D) (ds:List D) (l:Be),ds.length=m->A l->∃l',
  Ea (Aj v) (λ_=>True) (ret1 true) (Ab De (D1 (A6 (ret1 (.str (sO " "))) Ai)) mw) ds acc ⟨l,σ++Nz w i⟩=.ok (acc++(List.range' i m).map λi=>D.ref (σ.length+2*i+1)) ⟨l',σ++Nz w (i+m)⟩
 |0,i,acc,ds,l,hd,_=>by
  rw[List.eq_nil_of_length_eq_zero hd,Gm,if_pos trivial];exact⟨l,by simp⟩
 |m+1,i,acc,ds,l,hd,hl=>by
  cases ds with
  |nil=>cases hd
  |cons d ds=>
   have e1:Ab De (D1 (A6 (ret1 (.str (sO " "))) Ai)) mw ⟨B9 l v d,σ++Nz w i⟩=.ok (.ref (σ.length+2*i+1)) ⟨B9 l v d,σ++Nz w (i+1)⟩:=by
    refine A8 (st1:=⟨B9 l v d,σ++(Nz w i++[.list [D.str (sO " ")]])⟩) (a:=.ref (σ++Nz w i).length) (by rw[←lq8];rfl) (hmw _ _ (hA _ _ hl)) ?_
    rw[Ka (ds:=[D.str (sO " ")]) (by show(σ++(Nz w i++[PO.list [D.str (sO " ")]]))[(σ++Nz w i).length]? =_;rw[←lq8];exact lq3) (by exact Bi λZ=>Ac [_] [A7 x0 (.n 0),A9 (.n 0) x0] rT Z (Az _)) (by exact Dq λZ=>Ac [_] [A9 (.n 4611686018427387904) x0,A9 x0 (.n 100000)] rT Z (C5 hw)) (by show 1*_≤_;exact Ar λZ=>A5 [_] [A7 (.n 16777216) (.m 1 x0),A9 x0 (.n 100000)] rT Z hw),V2]
    show Gq.ok (D.ref (σ++(Nz w i++[PO.list [D.str (sO " ")]])).length) (St.mk (B9 l v d) (σ++(Nz w i++[PO.list [D.str (sO " ")]])++[PO.list (Hb (λ_=>32) w)]))=_
    rw[lq7,lq7,Fq,lq8,lq8];rfl
   obtain⟨l',e2⟩:=Lp hw hmw hA m (i+1) (acc++[.ref (σ.length+2*i+1)]) ds (B9 l v d) (by simpa using hd) (hA _ _ hl)
   refine⟨l',?_⟩
   rw[Cv,if_pos trivial];show(match Ab De (D1 (A6 (ret1 (.str (sO " "))) Ai)) mw ⟨B9 l v d,σ++Nz w i⟩with|.ok x st''=>Ea _ _ _ _ ds (acc++[x]) st''|.exc c st''=>.exc c st''|.bot=>.bot)=_
   rw[e1];dsimp only;rw[e2,List.range'_succ,List.map_cons,lq8,show i+1+m=i+(m+1)by exact Gw (λZ=>A5 [_,_] [A7 (.a (.a x1 (.n 1)) x0) (.a x1 (.a x0 (.n 1)))] rT Z) (λZ=>A5 [_,_] [A7 (.a x1 (.a x0 (.n 1))) (.a (.a x1 (.n 1)) x0)] rT Z)];rfl
theorem Og{h:Nat}{cls:List Nat}{loc:Be}{ds:List D}(hd:ds.length=h) (hh:h<=100000) (hw:w<=100000) (hmw:∀(l:Be) (j:Bp),A l->mw ⟨l,σ++j⟩=.ok (.int (w:Int)) ⟨l,σ++j⟩) (hA:∀l d,A l->A (B9 l v d)) (hl:A (G8 cls loc)):
  Bm cls (Aj v) (ret1 true) (Ab De (D1 (A6 (ret1 (.str (sO " "))) Ai)) mw) ⟨ds,λ_=>True⟩ ⟨loc,σ⟩=.ok (.ref (σ.length+2*h)) ⟨loc,σ++Nz w h++[.list (Kq σ.length h)]⟩:=by
 have hsl:(100000:Nat)<=sizeLine:=by decide
 obtain⟨l',e⟩:=Lp hw hmw hA h 0 [] ds (G8 cls loc) hd hl
 rw[show σ++Nz w 0=σ from List.append_nil σ]at e
 unfold Bm;rw[if_pos (by show ds.length<=_;exact Ar λZ=>A5 [_,_,_] [A7 x1 x0,B0 x0 x2,A9 x2 (.n 100000),A9 (.n 100000) x1] rT Z hd hh hsl)]
 dsimp only;rw[e];dsimp only;rw[lq7,Fq,Nat.zero_add,List.nil_append,←List.range_eq_range'];rfl
theorem Qf{h:Nat}(hh:h<=100000) (hw:w<=100000):Bd σ.length h w (σ.length+2*h) (λ_ _=>32) σ (σ++Nz w h++[.list (Kq σ.length h)]):=by
 refine⟨⟨hh,hw⟩,by simp,?_,λi hi=>?_,λi hi=>by exactλZ=>A5 [_,_,_] [B0 (.a x2 (.m 2 x0)) (.a (.a x2 (.m 2 x1)) (.n 1)),zEY 2 x1 x0] rT Z hi,λk o e _=>?_⟩
 ·rw[List.getElem?_append_right (by rw[lq7,Fq];exact Nat.le_refl _),lq7,Fq,Nat.sub_self];rfl
 ·rw[lq8,List.getElem?_append_right (by exact Ar λZ=>A5 [_,_] [A7 (.a (.a x1 (.m 2 x0)) (.n 1)) x1,Rx 2 (.n 0) x0] rT Z (lq5 _)),List.getElem?_append_left (by rw[Fq];exact Bw λZ=>A5 [_,_,_,_] [A9 (.m 2 x0) x1,zEY 2 x2 x0,B0 (.a x1 x3) (.a (.a x3 (.m 2 x2)) (.n 1))] rT Z hi (B8 (Ar λY=>A5 [_,_] [A7 (.a (.a x1 (.m 2 x0)) (.n 1)) x1,Rx 2 (.n 0) x0] rT Y (lq5 _)))),show σ.length+2*i+1 - σ.length=2*i+1 by exact Gw (λZ=>A5 [_,_,_] [A7 x1 (.a (.m 2 x0) (.n 1)),A9 (.a (.a x2 (.m 2 x0)) (.n 1)) (.a x1 x2)] rT Z (Bh _ _)) (λZ=>A5 [_,_,_] [A7 (.a (.m 2 x0) (.n 1)) x1,B0 (.a x1 x2) (.a (.a x2 (.m 2 x0)) (.n 1))] rT Z (B8 (Ar λY=>A5 [_,_] [A7 (.a (.a x1 (.m 2 x0)) (.n 1)) x1,Rx 2 (.n 0) x0] rT Y (lq5 _))))]
  exact Wo hi
 ·rw[lq8];exact(Ct.app _ _).get e
end
noncomputable def Jf (h w:Nat) (B:Bo):List (List Nat):=(List.range h).map λi=>(List.range w).map (B i)
theorem Z6{f:Nat->Nat}{w:Nat}:Hr (Hb f w)=some ((List.range w).map λx=>⟨#[f x]⟩):=by
 have:Hb f w=((List.range w).map λx=>(⟨#[f x]⟩:Str)).map D.str:=by unfold Hb;rw[List.map_map];rfl
 rw[this];exact H3 _
theorem Rt{f:Nat->Nat}{w:Nat}:cl (Str.join ⟨#[]⟩ ((List.range w).map λx=>⟨#[f x]⟩))=(List.range w).map f:=by
 rw[Nl,List.map_map];generalize List.range w=l
 induction l with
 |nil=>rfl
 |cons a l ih=>rw[List.map_cons,List.flatten_cons,ih];rfl
theorem Tk{n h w kb v ib:Nat}{B:Bo}{σ0 σ:Bp}(b:Bd n h w kb B σ0 σ) (hz:h*w+h<=16777216){loc:Be}(hl:loc ib=some (.ref kb)){Q:D->St->Prop}(hQ:∀x j,cl x=Db 10 (Jf h w B)->Q (.str x) ⟨loc,σ++j⟩):
  W (bnd (ret1 (.str (sO "\n"))) (El λx=>bnd (A6 (bnd (bnd (A0 ib) Ba) (Bm [v] (Aj v) (ret1 true) (bnd (ret1 (.str (Str.ofString ""))) (El λx=>bnd (A6 (A0 v) Ai) (Dw x))))) Ai) (Dw x))) ⟨loc,σ⟩ Q:=by
 have hsl:(100000:Nat)<=sizeLine:=by decide
 have wd:=b.wd;refine Ad.mpr (Aa rfl (Ad.mpr (Ad.mpr (Ad.mpr (Aa (A2 (A1 hl) (Ax (E2.mpr ⟨_,b.kbd,rfl,rfl⟩))) ?_)))))
 refine F1 (λ_=>true) (λd x _=>∀i,d=.ref (n+2*i+1)->x=D.str (Str.join ⟨#[]⟩ ((List.range w).map λj=>⟨#[B i j]⟩))) (λ_=>True) (by show(Kq n h).length<=_;rw[Mx];exact Ar λZ=>A5 [_,_] [A7 x1 x0,A9 (.n 100000) x1,A9 x0 (.n 100000)] rT Z hsl wd.1) (λ_ _ _ _ _ h=>h) (λσ' hx=>hx.get b.kbd) trivial (λd hd l σ' _ hx=>?_) λxs σ' hx r=>?_
 ·obtain⟨i,mi,rfl⟩:=List.mem_map.mp hd;have hi:=List.mem_range.mp mi;refine⟨B9 l v (.ref (n+2*i+1)),rfl,trivial,Aa rfl ⟨rfl,rfl,.refl _,λ_=>?_⟩⟩
  refine Ad.mpr (Aa rfl (Ad.mpr (Aa (A2 (A1 (by show B9 l v _ v=_;unfold B9;rw[if_pos rfl])) rfl) (Pl.mpr ⟨_,_,hx.get (b.row i hi),Z6,Ih (B:=1) (λy m=>?_) ?_,rfl,.refl _,λi' e=>?_⟩))))
  ·obtain⟨j,_,rfl⟩:=List.mem_map.mp m;exact Nat.le_refl _
  ·rw[lq6,List.length_range];show w*1+w*0<=_
   omega
  ·have:n+2*i+1=n+2*i'+1:=by injection e
   obtain rfl:i=i':=by exact Gw (λZ=>A5 [_,_,_] [zEY 2 x0 x1,Cg (.a (.a x2 (.m 2 x0)) (.n 1)) (.a (.a x2 (.m 2 x1)) (.n 1))] rT Z this) (λZ=>A5 [_,_,_] [zEY 2 x1 x0,B0 (.a (.a x2 (.m 2 x0)) (.n 1)) (.a (.a x2 (.m 2 x1)) (.n 1))] rT Z this)
   rfl
 ·rw[D6]at r;have e:xs=((List.range h).map λi=>Str.join ⟨#[]⟩ ((List.range w).map λj=>⟨#[B i j]⟩)).map D.str:=by
   rw[List.map_map];have:∀(l:List Nat) (xs:List D),Bs (λx d=>∀i,d=D.ref (n+2*i+1)->x=D.str (Str.join ⟨#[]⟩ ((List.range w).map λj=>⟨#[B i j]⟩))) xs (l.map λi=>D.ref (n+2*i+1))->xs=l.map (D.str∘λi=>Str.join ⟨#[]⟩ ((List.range w).map λj=>⟨#[B i j]⟩)):=by
    intro l
    induction l with
    |nil=>intro xs r;cases r;rfl
    |cons a l ih=>
     intro xs r
     cases r with
     |cons r rs=>rw[List.map_cons,ih _ rs,r a rfl];rfl
   exact this _ _ r
  subst e;obtain⟨j,rfl⟩:=hx;refine Aa rfl (Pl.mpr ⟨_,_,lq3,H3 _,Ih (B:=w) (λy m=>?_) ?_,?_⟩)
  ·obtain⟨i,_,rfl⟩:=List.mem_map.mp m;rw[←Bz,Rt,lq6,List.length_range];exact Nat.le_refl _
  ·rw[lq6,List.length_range];show h*w+h*1<=_
   omega
  ·have:=hQ (Str.join ⟨#[10]⟩ ((List.range h).map λi=>Str.join ⟨#[]⟩ ((List.range w).map λj=>⟨#[B i j]⟩))) (j++[.list (((List.range h).map λi=>Str.join ⟨#[]⟩ ((List.range w).map λj=>⟨#[B i j]⟩)).map D.str)]) (by
    rw[K9,List.map_map];congr 1
    unfold Jf;exact List.map_congr_left λi _=>Rt)
   rw[←lq8]at this;exact this
end
section
open Builtin.Str
noncomputable def rm (w:Bool) (x:Str):Int:=3+bif w then Qc x else zEB x
noncomputable def M3 (w:Bool) (c:Cn):Sp:=((lo w c:Int),(hi w c:Int),rm w c.x)
theorem Tr{a b:Cn}(h:Cs a=Cs b):a=b:=by
 obtain⟨a1,a2,a3,a4,a5⟩:=a;obtain⟨b1,b2,b3,b4,b5⟩:=b;unfold Cs at h;injection h with e1
 injection e1 with q1 e1
 injection e1 with q2 e1
 injection e1 with q3 e1
 injection e1 with q4 e1
 injection e1 with q5 _
 injection q1 with q1
 injection q2 with q2
 injection q3 with q3
 injection q4 with q4
 injection q5 with q5
 simp only at q1 q2 q3 q4 q5
 obtain rfl:a1=b1:=by exact Iq (Gh (λZ=>Ac [_,_] [A7 x0 x1,Cg x0 x1] rT Z q1) (λZ=>Ac [_,_] [A7 x1 x0,B0 x0 x1] rT Z q1))
 obtain rfl:a2=b2:=by exact Iq (Gh (λZ=>Ac [_,_] [A7 x0 x1,Cg x0 x1] rT Z q2) (λZ=>Ac [_,_] [A7 x1 x0,B0 x0 x1] rT Z q2))
 obtain rfl:a3=b3:=by exact Iq (Gh (λZ=>Ac [_,_,_] [A7 x0 x1,Cg (.s x0 x2) (.s x1 x2)] rT Z q3) (λZ=>Ac [_,_,_] [A7 x1 x0,B0 (.s x0 x2) (.s x1 x2)] rT Z q3))
 obtain rfl:a4=b4:=by exact Iq (Gh (λZ=>Ac [_,_,_] [A7 x0 x1,Cg (.s x0 x2) (.s x1 x2)] rT Z q4) (λZ=>Ac [_,_,_] [A7 x1 x0,B0 (.s x0 x2) (.s x1 x2)] rT Z q4))
 rw[q5]
theorem U0{w:Bool}{N:Nat}{me ix:Mn D}{R C:Int}(hN:N<=60){cs:List Cn}(hcl:cs.length<=400) (hok:Ng (cs.map (M3 w))){kt:Nat}{st:St}{Q:Fl->St->Prop}(hk:st.sto[kt]? =some (.list (cs.map Cs))) (h0:st.loc 0=some (.tup [.int R,.int C,.ref kt]))
  (hme:∀c l σ,c∈cs->W me ⟨B9 l 2 (Cs c),σ⟩ λx s=>x=zEb (M3 w c)/\∃j,s=⟨B9 l 2 (Cs c),σ++j⟩) (hix:∀l σ,l 0=some (.tup [.int R,.int C,.ref kt])->ix ⟨l,σ⟩=.ok (.int N) ⟨l,σ⟩)
  (hQ:∀F l j,Bf (cs.map (M3 w)) F->F.length=N+1->Q (.ret (.ref (st.sto++j).length)) ⟨l,st.sto++j++[.list (F.map D.int)]⟩):
  W (Ae (bnd (bnd (bnd (Ab Ag (A0 0) (ret1 (.int 2))) Ba) (Bm [2] (Aj 2) (ret1 true) me)) (Af 1)) (Ae (E1 (bnd (A6 ix (A6 (A0 1) Ai)) Ii)) (ret1 .next))) st Q:=by
 have hsl:(1000:Nat)<=sizeLine:=by decide
 refine Al (Ad.mpr (Ad.mpr (Aa (A2 (A8 (A1 h0) rfl rfl) (Ax (E2.mpr ⟨_,hk,rfl,rfl⟩))) ?_)))
 refine F1 (λ_=>true) (λd x _=>∀c,d=Cs c->x=zEb (M3 w c)) (λ_=>True) (by show(cs.map Cs).length<=_;rw[lq6];exact Ar λZ=>A5 [_,_] [A7 x1 x0,A9 x0 (.n 400),A9 (.n 1000) x1] rT Z hcl hsl) (λ_ _ _ _ _ h=>h) (λσ' hx=>hx.get hk) trivial (λd hd l σ' _ hx=>?_) λxs σ' hx r=>?_
 ·obtain⟨c,mc,rfl⟩:=List.mem_map.mp hd;refine⟨B9 l 2 (Cs c),rfl,trivial,Aa rfl ⟨rfl,rfl,.refl _,λ_=>(hme c l σ' mc).mono ?_⟩⟩
  rintro x _ ⟨rfl,j,rfl⟩
  exact⟨rfl,.app _ _,λc' e=>by rw[Tr e]⟩
 ·rw[D6]at r;obtain⟨j,rfl⟩:=hx;have e:=F9 (f:=Cs) (g:=λc=>zEb (M3 w c)) r
  refine Aa rfl (Al (Ad.mpr (Ad.mpr (Aa (A2 (hix _ _ h0) rfl) (zBi (n:=N) (sp:=cs.map (M3 w)) (by exact Ar λZ=>A5 [_] [A7 (.n 100) x0,A9 x0 (.n 60)] rT Z hN) (by rw[e,List.map_map];exact lq3) hok λF hF hl=>Aa rfl ?_)))))
  have:=hQ F (B9 st.loc 1 (.ref (st.sto++j).length)) (j++[.list xs]) hF hl
  rw[←lq8]at this;exact this
theorem Wl{R:Int}{C:Nat}(hC:C<=60){cs:List Cn}(hcl:cs.length<=400) (hok:Ng (cs.map (M3 true))) (tx:∀c,c∈cs->c.x.length<=1000){kt:Nat}{st:St}{Q:D->St->Prop}(hk:st.sto[kt]? =some (.list (cs.map Cs)))
  (hQ:∀F j,Bf (cs.map (M3 true)) F->F.length=C+1->Q (.ref (st.sto++j).length) ⟨st.loc,st.sto++j++[.list (F.map D.int)]⟩):W (Hy [.tup [.int R,.int (C:Int),.ref kt]]) st Q:=by
 refine Cy rfl (U0 (w:=true) (R:=R) (C:=C) hC hcl hok hk rfl (λc l σ mc=>?_) (λl σ h=>A8 (A1 h) rfl rfl) λF l j hF hl=>hQ F j hF hl)
 refine Ad.mpr (Ad.mpr (Aa rfl (Ad.mpr (Ad.mpr (Aa rfl (Ad.mpr (Ad.mpr (Jw (Aa rfl ?_)))))))))
 refine Ad.mpr (Aa rfl (W2 (tx c mc) λj=>Ot.mpr (Aa rfl ?_)))
 refine Aa rfl (Aa rfl (Aa rfl ⟨?_,j,rfl⟩))
 show D.tup [.int (c.l:Int),.int ((c.l:Int)+((c.r:Int) - c.l)),.int (3+Qc c.x)]=D.tup [.int (c.l:Int),.int (c.r:Int),.int (3+Qc c.x)]
 rw[show(c.l:Int)+((c.r:Int) - c.l)=c.r by exact Gh (λZ=>Ac [_,_] [A7 (.a x0 (.s x1 x0)) x1] rT Z) (λZ=>Ac [_,_] [A7 x1 (.a x0 (.s x1 x0))] rT Z)]
theorem zEM{R:Nat}{C:Int}(hR:R<=60){cs:List Cn}(hcl:cs.length<=400) (hok:Ng (cs.map (M3 false))) (tx:∀c,c∈cs->c.x.length<=1000){kt:Nat}{st:St}{Q:D->St->Prop}(hk:st.sto[kt]? =some (.list (cs.map Cs)))
  (hQ:∀F j,Bf (cs.map (M3 false)) F->F.length=R+1->Q (.ref (st.sto++j).length) ⟨st.loc,st.sto++j++[.list (F.map D.int)]⟩):W (N8 [.tup [.int (R:Int),.int C,.ref kt]]) st Q:=by
 refine Cy rfl (U0 (w:=false) (R:=R) (C:=C) hR hcl hok hk rfl (λc l σ mc=>?_) (λl σ h=>A8 (A1 h) rfl rfl) λF l j hF hl=>hQ F j hF hl)
 have hsl:(2000:Nat)<=sizeLine:=by decide
 have htx:=tx c mc;have hss:=Hv (x:=c.x);refine Ad.mpr (Ad.mpr (Aa rfl (Ad.mpr (Ad.mpr (Aa rfl (Ad.mpr (Ad.mpr (Jw (Aa rfl ?_)))))))))
 refine Ad.mpr (Ad.mpr (Ad.mpr (Aa rfl (Jq (x:=c.x) (by exact Ar λZ=>A5 [_,_] [A7 x0 (.a x1 (.n 2)),A9 (.n 2000) x0,A9 x1 (.n 1000)] rT Z hsl htx) ?_))))
 refine Aa rfl (zAQ.mpr ⟨_,lq3,by rw[lq6];exact Bw λZ=>A5 [_,_] [A9 (.n 4611686018427387904) x0,A9 x1 (.n 1000),A9 x0 (.a x1 (.n 2))] rT Z htx hss,Ot.mpr (Aa rfl ?_)⟩)
 refine Aa rfl (Aa rfl (Aa rfl ⟨?_,_,rfl⟩))
 show D.tup [.int (c.t:Int),.int ((c.t:Int)+((c.b:Int) - c.t)),.int (2+(((Txt.split c.x ⟨#[10]⟩).map D.str).length:Int))]=D.tup [.int (c.t:Int),.int (c.b:Int),.int (3+zEB c.x)]
 have:=Il (x:=c.x)
 rw[show(c.t:Int)+((c.b:Int) - c.t)=c.b by exact Gh (λZ=>Ac [_,_] [A7 (.a x0 (.s x1 x0)) x1] rT Z) (λZ=>Ac [_,_] [A7 x1 (.a x0 (.s x1 x0))] rT Z),lq6]
 unfold zEB;rw[show(2:Int)+((Txt.split c.x ⟨#[10]⟩).length:Int)=3+Txt.count c.x ⟨#[10]⟩by exact Gh (λZ=>Ac [_,_] [A7 (.a (.n 2) x0) (.a (.n 3) x1),Cg x0 (.a x1 (.n 1))] rT Z this) (λZ=>Ac [_,_] [A7 (.a (.n 3) x1) (.a (.n 2) x0),B0 x0 (.a x1 (.n 1))] rT Z this)]
end
section
open Builtin.Str
noncomputable def Jr (Fy Fx:List Int) (c:Cn):Qb:=⟨(Fy.getD c.t 0).toNat,(Fx.getD c.l 0).toNat,(Fy.getD c.b 0).toNat,(Fx.getD c.r 0).toNat⟩
structure U5 (cs:List Cn) (R C:Nat) (Fy Fx:List Int):Prop where
 row:∀c,c∈cs->c.t<c.b/\c.b<=R
 col:∀c,c∈cs->c.l<c.r/\c.r<=C
 tx:∀c,c∈cs->c.x.length<=201
 ly:Bf (cs.map (M3 false)) Fy
 lx:Bf (cs.map (M3 true)) Fx
 ny:Fy.length=R+1
 nx:Fx.length=C+1
 small:R<=20/\C<=20
theorem Nh{w:Bool}{cs:List Cn}(h:∀c,c∈cs->lo w c<hi w c):Ng (cs.map (M3 w)):=λs m=>by
 obtain⟨c,mc,rfl⟩:=List.mem_map.mp m;have:=h c mc
 show(0:Int)<=(lo w c:Int)/\(lo w c:Int)<(hi w c:Int)
 exact⟨Bi λZ=>Ac [_] [A7 x0 (.n 0),A9 (.n 0) x0] rT Z (Az _),Dq λZ=>Ac [_,_] [A9 x1 x0,A7 x0 x1] rT Z (Gi this)⟩
theorem zDX{x:Str}{y:Str}(m:y∈Txt.split x ⟨#[10]⟩):(y.length:Int)<=Qc x:=by
 unfold Qc;have gen:∀(l:List Int) (p:Int),p<=l.foldl max p/\∀v,v∈l->v<=l.foldl max p:=by
  intro l
  induction l with
  |nil=>intro p;exact⟨Int.le_refl _,λ_ m=>nomatch m⟩
  |cons a l ih=>
   intro p;obtain⟨h1,h2⟩:=ih (max p a);rw[List.foldl_cons];refine⟨by omega,λv m=>?_⟩
   rcases List.mem_cons.mp m with rfl|m
   ·omega
   ·exact h2 v m
 exact(gen _ 0).2 _ (List.mem_map.mpr ⟨y,m,rfl⟩)
theorem zET{x:Str}:Qc x<=x.length:=by
 unfold Qc;have gen:∀(l:List Int) (p M:Int),p<=M->(∀v,v∈l->v<=M)->l.foldl max p<=M:=by
  intro l
  induction l with
  |nil=>intro p M h _;exact h
  |cons a l ih=>
   intro p M h h2;exact ih _ _ (by have:=h2 a lq1;omega) λv m=>h2 v (lq4 _ m)
 refine gen _ _ _ (by exact Bi λZ=>Ac [_] [A7 x0 (.n 0),A9 (.n 0) x0] rT Z (Az _)) λv m=>?_
 obtain⟨y,my,rfl⟩:=List.mem_map.mp m;have:=Mm y my
 exact Bi λZ=>Ac [_,_] [A7 x1 x0,A9 x0 x1] rT Z (C5 this)
theorem N7(c:Nat):∀l,(D7 c l).length<=l.length+1
 |[]=>Nat.le_refl _
 |x::r=>by
  have ih:=N7 c r;rw[Jz];by_cases h:x=c
  ·rw[if_pos h,List.length_cons,List.length_cons];exact Ar λZ=>A5 [_,_] [A7 (.a (.a x1 (.n 1)) (.n 1)) (.a x0 (.n 1)),A9 x0 (.a x1 (.n 1))] rT Z ih
  ·rw[if_neg h]
   cases e:D7 c r with
   |nil=>exact absurd e (Ft c r)
   |cons a s=>rw[e,List.length_cons]at ih;dsimp only;rw[List.length_cons,List.length_cons];exact Ar λZ=>A5 [_,_] [A7 (.a (.a x1 (.n 1)) (.n 1)) (.a x0 (.n 1)),A9 (.a x0 (.n 1)) (.a x1 (.n 1))] rT Z ih
theorem Zn{x:Str}:(Txt.split x ⟨#[10]⟩).length<=x.length+1:=by
 have:=N7 10 (cl x)
 rw[←Rq,lq6,Bz]at this;exact this
section
variable {cs:List Cn}{R C:Nat}{Fy Fx:List Int}
theorem Fo{sp:List Sp}{F:List Int}(L:Bf sp F){k:Nat}(h:k<F.length):F.getD k 0=((F.getD k 0).toNat:Int):=by
 have:=L.mono (i:=0) (j:=k) (lq5 _) h
 rw[L.at0]at this;exact Gh (λZ=>Ac [_,_] [A7 x0 x1,B0 x1 x0] rT Z (Ch (Bi λY=>Ac [_,_] [A7 x0 (.n 0),A9 (.a (.n 0) (.m 2 (.s x1 (.n 0)))) x0,Rx 2 (.n 0) x1] rT Y this (Az _)))) (λZ=>Ac [_,_] [A7 x1 x0,A9 x0 x1] rT Z (G6 _))
theorem Nu{sp:List Sp}{F:List Int}(L:Bf sp F){i j:Nat}(h:i<=j) (h2:j<F.length):(F.getD i 0).toNat+2*(j - i)<=(F.getD j 0).toNat:=by
 have h1:=L.mono h h2;have h3:=Fo L h2;have h4:=Fo L (k:=i) (by exact Bw λZ=>A5 [_,_,_] [A9 x1 x0,A9 x0 x2,A7 x2 x1] rT Z h h2)
 exact Hj (Bi λZ=>Ac [(↑(F.getD j 0).toNat),(↑(F.getD i 0).toNat),(↑(j - i)),(↑i),(↑j),(F.getD i 0),(F.getD j 0)] [A7 x0 (.a x1 (.m 2 x2)),A9 (.a x5 (.m 2 (.s x4 x3))) x6,B0 x6 x0,Cg x5 x1,zG8 2 (.a x2 x3) x4] rT Z h1 h3 h4 (J5 (Bi λY=>Ac [(↑i),(↑j)] [A7 x1 x0,A9 x0 x1] rT Y (C5 h))))
theorem U5.box(g:U5 cs R C Fy Fx){c:Cn}(m:c∈cs):((Jr Fy Fx c).n<(Jr Fy Fx c).s/\(Jr Fy Fx c).w<(Jr Fy Fx c).e)/\(Jr Fy Fx c).s<=(Fy.getD R 0).toNat/\(Jr Fy Fx c).e<=(Fx.getD C 0).toNat:=by
 have h1:=g.row c m;have h2:=g.col c m;have n1:=g.ny;have n2:=g.nx;have a1:=Nu g.ly (i:=c.t) (j:=c.b) (by exact Ar λZ=>A5 [_,_] [A7 x1 x0,A7 x0 x1] rT Z h1.1) (by exact Bw λZ=>A5 [_,_,_] [A9 x1 x0,A9 x0 x2,Cg x1 (.a x2 (.n 1))] rT Z h1.2 n1)
 have a2:=Nu g.ly (i:=c.b) (j:=R) (by exact Ar λZ=>A5 [_,_] [A7 x1 x0,A9 x0 x1] rT Z h1.2) (by exact Bw λZ=>A5 [_,_] [A9 x1 x0,Cg x1 (.a x0 (.n 1))] rT Z n1)
 have a3:=Nu g.lx (i:=c.l) (j:=c.r) (by exact Ar λZ=>A5 [_,_] [A7 x1 x0,A7 x0 x1] rT Z h2.1) (by exact Bw λZ=>A5 [_,_,_] [A9 x1 x0,A9 x0 x2,Cg x1 (.a x2 (.n 1))] rT Z h2.2 n2)
 have a4:=Nu g.lx (i:=c.r) (j:=C) (by exact Ar λZ=>A5 [_,_] [A7 x1 x0,A9 x0 x1] rT Z h2.2) (by exact Bw λZ=>A5 [_,_] [A9 x1 x0,Cg x1 (.a x0 (.n 1))] rT Z n2)
 show((Fy.getD c.t 0).toNat<(Fy.getD c.b 0).toNat/\(Fx.getD c.l 0).toNat<(Fx.getD c.r 0).toNat)/\(Fy.getD c.b 0).toNat<=_/\(Fx.getD c.r 0).toNat<=_
 exact⟨⟨Bw λZ=>A5 [_,_,_,_,_] [A9 x1 x0,zEY 2 x2 x3,A9 (.a x0 (.m 2 x4)) x1,Rx 2 x3 (.a x4 x2)] rT Z h1.1 a1 (Bh _ _),Bw λZ=>A5 [_,_,_,_,_] [A9 x1 x0,zEY 2 x2 x3,A9 (.a x0 (.m 2 x4)) x1,Rx 2 x3 (.a x4 x2)] rT Z h2.1 a3 (Bh _ _)⟩,⟨Ar λZ=>A5 [_,_,_] [A7 x1 x0,A9 (.a x0 (.m 2 x2)) x1,Rx 2 (.n 0) x2] rT Z a2 (lq5 _),Ar λZ=>A5 [_,_,_] [A7 x1 x0,A9 (.a x0 (.m 2 x2)) x1,Rx 2 (.n 0) x2] rT Z a4 (lq5 _)⟩⟩
theorem U5.fits(g:U5 cs R C Fy Fx){c:Cn}(m:c∈cs):zBB (Jr Fy Fx c) c.x ((Fy.getD R 0).toNat+1) ((Fx.getD C 0).toNat+1):=by
 have h1:=g.row c m;have h2:=g.col c m;have n1:=g.ny;have n2:=g.nx;have hb:=(g.box m).2;have ht:=g.tx c m;have r1:Fy.getD c.t 0+(3+zEB c.x)<=Fy.getD c.b 0:=g.ly.room (s:=M3 false c) (k:=c.b) (List.mem_map.mpr ⟨c,m,rfl⟩) rfl (by exact Ar λZ=>A5 [_,_] [A7 x0 (.n 1),A7 x1 x0,A9 (.n 0) x1] rT Z h1.1 (lq5 _)) (by exact Bw λZ=>A5 [_,_,_] [A9 x1 x0,A9 x0 x2,Cg x1 (.a x2 (.n 1))] rT Z h1.2 n1)
 have r2:Fx.getD c.l 0+(3+Qc c.x)<=Fx.getD c.r 0:=g.lx.room (s:=M3 true c) (k:=c.r) (List.mem_map.mpr ⟨c,m,rfl⟩) rfl (by exact Ar λZ=>A5 [_,_] [A7 x0 (.n 1),A7 x1 x0,A9 (.n 0) x1] rT Z h2.1 (lq5 _)) (by exact Bw λZ=>A5 [_,_,_] [A9 x1 x0,A9 x0 x2,Cg x1 (.a x2 (.n 1))] rT Z h2.2 n2)
 have y1:=Fo g.ly (k:=c.t) (by exact Bw λZ=>A5 [_,_,_,_] [A9 x1 x0,A7 x0 x2,A9 x2 x3,Cg x1 (.a x3 (.n 1))] rT Z h1.1 h1.2 n1)
 have y2:=Fo g.ly (k:=c.b) (by exact Bw λZ=>A5 [_,_,_] [A9 x1 x0,A9 x0 x2,Cg x1 (.a x2 (.n 1))] rT Z h1.2 n1)
 have x1:=Fo g.lx (k:=c.l) (by exact Bw λZ=>A5 [_,_,_,_] [A9 x1 x0,A7 x0 x2,A9 x2 x3,Cg x1 (.a x3 (.n 1))] rT Z h2.1 h2.2 n2)
 have x2:=Fo g.lx (k:=c.r) (by omega);have sl:=Il (x:=c.x);have e1:(Jr Fy Fx c).s=(Fy.getD c.b 0).toNat:=rfl
 have e2:(Jr Fy Fx c).n=(Fy.getD c.t 0).toNat:=rfl
 have e3:(Jr Fy Fx c).e=(Fx.getD c.r 0).toNat:=rfl
 have e4:(Jr Fy Fx c).w=(Fx.getD c.l 0).toNat:=rfl
 unfold zEB at r1;refine⟨by omega,by omega,λy my=>?_⟩
 have:=zDX my
 omega
theorem U5.size(g:U5 cs R C Fy Fx):(Fy.getD R 0).toNat<=4080/\(Fx.getD C 0).toNat<=4080:=by
 have n1:=g.ny;have n2:=g.nx;have hs:=g.small;have b1:=g.ly.bound (Nh λc m=>(g.row c m).1) (M:=204) (by decide) (λs m=>by
  obtain⟨c,mc,rfl⟩:=List.mem_map.mp m;have:=g.tx c mc
  have h2:=Zn (x:=c.x);have h3:=Il (x:=c.x);show 3+Txt.count c.x ⟨#[10]⟩<=204
  exact Bi λZ=>Ac [_,_,_] [A7 (.n 204) (.a (.n 3) x0),Cg x1 (.a x0 (.n 1)),A9 x2 (.n 201),A9 x1 (.a x2 (.n 1))] rT Z h3 (C5 this) (C5 h2)) R R (Nat.le_refl _) (by exact Bw λZ=>A5 [_,_] [A9 x0 x1,Cg x0 (.a x1 (.n 1))] rT Z n1)
 have b2:=g.lx.bound (Nh λc m=>(g.col c m).1) (M:=204) (by decide) (λs m=>by
  obtain⟨c,mc,rfl⟩:=List.mem_map.mp m;have:=g.tx c mc
  have:=zET (x:=c.x)
  show 3+Qc c.x<=204
  omega) C C (Nat.le_refl _) (by exact Bw λZ=>A5 [_,_] [A9 x0 x1,Cg x0 (.a x1 (.n 1))] rT Z n2)
 omega
end
end
section
open Builtin.Str
noncomputable def qD (q:Qb):D:=.tup [.int (q.n:Int),.int (q.w:Int),.int (q.s:Int),.int (q.e:Int)]
theorem zBs{q:Qb}{B:Bo}:D0 (D0 (D0 (D0 B q.n q.w 43) q.n q.e 43) q.s q.w 43) q.s q.e 43=D8 (S6 q) 43 B:=by
 have e:D0 B q.n q.w 43=D0 (D8 (λ_ _=>False) 43 B) q.n q.w 43:=by rw[Pa]
 rw[e,Fu,Fu,Fu,Fu];refine E7 λy x=>?_
 unfold S6;constructor
 ·rintro((((h|h)|h)|h)|h)
  ·exact h.elim
  ·exact⟨.inl h.1,.inl h.2⟩
  ·exact⟨.inl h.1,.inr h.2⟩
  ·exact⟨.inr h.1,.inl h.2⟩
  ·exact⟨.inr h.1,.inr h.2⟩
 ·rintro⟨h1|h1,h2|h2⟩
  ·exact .inl (.inl (.inl (.inr ⟨h1,h2⟩)))
  ·exact .inl (.inl (.inr ⟨h1,h2⟩))
  ·exact .inl (.inr ⟨h1,h2⟩)
  ·exact .inr ⟨h1,h2⟩
noncomputable def Mz (cs:List Cn) (q:Cn->Qb) (B:Bo):Bo:=cs.foldl (λB c=>R9 (q c) c.x B) B
noncomputable def Xg (cs:List Cn) (q:Cn->Qb):Bo:=
 Mz cs q ((cs.map q).foldl (λB q=>Cu (Qd q) 124 (Cu (M9 q) 45 B)) ((cs.map q).foldl (λB q=>D8 (S6 q) 43 B) λ_ _=>32))
section
variable {cs:List Cn}{R C:Nat}{Fy Fx:List Int}
theorem L9{sp:List Sp}{F:List Int}{k:Nat}{S:St}{i:Int}{x:Nat}(L:Bf sp F) (hk:S.sto[k]? =some (.list (F.map D.int))) (hi:i=x) (hx:x<F.length) (hF:F.length<=100):Ag (.ref k) (.int i) S=.ok (.int ((F.getD x 0).toNat:Int)) S:=by
 subst hi;rw[Fk hk (by exact Bi λZ=>Ac [_] [A7 x0 (.n 0),A9 (.n 0) x0] rT Z (Az _)) (by exact Dq λZ=>Ac [_,_] [A9 x1 x0,A7 x0 x1] rT Z (Gi hx)) (by exact Ar λZ=>A5 [_] [A7 (.n 4611686018427387904) x0,A9 x0 (.n 100)] rT Z hF),Int.toNat_natCast,←Fo L hx]
theorem zBp(g:U5 cs R C Fy Fx){kt kx ky:Nat}{σ:Bp}{loc:Be}{Q:Fl->St->Prop}(hc:cs.length<=400) (h1:σ[kt]? =some (.list (cs.map Cs))) (h2:σ[kx]? =some (.list (Fx.map D.int))) (h3:σ[ky]? =some (.list (Fy.map D.int)))
  {A:Be->Prop}(hA:A loc) (hA1:∀l,A l->l 1=some (.ref kx)/\l 2=some (.ref ky)/\l 4=some (.ref σ.length)) (hA2:∀l a b c d e,A l->A (B9 (B9 (B9 (B9 (B9 l 5 a) 6 b) 7 c) 8 d) 9 e))
  (hQ:∀l,A l->Q .next ⟨l,σ++[.list ((cs.map (Jr Fy Fx)).map qD)]⟩):
  W (Bq (Ga 5 (Ay (Aj 5) (Ay (Aj 6) (Ay (Aj 7) (Ay (Aj 8) (Ay (Aj 9) Dt)))))) (λσ'=>σ'[kt]? =some (.list (cs.map Cs))) (Ae (bnd (bnd (A0 4) (Da λk=>bnd (Ek (A6 (Ab Ag (A0 2) (A0 5)) (A6 (Ab Ag (A0 1) (A0 6)) (A6 (Ab Ag (A0 2) (Ab Ao (A0 5) (A0 7))) (A6 (Ab Ag (A0 1) (Ab Ao (A0 6) (A0 8))) Ai))))) (Bg k))) Dg)
 (ret1 .next)) (cs.map Cs)) ⟨loc,σ++[.list []]⟩ Q:=by
 have hsl:(1000:Nat)<=sizeLine:=by decide
 have n1:=g.ny;have n2:=g.nx;have hs:=g.small;refine Fg (λrem st'=>∃(a b:List Cn),cs=a++b/\rem=b.map Cs/\A st'.loc/\st'.sto=σ++[.list ((a.map (Jr Fy Fx)).map qD)]) ?_ ?_ _ _ ⟨[],cs,rfl,rfl,hA,rfl⟩
 ·rintro d rest ⟨l,σ'⟩ ⟨a,b,hab,hr,hl,hσ⟩
  cases b with
  |nil=>cases hr
  |cons c b=>
   cases hr;have hσ:σ'=_:=hσ
   subst hσ;have mc:c∈cs:=by rw[hab];simp
   have gr:=g.row c mc;have gc:=g.col c mc;have hal:a.length<=400:=by rw[hab,lq7]at hc;exact Ar λZ=>A5 [_,_] [A7 (.n 400) x0,A9 (.a x0 x1) (.n 400),A9 (.n 0) x1] rT Z hc (lq5 _)
   obtain⟨l1,l2,l4⟩:=hA1 l hl;refine⟨(Ct.app _ _).get h1,B9 (B9 (B9 (B9 (B9 l 5 (.int (c.t:Int))) 6 (.int (c.l:Int))) 7 (.int ((c.b:Int) - c.t))) 8 (.int ((c.r:Int) - c.l))) 9 (.str c.x),rfl,?_⟩
   have gx:(σ++[PO.list ((a.map (Jr Fy Fx)).map qD)])[kx]? =some (.list (Fx.map D.int)):=(Ct.app _ _).get h2
   have gy:(σ++[PO.list ((a.map (Jr Fy Fx)).map qD)])[ky]? =some (.list (Fy.map D.int)):=(Ct.app _ _).get h3
   refine As (Hd (v:=qD (Jr Fy Fx c)) (A1 l4) lq3 (by rw[lq6,lq6];exact Ar λZ=>A5 [_,_] [A7 x0 x1,A9 (.n 1000) x0,A9 x1 (.n 400)] rT Z hsl hal) (Ax (Lg.mpr (Aa (a:=[_,_,_,_]) (A2 (A8 (A1 l2) rfl (L9 g.ly gy rfl (by exact Bw λZ=>A5 [_,_,_,_] [A9 x0 x1,Cg x0 (.a x2 (.n 1)),A7 x1 x3,A9 x3 x2] rT Z n1 gr.1 gr.2) (by exact Ar λZ=>A5 [_,_] [A7 (.n 100) x0,B0 x0 (.a x1 (.n 1)),A9 x1 (.n 20)] rT Z n1 hs.1))) (A2 (A2 (A8 (A1 l1) rfl (L9 g.lx gx rfl (by exact Bw λZ=>A5 [_,_,_,_] [A9 x0 x1,Cg x0 (.a x2 (.n 1)),A7 x1 x3,A9 x3 x2] rT Z n2 gc.1 gc.2) (by exact Ar λZ=>A5 [_,_] [A7 (.n 100) x0,B0 x0 (.a x1 (.n 1)),A9 x1 (.n 20)] rT Z n2 hs.2))) (A2 (A2 (A8 (A1 l2) rfl (L9 (x:=c.b) g.ly gy (by exact Gh (λZ=>Ac [_,_] [A7 (.a x0 (.s x1 x0)) x1] rT Z) (λZ=>Ac [_,_] [A7 x1 (.a x0 (.s x1 x0))] rT Z)) (by exact Bw λZ=>A5 [_,_,_] [A9 x0 x1,Cg x0 (.a x2 (.n 1)),A9 x1 x2] rT Z n1 gr.2) (by exact Ar λZ=>A5 [_,_] [A7 (.n 100) x0,B0 x0 (.a x1 (.n 1)),A9 x1 (.n 20)] rT Z n1 hs.1))) (A2 (A2 (A8 (A1 l1) rfl (L9 (x:=c.r) g.lx gx (by exact Gh (λZ=>Ac [_,_] [A7 (.a x0 (.s x1 x0)) x1] rT Z) (λZ=>Ac [_,_] [A7 x1 (.a x0 (.s x1 x0))] rT Z)) (by exact Bw λZ=>A5 [_,_,_] [A9 x0 x1,Cg x0 (.a x2 (.n 1)),A9 x1 x2] rT Z n2 gc.2) (by exact Ar λZ=>A5 [_,_] [A7 (.n 100) x0,B0 x0 (.a x1 (.n 1)),A9 x1 (.n 20)] rT Z n2 hs.2))) rfl) rfl)) rfl)) rfl)) ⟨by show 4<=_;exact Ar λZ=>A5 [_] [A7 x0 (.n 4),A9 (.n 1000) x0] rT Z hsl,rfl,rfl⟩)))) ?_
   refine Aa rfl ⟨a++[c],b,by rw[hab,lq8];rfl,rfl,hA2 _ _ _ _ _ _ hl,?_⟩
   show(σ++[PO.list ((a.map (Jr Fy Fx)).map qD)]).set σ.length _=_
   rw[T7 rfl,List.map_append,List.map_append];rfl
 ·rintro⟨l,σ'⟩ ⟨a,b,hab,hr,hl,hσ⟩
  cases b with
  |cons c b=>cases hr
  |nil=>
   have hσ:σ'=_:=hσ
   subst hσ;rw[List.append_nil]at hab;subst hab;exact⟨(Ct.app _ _).get h1,hQ l hl⟩
noncomputable def Pw:Mn Fl:=(Ae (bnd (bnd (Ek (A6 (A0 10) (A6 (A0 12) Ai))) Ba) λsrc=>Bq (Aj 14) src.g (Ae (Ej Cd (ret1 (.str (sO "+"))) (Ab Ag (A0 3) (A0 14)) (A0 11))
 (Ae (Ej Cd (ret1 (.str (sO "+"))) (Ab Ag (A0 3) (A0 14)) (A0 13))
 (ret1 .next))) src.ds)
 (ret1 .next))
noncomputable def zF3:Mn Fl:=(Ae (bnd (bnd (A6 (A0 3) (A6 (A0 10) (A6 (A0 11) (A6 (A0 12) (A6 (A0 13) Ai))))) E9) Dg)
 (ret1 .next))
noncomputable def zFZ:Mn Fl:=(Ae (bnd (bnd (A6 (A0 3) (A6 (Ab Ag (A0 15) (ret1 (.int 0))) (A6 (Ab Ag (A0 15) (ret1 (.int 1))) (A6 (Ab Ag (A0 16) (ret1 (.int 4))) Ai)))) F8) Dg)
 (ret1 .next))
noncomputable def Nn:Mn Fl:=(Ae (bnd (bnd (A0 4) Ba) λsrc=>Bq (Ga 4 (Ay (Aj 10) (Ay (Aj 11) (Ay (Aj 12) (Ay (Aj 13) Dt))))) src.g Pw src.ds)
 (Ae (bnd (bnd (A0 4) Ba) λsrc=>Bq (Ga 4 (Ay (Aj 10) (Ay (Aj 11) (Ay (Aj 12) (Ay (Aj 13) Dt))))) src.g zF3 src.ds)
 (Ae (bnd (bnd (A6 (A0 4) (A6 (Ab Ag (A0 0) (ret1 (.int 2))) Ai)) M6) λsrc=>Bq (Ga 2 (Ay (Aj 15) (Ay (Aj 16) Dt))) src.g zFZ src.ds)
 (Ae (E1 (bnd (ret1 (.str (sO "\n"))) (El λx=>bnd (A6 (bnd (bnd (A0 3) Ba) (Bm [18] (Aj 18) (ret1 true) (bnd (ret1 (.str (Str.ofString ""))) (El λx=>bnd (A6 (A0 18) Ai) (Dw x))))) Ai) (Dw x))))
 (ret1 .next)))))
noncomputable abbrev Ir (Fy:List Int) (R:Nat):Nat:=(Fy.getD R 0).toNat+1
theorem Zq{q:Qb}{n h w kb:Nat}{B:Bo}{σ0 σ:Bp}(b:Bd n h w kb B σ0 σ) (hs:q.n<q.s/\q.w<q.e) (h1:q.s<h) (h2:q.e<w){loc:Be}{A:Be->Prop}(hA:A loc) (hA3:∀l,A l->l 3=some (.ref kb)/\l 10=some (.int (q.n:Int))/\l 11=some (.int (q.w:Int))/\l 12=some (.int (q.s:Int))/\l 13=some (.int (q.e:Int))) (hA4:∀l d,A l->A (B9 l 14 d)):
  W Pw ⟨loc,σ⟩ λfl st'=>fl=.next/\A st'.loc/\Bd n h w kb (D8 (S6 q) 43 B) σ0 st'.sto:=by
 obtain⟨a3,a10,a11,a12,a13⟩:=hA3 loc hA;unfold Pw;refine Al (Ad.mpr (Aa (A2 (A2 (A2 (A1 a10) (A2 (A2 (A1 a12) rfl) rfl)) rfl) rfl) ?_))
 refine Cm (α:=Nat) (xs:=[q.n,q.s]) (e:=λv=>D.int (v:Int)) (λ_ l=>A l) (λ_ v B=>D0 (D0 B v q.w 43) v q.e 43) (λ_ _ _=>trivial) (λi v hv l σ1 B1 hl b1=>?_) hA b λl σ1 hl b1=>?_
 ·have hv:v<h:=by
   rcases List.mem_cons.mp (List.mem_of_getElem? hv)with e|e
   ·exact Bw λZ=>A5 [_,_,_,_] [A9 x0 x1,A7 x2 x3,A7 x3 x0,B0 x1 x2] rT Z hs.1 h1 e
   ·rw[lq0 e];exact h1
  obtain⟨a3,a10,a11,a12,a13⟩:=hA3 l hl;refine⟨B9 l 14 (.int (v:Int)),rfl,As (Df b1 (c:=43) (y:=v) (x:=q.w) hv (by exact Bw λZ=>A5 [_,_,_] [A9 x1 x0,A7 x0 x2,A7 x2 x1] rT Z hs.2 h2) rfl (A1 a3) (A1 (i:=14) rfl) rfl (A1 a11) rfl) ?_⟩
  have b2:=b1.put (x:=q.w) (c:=43) hv;exact As (Df b2 (c:=43) (y:=v) (x:=q.e) hv h2 rfl (A1 a3) (A1 (i:=14) rfl) rfl (A1 a13) rfl) (Aa rfl ⟨rfl,hA4 _ _ hl,b2.put hv⟩)
 ·refine Aa rfl ⟨rfl,hl,?_⟩
  have e:Em (λ_ v B=>D0 (D0 B v q.w 43) v q.e 43) 0 [q.n,q.s] B=D8 (S6 q) 43 B:=zBs
  rw[e]at b1;exact b.trans b1
theorem zE1(g:U5 cs R C Fy Fx){n kb kq kt:Nat}{σ0 σ:Bp}{loc:Be}{Q:Fl->St->Prop}(b:Bd n (Ir Fy R) (Ir Fx C) kb (λ_ _=>32) σ0 σ)
  (hq:σ[kq]? =some (.list ((cs.map (Jr Fy Fx)).map qD))) (nq:∀i,i<Ir Fy R->kq≠n+2*i+1) (ht:σ[kt]? =some (.list (cs.map Cs))) (nt:∀i,i<Ir Fy R->kt≠n+2*i+1)
  {ta tb:D}(l0:loc 0=some (.tup [ta,tb,.ref kt])) (l3:loc 3=some (.ref kb)) (l4:loc 4=some (.ref kq))
  (hQ:∀x l σ' B,cl x=Db 10 (Jf (Ir Fy R) (Ir Fx C) (Xg cs (Jr Fy Fx)))->Bd n (Ir Fy R) (Ir Fx C) kb B σ σ'->∀j,Q (.ret (.str x)) ⟨l,σ'++j⟩):W Nn ⟨loc,σ⟩ Q:=by
 have hsz:=g.size;let A:Be->Prop:=λl=>l 0=some (.tup [ta,tb,.ref kt])/\l 3=some (.ref kb)/\l 4=some (.ref kq)
 let A4:Qb->Be->Prop:=λq l=>A l/\l 10=some (.int (q.n:Int))/\l 11=some (.int (q.w:Int))/\l 12=some (.int (q.s:Int))/\l 13=some (.int (q.e:Int))
 have bx:∀(i:Nat) (q:Qb),(cs.map (Jr Fy Fx))[i]? =some q->(q.n<q.s/\q.w<q.e)/\q.s<Ir Fy R/\q.e<Ir Fx C:=λi q h=>by
  obtain⟨c,mc,rfl⟩:=List.mem_map.mp (List.mem_of_getElem? h)
  have:=g.box mc
  exact⟨this.1,Nat.lt_succ_of_le this.2.1,Nat.lt_succ_of_le this.2.2⟩
 unfold Nn;refine Al (Ad.mpr (Aa (A2 (A1 l4) (Ax (E2.mpr ⟨_,hq,rfl,rfl⟩))) ?_))
 refine Cm (λ_ l=>A l) (λ_ q B=>D8 (S6 q) 43 B) (λσ' B' b'=>b'.keep _ _ hq nq) (λi q hi l σ1 B1 hl b1=>?_) ⟨l0,l3,l4⟩ b λl1 σ1 hl1 b1=>?_
 ·have hb:=bx i q hi;refine⟨B9 (B9 (B9 (B9 l 10 (.int (q.n:Int))) 11 (.int (q.w:Int))) 12 (.int (q.s:Int))) 13 (.int (q.e:Int)),rfl,?_⟩
  refine(Zq (loc:=B9 (B9 (B9 (B9 l 10 (.int (q.n:Int))) 11 (.int (q.w:Int))) 12 (.int (q.s:Int))) 13 (.int (q.e:Int))) b1 hb.1 hb.2.1 hb.2.2 (A:=A4 q) ⟨hl,rfl,rfl,rfl,rfl⟩ (λl h=>⟨h.1.2.1,h.2⟩) λl d h=>h).mono ?_
  rintro fl ⟨l2,σ2⟩ ⟨rfl,h2,b2⟩
  exact⟨rfl,h2.1,b2⟩
 ·rw[Ey]at b1;have hq1:=b1.keep _ _ hq nq;refine Al (Ad.mpr (Aa (A2 (A1 hl1.2.2) (Ax (E2.mpr ⟨_,hq1,rfl,rfl⟩))) ?_))
  refine Cm (λ_ l=>A l) (λ_ q B=>Cu (Qd q) 124 (Cu (M9 q) 45 B)) (λσ' B' b'=>b'.keep _ _ hq1 nq) (λi q hi l σ2 B2 hl b2=>?_) hl1 b1 λl2 σ2 hl2 b2=>?_
  ·have hb:=bx i q hi;refine⟨B9 (B9 (B9 (B9 l 10 (.int (q.n:Int))) 11 (.int (q.w:Int))) 12 (.int (q.s:Int))) 13 (.int (q.e:Int)),rfl,?_⟩
   refine Al (Ad.mpr (Ad.mpr (Aa (A2 (A1 hl.2.1) rfl) (zCG (Nat.le_of_lt hb.1.1) (Nat.le_of_lt hb.1.2) hb.2.1 hb.2.2 b2 λσ3 b3=>?_))))
   exact Aa rfl (Aa rfl ⟨rfl,hl,b2.trans b3⟩)
  ·rw[Ey]at b2;have hq2:=b2.keep _ _ hq1 nq;have ht2:=b2.keep _ _ (b1.keep _ _ ht nt) nt;refine Al (Ad.mpr (Ad.mpr (Aa (A2 (A1 hl2.2.2) (A2 (A2 (A8 (A1 hl2.1) rfl rfl) rfl) rfl)) (zDD.mpr ⟨_,_,hq2,ht2,?_⟩))))
   have ez:Ep ((cs.map (Jr Fy Fx)).map qD) (cs.map Cs)=cs.map λc=>D.tup [qD (Jr Fy Fx c),Cs c]:=by
    unfold Ep;rw[List.map_map,List.zip_map',List.map_map];rfl
   rw[ez];have b3:=b2.here.ext [.priv];have b3':=b3.here;refine Cm (α:=Cn) (λ_ l=>A l) (λ_ c B=>R9 (Jr Fy Fx c) c.x B) (λσ' B' b'=>⟨b'.keep _ _ (b3.keep _ _ hq2 nq) nq,b'.keep _ _ (b3.keep _ _ ht2 nt) nt,b2.new (Nat.le_refl _) b' lq3⟩) (λi c hi l σ4 B4 hl b4=>?_) hl2 b3' λl4 σ4 hl4 b4=>?_
   ·have mc:=List.mem_of_getElem? hi;refine⟨B9 (B9 l 15 (qD (Jr Fy Fx c))) 16 (Cs c),rfl,?_⟩
    refine Al (Ad.mpr (Ad.mpr (Aa (A2 (A1 hl.2.1) rfl) (Ra (g.fits mc) b4 λσ5 b5=>?_))))
    exact Aa rfl (Aa rfl ⟨rfl,hl,b4.trans b5⟩)
   ·rw[Ey]at b4;refine Al (Ad.mpr (Tk b4 ?_ (v:=18) (ib:=3) hl4.2.1 λx j hx=>Aa rfl (hQ x _ _ _ hx (((b1.trans b2).trans b3).trans b4) j)))
    have:Ir Fy R*Ir Fx C<=4081*4081:=Nat.mul_le_mul (by show(Fy.getD R 0).toNat+1<=_;exact Ar λZ=>A5 [_] [A7 (.n 4081) (.a x0 (.n 1)),A9 x0 (.n 4080)] rT Z hsz.1) (by show(Fx.getD C 0).toNat+1<=_;exact Ar λZ=>A5 [_] [A7 (.n 4081) (.a x0 (.n 1)),A9 x0 (.n 4080)] rT Z hsz.2)
    show Ir Fy R*Ir Fx C+((Fy.getD R 0).toNat+1)<=_
    exact Ar λZ=>A5 [_,_] [A7 (.n 16777216) (.a x1 (.a x0 (.n 1))),A9 x0 (.n 4080),A9 x1 (.m 4081 (.n 4081))] rT Z hsz.1 this
end
end
section
open Builtin.Str
noncomputable def Qt:Mn Fl:=(Ae (bnd (bnd (A6 (A0 0) Ai) Hy) (Af 1))
 (Ae (bnd (bnd (A6 (A0 0) Ai) N8) (Af 2))
 (Ae (bnd (bnd (bnd (A6 (Ab Ao (Ab Ag (A0 2) (Ab Ag (A0 0) (ret1 (.int 0)))) (ret1 (.int 1))) Ai) C4) (Bm [17] (Aj 17) (ret1 true) (Ab De (D1 (A6 (ret1 (.str (sO " "))) Ai)) (Ab Ao (Ab Ag (A0 1) (Ab Ag (A0 0) (ret1 (.int 1)))) (ret1 (.int 1)))))) (Af 3))
 (Ae (bnd (D1 Ai) (Af 4))
 (Ae (bnd (bnd (Ab Ag (A0 0) (ret1 (.int 2))) Ba) λsrc=>Bq (Ga 5 (Ay (Aj 5) (Ay (Aj 6) (Ay (Aj 7) (Ay (Aj 8) (Ay (Aj 9) Dt)))))) src.g (Ae (bnd (bnd (A0 4) (Da λk=>bnd (Ek (A6 (Ab Ag (A0 2) (A0 5)) (A6 (Ab Ag (A0 1) (A0 6)) (A6 (Ab Ag (A0 2) (Ab Ao (A0 5) (A0 7))) (A6 (Ab Ag (A0 1) (Ab Ao (A0 6) (A0 8))) Ai))))) (Bg k))) Dg)
 (ret1 .next)) src.ds)
 Nn)))))
theorem Fa.bd{n h w kb:Nat}{B:Bo}{σ σ':Bp}(t:Fa σ) (b:Bd n h w kb B σ σ') (hn:σ.length<=n):Fa σ':=by
 obtain⟨k,e,hk⟩:=t;have go:∀(i:Nat) (o:PO),σ[i]? =some o->σ'[i]? =some o:=λi o e=>b.keep i o e λj _ z=>by
  have:=(lq2 e).1
  exact A5 [_,_,_,_] [A9 x0 x1,Cg x2 (.a (.a x1 (.m 2 x3)) (.n 1)),A7 x2 x0,Rx 2 (.n 0) x3] rT hn z this (lq5 _)
 exact⟨k,go _ _ e,λm q=>go _ _ (hk m q)⟩
theorem Kp.bd{n h w kb:Nat}{B:Bo}{σ σ':Bp}(b:Bd n h w kb B σ σ') (hn:σ.length<=n):Kp σ σ':=⟨b.len,λi ds e=>b.keep i _ e λj _ z=>by
 have:=(lq2 e).1
 exact A5 [_,_,_,_] [A9 x0 x1,Cg x2 (.a (.a x1 (.m 2 x3)) (.n 1)),A7 x2 x0,Rx 2 (.n 0) x3] rT hn z this (lq5 _)⟩
theorem Nm{i:Int}{m:Nat}{S:St}(hi:i=m) (hm:m<=100000):C4 [.int i] S=.ok ⟨Di 0 1 m,λ_=>True⟩ S:=by
 subst hi;exact Ax (Hs.mpr ⟨Cl.mpr ⟨by exact Bi λZ=>Ac [_] [A7 x0 (.s (.n 0) (.n 1099511627776)),A9 (.n 0) x0] rT Z (Az _),by exact Dq λZ=>Ac [_] [A9 (.n 1099511627776) x0,A9 x0 (.n 100000)] rT Z (C5 hm)⟩,rfl,rfl⟩)
theorem Xc{R C:Nat}{cs:List Cn}{r:Nat}{σ:Bp}{loc:Be}{Q:Fl->St->Prop}(hRC:R<=20/\C<=20) (t1:∀c,c∈cs->c.t<c.b/\c.b<=R) (t2:∀c,c∈cs->c.l<c.r/\c.r<=C) (t3:∀c,c∈cs->c.x.length<=201) (t4:cs.length<=400)
  (l0:loc 0=some (.tup [.int (R:Int),.int (C:Int),.ref r])) (h0:Fa σ) (hr:σ[r]? =some (.list (cs.map Cs)))
  (hQ:∀Fy Fx x l σ',U5 cs R C Fy Fx->cl x=Db 10 (Jf (Ir Fy R) (Ir Fx C) (Xg cs (Jr Fy Fx)))->Fa σ'->Kp σ σ'->Q (.ret (.str x)) ⟨l,σ'⟩):W Qt ⟨loc,σ⟩ Q:=by
 have tx:∀c,c∈cs->c.x.length<=1000:=λc m=>Nat.le_trans (t3 c m) (by decide)
 unfold Qt;refine Al (Ad.mpr (Ad.mpr (Aa (A2 (A1 l0) rfl) (Wl (by exact Ar λZ=>A5 [_] [A7 (.n 60) x0,A9 x0 (.n 20)] rT Z hRC.2) t4 (Nh λc m=>(t2 c m).1) tx hr λFx j1 LX nx=>Aa rfl ?_))))
 generalize hs1:σ++j1=σ1
 have x1:Ct σ σ1:=hs1▸Ct.app _ _
 refine Al (Ad.mpr (Ad.mpr (Aa (A2 (A1 (i:=0) l0) rfl) (zEM (by exact Ar λZ=>A5 [_] [A7 (.n 60) x0,A9 x0 (.n 20)] rT Z hRC.1) t4 (Nh λc m=>(t1 c m).1) tx ((x1.trans (.app _ _)).get hr) λFy j2 LY ny=>Aa rfl ?_))))
 generalize hs2:σ1++[PO.list (Fx.map D.int)]++j2=σ2
 have x2:Ct (σ1++[PO.list (Fx.map D.int)]) σ2:=hs2▸Ct.app _ _
 have g:U5 cs R C Fy Fx:=⟨t1,t2,t3,LY,LX,ny,nx,hRC⟩
 have hsz:=g.size;have gx:(σ2++[PO.list (Fy.map D.int)])[σ1.length]? =some (.list (Fx.map D.int)):=(x2.trans (.app _ _)).get lq3
 have gy:(σ2++[PO.list (Fy.map D.int)])[σ2.length]? =some (.list (Fy.map D.int)):=lq3
 have hx:Ct σ (σ2++[PO.list (Fy.map D.int)]):=(x1.trans (.app _ _)).trans (x2.trans (.app _ _))
 generalize hs3:σ2++[PO.list (Fy.map D.int)]=σ3 at gx gy hx
 have h03:=h0.ext hx;have hr3:=hx.get hr;refine As (Bk (A2 (A2 (A2 (A8 (A8 rfl (A8 (A1 (i:=0) l0) rfl rfl) (L9 g.ly gy rfl (by omega) (by omega))) rfl rfl) rfl) (Nm (m:=Ir Fy R) (by show _=(((Fy.getD R 0).toNat+1:Nat):Int);omega) (by show(Fy.getD R 0).toNat+1<=_;omega)))
  (Og (h:=Ir Fy R) (w:=Ir Fx C) (A:=λl=>l 0=some (.tup [.int (R:Int),.int (C:Int),.ref r])/\l 1=some (.ref σ1.length)) Dy (by show(Fy.getD R 0).toNat+1<=_;omega) (by show(Fx.getD C 0).toNat+1<=_;omega) (λl j hl=>A8 (A8 (A1 hl.2) (A8 (A1 hl.1) rfl rfl) (L9 g.lx ((Ct.app _ _).get gx) rfl (by omega) (by omega))) rfl rfl) (λl d hl=>hl) ⟨l0,rfl⟩))) ?_
 have b4:=Qf (σ:=σ3) (h:=Ir Fy R) (w:=Ir Fx C) (by show(Fy.getD R 0).toNat+1<=_;exact Ar λZ=>A5 [_] [A7 (.n 100000) (.a x0 (.n 1)),A9 x0 (.n 4080)] rT Z hsz.1) (by show(Fx.getD C 0).toNat+1<=_;exact Ar λZ=>A5 [_] [A7 (.n 100000) (.a x0 (.n 1)),A9 x0 (.n 4080)] rT Z hsz.2)
 have x4:Ct σ3 (σ3++Nz (Ir Fx C) (Ir Fy R)++[PO.list (Kq σ3.length (Ir Fy R))]):=(Ct.app _ _).trans (.app _ _)
 generalize hs4:σ3++Nz (Ir Fx C) (Ir Fy R)++[PO.list (Kq σ3.length (Ir Fy R))]=σ4 at b4 x4
 refine As rfl (Al (Ad.mpr (Aa (A2 (A8 (A1 (i:=0) l0) rfl rfl) (Ax (E2.mpr ⟨_,(x4.trans (.app _ _)).get hr3,rfl,rfl⟩))) ?_)))
 refine zBp g t4 (x4.get hr3) (x4.get gx) (x4.get gy) (A:=λl=>l 0=some (.tup [.int (R:Int),.int (C:Int),.ref r])/\l 1=some (.ref σ1.length)/\l 2=some (.ref σ2.length)/\l 3=some (.ref (σ3.length+2*Ir Fy R))/\l 4=some (.ref σ4.length)) ⟨l0,rfl,rfl,rfl,rfl⟩ (λl h=>⟨h.2.1,h.2.2.1,h.2.2.2.2⟩) (λl a b c d e h=>h) λl5 hl5=>?_
 have off:∀i o,σ3[i]? =some o->∀j,j<Ir Fy R->i≠σ3.length+2*j+1:=λi o e j _ z=>by
  have:=(lq2 e).1
  omega
 refine zE1 g (b4.ext _) lq3 (λi hi z=>?_) ((x4.trans (.app _ _)).get hr3) (off _ _ hr3) hl5.1 hl5.2.2.2.1 hl5.2.2.2.2 λx l6 σ6 B6 hx6 b6 j=>?_
 ·exact Nat.ne_of_gt (b4.lt hi) z
 ·have b7:=((b4.ext _).trans b6).ext j;exact hQ Fy Fx x l6 _ g hx6 (h03.bd b7 (Nat.le_refl _)) (hx.kp.trans (Kp.bd b7 (Nat.le_refl _)))
theorem Lj{cs:List Cn}{P:Cn->Prop}(h:∀c,c∈cs->P (c.mv (kq (Aq false cs) 0) (kq (Aq true cs) 0))):∀c,c∈D5 cs->P c:=λc m=>by
 obtain⟨e,me,rfl⟩:=List.mem_map.mp m;exact h e me
theorem zAz{R C:Nat}{cs:List Cn}{k:Nat}{st:St}{Q:D->St->Prop}(h0:Fa st.sto) (ok:Z2 R C cs) (hRC:R<=20/\C<=20) (hst:∀c,c∈cs->c.t<c.b/\c.l<c.r) (htx:∀c,c∈cs->c.x.length<=201) (hk:st.sto[k]? =some (.list (cs.map Cs)))
  (hQ:∀Fy Fx x σ',U5 (D5 cs) (kq (Aq false cs) 0 R) (kq (Aq true cs) 0 C) Fy Fx->cl x=Db 10 (Jf (Ir Fy (kq (Aq false cs) 0 R)) (Ir Fx (kq (Aq true cs) 0 C)) (Xg (D5 cs) (Jr Fy Fx)))->Fa σ'->Kp st.sto σ'->Q (.str x) ⟨st.loc,σ'⟩):
  W (Kh [.tup [.int (R:Int),.int (C:Int),.ref k]]) st Q:=by
 have hR':=Qw (b:=Aq false cs) (a:=0) R;have hC':=Qw (b:=Aq true cs) (a:=0) C;refine Cy rfl ?_
 refine Al (Ad.mpr (Ad.mpr (Aa rfl (zBq h0 ok hk λr σ1 t k1 _ hr=>Aa rfl ?_))))
 exact Xc (R:=kq (Aq false cs) 0 R) (C:=kq (Aq true cs) 0 C) (cs:=D5 cs) (by exact⟨Ar λZ=>A5 [_,_] [A7 (.n 20) x0,A9 x1 (.n 20),A9 x0 x1] rT Z hRC.1 hR',Ar λZ=>A5 [_,_] [A7 (.n 20) x0,A9 x1 (.n 20),A9 x0 x1] rT Z hRC.2 hC'⟩) (Lj λc m=>⟨Oq (.inl (Hc (w:=false) m)) (hst c m).1,Ck _ (ok.row c m).2⟩) (Lj λc m=>⟨Oq (.inl (Hc (w:=true) m)) (hst c m).2,Ck _ (ok.col c m).2⟩) (Lj λc m=>htx c m)
  (by unfold D5;rw[lq6];exact ok.len) rfl t hr λFy Fx x l σ' g hx t' k'=>hQ Fy Fx x σ' g hx t' (k1.trans k')
end
section
open Builtin.Str
theorem Nq{k:Nat}{ds:List D}{S:St}(hk:S.sto[k]? =some (.list ds)) (h:ds.length<2 ^ 62):E0 [.ref k] S=.ok (.int (ds.length:Int)) S:=Ax (zAQ.mpr ⟨_,hk,h,rfl,rfl⟩)
theorem Jh{α:Type}{e:α->D}{xs:List α}:Dh (xs.map e)=xs.zipIdx.map λp=>D.tup [.int (p.2:Int),e p.1]:=by
 unfold Dh;rw[List.zipIdx_map,List.map_map];rfl
theorem La{α:Type}{f:Nat->α->Bo->Bo}:∀{xs:List α}{i k:Nat}{B:Bo},Em (λ_ (p:α×Nat) B=>f p.2 p.1 B) i (xs.zipIdx k) B=Em f k xs B
 |[],_,_,_=>rfl
 |a::xs,i,k,B=>by
  rw[List.zipIdx_cons];exact La (xs:=xs)
theorem Pg{α:Type}{xs:List α}{i:Nat}{p:α×Nat}(h:xs.zipIdx[i]? =some p):xs[i]? =some p.1/\p.2=i:=by
 rw[List.getElem?_zipIdx]at h;obtain⟨a,h1,h2⟩:=Option.map_eq_some_iff.mp h;subst h2;exact⟨h1,by simp⟩
structure zCA (cs:List Cn) (q:Cn->Qb) (R C:Nat) (Ly Lx:List Int) (h w:Nat):Prop where
 ny:Ly.length=R+1
 nx:Lx.length=C+1
 small:R<=20/\C<=20
 row:∀c,c∈cs->c.t<c.b/\c.b<=R
 col:∀c,c∈cs->c.l<c.r/\c.r<=C
 at1:∀c,c∈cs->Ly.getD c.t 0=((q c).n:Int)/\Ly.getD c.b 0=((q c).s:Int)
 at2:∀c,c∈cs->Lx.getD c.l 0=((q c).w:Int)/\Lx.getD c.r 0=((q c).e:Int)
 hy:Ly.getD R 0+1=(h:Int)
 hx:Lx.getD C 0+1=(w:Int)
 box:∀c,c∈cs->((q c).n<(q c).s/\(q c).w<(q c).e)/\(q c).s<h/\(q c).e<w
 fit:∀c,c∈cs->zBB (q c) c.x h w
 size:h<=4081/\w<=4081
noncomputable def zAj (cs:List Cn) (q:Cn->Qb):Bo:=Mz cs q ((cs.map q).foldl (λB q=>D8 (S6 q) 43 B) ((cs.map q).foldl (λB q=>D8 (zFN q) 45 B) ((cs.map q).foldl (λB q=>D8 (zEi q) 124 B) λ_ _=>32)))
noncomputable def zDg:Mn Fl:=(Ae (bnd (bnd (A6 (Ab Ag (A0 5) (ret1 (.int 0))) (A6 (Ab Ao (Ab Ag (A0 5) (ret1 (.int 2))) (ret1 (.int 1))) Ai)) C4) λsrc=>Bq (Aj 6) src.g (Ae (Ej Cd (ret1 (.str (sO "|"))) (Ab Ag (A0 3) (A0 6)) (Ab Ag (A0 5) (ret1 (.int 1))))
 (Ae (Ej Cd (ret1 (.str (sO "|"))) (Ab Ag (A0 3) (A0 6)) (Ab Ag (A0 5) (ret1 (.int 3))))
 (ret1 .next))) src.ds)
 (ret1 .next))
noncomputable def Ym:Mn Fl:=(Ae (bnd (bnd (A6 (Ab Ag (A0 5) (ret1 (.int 1))) (A6 (Ab Ao (Ab Ag (A0 5) (ret1 (.int 3))) (ret1 (.int 1))) Ai)) C4) λsrc=>Bq (Aj 7) src.g (Ae (Ej Cd (ret1 (.str (sO "-"))) (Ab Ag (A0 3) (Ab Ag (A0 5) (ret1 (.int 0)))) (A0 7))
 (Ae (Ej Cd (ret1 (.str (sO "-"))) (Ab Ag (A0 3) (Ab Ag (A0 5) (ret1 (.int 2)))) (A0 7))
 (ret1 .next))) src.ds)
 (ret1 .next))
noncomputable def Xe:Mn Fl:=(Ae (bnd (bnd (Ek (A6 (Ab Ag (A0 5) (ret1 (.int 1))) (A6 (Ab Ag (A0 5) (ret1 (.int 3))) Ai))) Ba) λsrc=>Bq (Aj 7) src.g (Ae (Ej Cd (ret1 (.str (sO "+"))) (Ab Ag (A0 3) (Ab Ag (A0 5) (ret1 (.int 0)))) (A0 7))
 (Ae (Ej Cd (ret1 (.str (sO "+"))) (Ab Ag (A0 3) (Ab Ag (A0 5) (ret1 (.int 2)))) (A0 7))
 (ret1 .next))) src.ds)
 (ret1 .next))
noncomputable def Wn:Mn Fl:=(Ae (bnd (bnd (A6 (bnd (Ab Ag (A0 8) (ret1 (.int 4))) (El λx=>bnd (A6 (ret1 (.str (sO "\n"))) Ai) (Ge x))) Ai) H0) λsrc=>Bq (Ga 2 (Ay (Aj 9) (Ay (Aj 10) Dt))) src.g (Ae (bnd (bnd (A6 (A0 10) Ai) H0) λsrc=>Bq (Ga 2 (Ay (Aj 11) (Ay (Aj 12) Dt))) src.g (Ae (Ej Cd (A0 12) (Ab Ag (A0 3) (Ab Ao (Ab Ao (Ab Ag (A0 5) (ret1 (.int 0))) (ret1 (.int 2))) (A0 9))) (Ab Ao (Ab Ao (Ab Ag (A0 5) (ret1 (.int 1))) (ret1 (.int 2))) (A0 11)))
 (ret1 .next)) src.ds)
 (ret1 .next)) src.ds)
 (ret1 .next))
section
variable {n h w kb:Nat}{B:Bo}{σ0 σ:Bp}{q:Qb}{loc:Be}
theorem zCO{B:Bo}{a b c d cc:Nat}:D0 (D0 B a b cc) c d cc=D8 (λi j=>(i=a/\j=b)∨(i=c/\j=d)) cc B:=by
 have e:D0 B a b cc=D0 (D8 (λ_ _=>False) cc B) a b cc:=by rw[Pa]
 rw[e,Fu,Fu];exact E7 λy x=>⟨λz=>z.elim (λz=>z.elim False.elim .inl) .inr,λz=>z.elim (λr=>.inl (.inr r)) .inr⟩
noncomputable abbrev AB (kb:Nat) (q:Qb) (l:Be):Prop:=l 3=some (.ref kb)/\l 5=some (qD q)
theorem zFP(b:Bd n h w kb B σ0 σ) (hb:(q.n<q.s/\q.w<q.e)/\q.s<h/\q.e<w) (hA:AB kb q loc){A:Be->Prop}(hl:A loc) (hA6:∀l d,A l->A (B9 l 6 d)):
  W zDg ⟨loc,σ⟩ λfl st'=>fl=.next/\A st'.loc/\Bd n h w kb (D8 (zEi q) 124 B) σ0 st'.sto:=by
 have wd:=b.wd;unfold zDg;refine Al (Ad.mpr (Aa (A2 (A2 (A8 (A1 hA.2) rfl rfl) (A2 (A2 (A8 (A8 (A1 hA.2) rfl rfl) rfl rfl) rfl) rfl)) (Jv (a:=q.n) (b:=q.s+1) rfl rfl (by exact Ar λZ=>A5 [_,_,_] [A7 (.n 100000) x0,A7 x0 x1,A7 x1 x2,A9 x2 (.n 100000)] rT Z hb.1.1 hb.2.1 wd.1) (by exact Ar λZ=>A5 [_,_] [A7 (.n 100000) (.a x0 (.n 1)),A7 x0 x1,A9 x1 (.n 100000)] rT Z hb.2.1 wd.1))) ?_))
 refine Cm (λ_ l=>A l/\AB kb q l) (λ_ j B=>D0 (D0 B (q.n+j) q.w 124) (q.n+j) q.e 124) (λ_ _ _=>trivial) (λi j hj l σ1 B1 hl b1=>?_) ⟨hl,hA⟩ b λl σ1 hl b1=>?_
 ·have hj:j<q.s+1 - q.n:=List.mem_range.mp (List.mem_of_getElem? hj)
  have hy:q.n+j<h:=by exact Bw λZ=>A5 [_,_,_,_,_] [A9 x1 (.a x0 x2),A7 x3 x1,A7 x2 x4,B0 (.a x4 x0) (.a x3 (.n 1))] rT Z hb.2.1 hj (B8 (Ar λY=>A5 [_,_] [A7 (.a x1 (.n 1)) x0,A7 x0 x1] rT Y hb.1.1))
  refine⟨B9 l 6 (.int ((q.n+j:Nat):Int)),rfl,As (Df b1 (c:=124) (y:=q.n+j) (x:=q.w) hy (by exact Bw λZ=>A5 [_,_,_] [A9 x1 x0,A7 x0 x2,A7 x2 x1] rT Z hb.1.2 hb.2.2) rfl (A1 hl.2.1) (A1 (i:=6) rfl) rfl (A8 (A1 hl.2.2) rfl rfl) rfl) ?_⟩
  have b2:=b1.put (x:=q.w) (c:=124) hy;exact As (Df b2 (c:=124) (y:=q.n+j) (x:=q.e) hy hb.2.2 rfl (A1 hl.2.1) (A1 (i:=6) rfl) rfl (A8 (A1 hl.2.2) rfl rfl) rfl) (Aa rfl ⟨rfl,⟨hA6 _ _ hl.1,hl.2⟩,b2.put hy⟩)
 ·have e:Em (λ_ j B=>D0 (D0 B (q.n+j) q.w 124) (q.n+j) q.e 124) 0 (List.range (q.s+1 - q.n)) B=D8 (zEi q) 124 B:=by
   rw[Ey];simp only[zCO];rw[Er];refine E7 λy x=>⟨λ⟨j,m,z⟩=>?_,λz=>⟨y - q.n,List.mem_range.mpr ?_,?_⟩⟩
   ·have:=List.mem_range.mp m
    exact⟨by exact Or.elim z (λhd7=>.inl (Gw (λZ=>A5 [_,_] [A7 x1 x0,Cg x1 x0] rT Z hd7.2) (λZ=>A5 [_,_] [A7 x0 x1,B0 x1 x0] rT Z hd7.2))) (λhd7=>.inr (Gw (λZ=>A5 [_,_] [A7 x1 x0,Cg x1 x0] rT Z hd7.2) (λZ=>A5 [_,_] [A7 x0 x1,B0 x1 x0] rT Z hd7.2))),by exact Or.elim z (λhd8=>Ar λZ=>A5 [_,_,_] [A7 x1 x0,Cg x1 (.a x0 x2),A9 (.n 0) x2] rT Z hd8.1 (lq5 _)) (λhd8=>Ar λZ=>A5 [_,_,_] [A7 x1 x0,Cg x1 (.a x0 x2),A9 (.n 0) x2] rT Z hd8.1 (lq5 _)),by exact Or.elim z (λhd9=>Ar λZ=>A5 [_,_,_,_,_] [A7 x0 x1,A7 x2 x3,B0 x1 (.a x4 x2),B0 (.a x3 x4) (.a x0 (.n 1))] rT Z this hd9.1 (B8 (Ar λY=>A5 [_,_] [A7 (.a x1 (.n 1)) x0,A7 x0 x1] rT Y hb.1.1))) (λhd9=>Ar λZ=>A5 [_,_,_,_,_] [A7 x0 x1,A7 x2 x3,B0 x1 (.a x4 x2),B0 (.a x3 x4) (.a x0 (.n 1))] rT Z this hd9.1 (B8 (Ar λY=>A5 [_,_] [A7 (.a x1 (.n 1)) x0,A7 x0 x1] rT Y hb.1.1)))⟩
   ·have:=z.2;exact Bw λZ=>A5 [_,_,_,_,_] [A9 x1 x0,A9 x3 x2,A9 (.a x2 (.n 1)) (.a x1 x4),B0 (.a x0 x4) x3] rT Z this.2 (Bh _ _) (B8 (Ar λY=>A5 [_,_] [A7 x1 x0,A9 x0 x1] rT Y this.1))
   ·have:=z.2;have:=z.1;omega
  rw[e]at b1;exact Aa rfl ⟨rfl,hl.1,b.trans b1⟩
theorem zDm(b:Bd n h w kb B σ0 σ) (hb:(q.n<q.s/\q.w<q.e)/\q.s<h/\q.e<w) (hA:AB kb q loc){A:Be->Prop}(hl:A loc) (hA7:∀l d,A l->A (B9 l 7 d)):
  W Ym ⟨loc,σ⟩ λfl st'=>fl=.next/\A st'.loc/\Bd n h w kb (D8 (zFN q) 45 B) σ0 st'.sto:=by
 have wd:=b.wd;unfold Ym;refine Al (Ad.mpr (Aa (A2 (A2 (A8 (A1 hA.2) rfl rfl) (A2 (A2 (A8 (A8 (A1 hA.2) rfl rfl) rfl rfl) rfl) rfl)) (Jv (a:=q.w) (b:=q.e+1) rfl rfl (by exact Ar λZ=>A5 [_,_,_] [A7 (.n 100000) x0,A7 x0 x1,A7 x1 x2,A9 x2 (.n 100000)] rT Z hb.1.2 hb.2.2 wd.2) (by exact Ar λZ=>A5 [_,_] [A7 (.n 100000) (.a x0 (.n 1)),A7 x0 x1,A9 x1 (.n 100000)] rT Z hb.2.2 wd.2))) ?_))
 refine Cm (λ_ l=>A l/\AB kb q l) (λ_ j B=>D0 (D0 B q.n (q.w+j) 45) q.s (q.w+j) 45) (λ_ _ _=>trivial) (λi j hj l σ1 B1 hl b1=>?_) ⟨hl,hA⟩ b λl σ1 hl b1=>?_
 ·have hj:j<q.e+1 - q.w:=List.mem_range.mp (List.mem_of_getElem? hj)
  refine⟨B9 l 7 (.int ((q.w+j:Nat):Int)),rfl,As (Df b1 (c:=45) (y:=q.n) (x:=q.w+j) (by exact Bw λZ=>A5 [_,_,_] [A9 x1 x0,A7 x0 x2,A7 x2 x1] rT Z hb.1.1 hb.2.1) (by exact Bw λZ=>A5 [_,_,_,_,_] [A9 x1 (.a x0 x2),A7 x3 x1,A7 x2 x4,B0 (.a x4 x0) (.a x3 (.n 1))] rT Z hb.2.2 hj (B8 (Ar λY=>A5 [_,_] [A7 (.a x1 (.n 1)) x0,A7 x0 x1] rT Y hb.1.2))) rfl (A1 hl.2.1) (A8 (A1 hl.2.2) rfl rfl) rfl (A1 (i:=7) rfl) rfl) ?_⟩
  have b2:=b1.put (y:=q.n) (x:=q.w+j) (c:=45) (by exact Bw λZ=>A5 [_,_,_] [A9 x1 x0,A7 x0 x2,A7 x2 x1] rT Z hb.1.1 hb.2.1)
  exact As (Df b2 (c:=45) (y:=q.s) (x:=q.w+j) hb.2.1 (by exact Bw λZ=>A5 [_,_,_,_,_] [A9 x1 (.a x0 x2),A7 x3 x1,A7 x2 x4,B0 (.a x4 x0) (.a x3 (.n 1))] rT Z hb.2.2 hj (B8 (Ar λY=>A5 [_,_] [A7 (.a x1 (.n 1)) x0,A7 x0 x1] rT Y hb.1.2))) rfl (A1 hl.2.1) (A8 (A1 hl.2.2) rfl rfl) rfl (A1 (i:=7) rfl) rfl) (Aa rfl ⟨rfl,⟨hA7 _ _ hl.1,hl.2⟩,b2.put hb.2.1⟩)
 ·have e:Em (λ_ j B=>D0 (D0 B q.n (q.w+j) 45) q.s (q.w+j) 45) 0 (List.range (q.e+1 - q.w)) B=D8 (zFN q) 45 B:=by
   rw[Ey];simp only[zCO];rw[Er];refine E7 λy x=>⟨λ⟨j,m,z⟩=>?_,λz=>⟨x - q.w,List.mem_range.mpr ?_,?_⟩⟩
   ·have:=List.mem_range.mp m
    exact⟨by exact Or.elim z (λhd12=>.inl (Gw (λZ=>A5 [_,_] [A7 x1 x0,Cg x1 x0] rT Z hd12.1) (λZ=>A5 [_,_] [A7 x0 x1,B0 x1 x0] rT Z hd12.1))) (λhd12=>.inr (Gw (λZ=>A5 [_,_] [A7 x1 x0,Cg x1 x0] rT Z hd12.1) (λZ=>A5 [_,_] [A7 x0 x1,B0 x1 x0] rT Z hd12.1))),by exact Or.elim z (λhd13=>Ar λZ=>A5 [_,_,_] [A7 x1 x0,Cg x1 (.a x0 x2),A9 (.n 0) x2] rT Z hd13.2 (lq5 _)) (λhd13=>Ar λZ=>A5 [_,_,_] [A7 x1 x0,Cg x1 (.a x0 x2),A9 (.n 0) x2] rT Z hd13.2 (lq5 _)),by exact Or.elim z (λhd14=>Ar λZ=>A5 [_,_,_,_,_] [A7 x0 x1,A7 x2 x3,B0 x1 (.a x4 x2),B0 (.a x3 x4) (.a x0 (.n 1))] rT Z this hd14.2 (B8 (Ar λY=>A5 [_,_] [A7 (.a x1 (.n 1)) x0,A7 x0 x1] rT Y hb.1.2))) (λhd14=>Ar λZ=>A5 [_,_,_,_,_] [A7 x0 x1,A7 x2 x3,B0 x1 (.a x4 x2),B0 (.a x3 x4) (.a x0 (.n 1))] rT Z this hd14.2 (B8 (Ar λY=>A5 [_,_] [A7 (.a x1 (.n 1)) x0,A7 x0 x1] rT Y hb.1.2)))⟩
   ·have:=z.2;exact Bw λZ=>A5 [_,_,_,_,_] [A9 x1 x0,A9 x3 x2,A9 (.a x2 (.n 1)) (.a x1 x4),B0 (.a x0 x4) x3] rT Z this.2 (Bh _ _) (B8 (Ar λY=>A5 [_,_] [A7 x1 x0,A9 x0 x1] rT Y this.1))
   ·have:=z.2;have:=z.1;omega
  rw[e]at b1;exact Aa rfl ⟨rfl,hl.1,b.trans b1⟩
theorem zEI(b:Bd n h w kb B σ0 σ) (hb:(q.n<q.s/\q.w<q.e)/\q.s<h/\q.e<w) (hA:AB kb q loc){A:Be->Prop}(hl:A loc) (hA7:∀l d,A l->A (B9 l 7 d)):
  W Xe ⟨loc,σ⟩ λfl st'=>fl=.next/\A st'.loc/\Bd n h w kb (D8 (S6 q) 43 B) σ0 st'.sto:=by
 unfold Xe;refine Al (Ad.mpr (Aa (A2 (A2 (A2 (A8 (A1 hA.2) rfl rfl) (A2 (A2 (A8 (A1 hA.2) rfl rfl) rfl) rfl)) rfl) rfl) ?_))
 refine Cm (α:=Nat) (xs:=[q.w,q.e]) (e:=λv=>D.int (v:Int)) (λ_ l=>A l/\AB kb q l) (λ_ v B=>D0 (D0 B q.n v 43) q.s v 43) (λ_ _ _=>trivial) (λi v hv l σ1 B1 hl b1=>?_) ⟨hl,hA⟩ b λl σ1 hl b1=>?_
 ·have hv:v<w:=by
   rcases List.mem_cons.mp (List.mem_of_getElem? hv)with e|e
   ·exact Bw λZ=>A5 [_,_,_,_] [A9 x0 x1,A7 x2 x3,A7 x3 x0,B0 x1 x2] rT Z hb.1.2 hb.2.2 e
   ·rw[lq0 e];exact hb.2.2
  refine⟨B9 l 7 (.int (v:Int)),rfl,As (Df b1 (c:=43) (y:=q.n) (x:=v) (by exact Bw λZ=>A5 [_,_,_] [A9 x1 x0,A7 x0 x2,A7 x2 x1] rT Z hb.1.1 hb.2.1) hv rfl (A1 hl.2.1) (A8 (A1 hl.2.2) rfl rfl) rfl (A1 (i:=7) rfl) rfl) ?_⟩
  have b2:=b1.put (y:=q.n) (x:=v) (c:=43) (by exact Bw λZ=>A5 [_,_,_] [A9 x1 x0,A7 x0 x2,A7 x2 x1] rT Z hb.1.1 hb.2.1)
  exact As (Df b2 (c:=43) (y:=q.s) (x:=v) hb.2.1 hv rfl (A1 hl.2.1) (A8 (A1 hl.2.2) rfl rfl) rfl (A1 (i:=7) rfl) rfl) (Aa rfl ⟨rfl,⟨hA7 _ _ hl.1,hl.2⟩,b2.put hb.2.1⟩)
 ·have e:Em (λ_ v B=>D0 (D0 B q.n v 43) q.s v 43) 0 [q.w,q.e] B=D8 (S6 q) 43 B:=by
   show D0 (D0 (D0 (D0 B q.n q.w 43) q.s q.w 43) q.n q.e 43) q.s q.e 43=_
   rw[zCO,zCO,Oi];exact E7 λy x=>by unfold S6;omega
  rw[e]at b1;exact Aa rfl ⟨rfl,hl.1,b.trans b1⟩
theorem zDf{c:Cn}(b:Bd n h w kb B σ0 σ) (ft:zBB q c.x h w) (hA:AB kb q loc) (l8:loc 8=some (Cs c)){A:Be->Prop}(hl:A loc) (hA9:∀l a b,A l->A (B9 (B9 l 9 a) 10 b)) (hA11:∀l a b,A l->A (B9 (B9 l 11 a) 12 b)):
  W Wn ⟨loc,σ⟩ λfl st'=>fl=.next/\A st'.loc/\Bd n h w kb (R9 q c.x B) σ0 st'.sto:=by
 have wd:=b.wd;have hsl:(2000:Nat)<=sizeLine:=by decide
 have hlen:=ft.len;have hrow:=ft.row;unfold Wn;refine Al (Ad.mpr (Ad.mpr (Ad.mpr (Ad.mpr (Jw (Aa (A1 l8) (Aa rfl (Aa rfl (Ad.mpr (Aa rfl (Mr (by exact Ar λZ=>A5 [_,_] [A7 x0 (.a x1 (.n 2)),A9 (.n 2000) x0,A9 x1 (.n 1000)] rT Z hsl hlen) ?_)))))))))))
 refine Aa rfl (zAG.mpr ⟨_,lq3,?_⟩)
 rw[Jh];have b1:=b.here.ext [.list ((Txt.split c.x ⟨#[10]⟩).map D.str)];refine Cm (λ_ l=>A l/\AB kb q l) (λ_ (p:Str×Nat) B=>Ti (q.n+2+p.2) (q.w+2) (cl p.1) B) (λσ' B' b'=>b.new (Nat.le_refl _) b' lq3) (λi p hp l σ1 B1 hl b1=>?_) ⟨hl,hA⟩ b1 λl σ1 hl b2=>?_
 ·obtain⟨hp1,hp2⟩:=Pg hp;obtain⟨ln,k⟩:=p;obtain rfl:i=k:=hp2.symm
  have hi:i<(Txt.split c.x ⟨#[10]⟩).length:=(lq2 hp1).1
  have hcol:=ft.col ln (List.mem_of_getElem? hp1);refine⟨B9 (B9 l 9 (.int (i:Int))) 10 (.str ln),rfl,Al (Ad.mpr (Aa (A2 rfl (st1:=⟨B9 (B9 l 9 (.int (i:Int))) 10 (.str ln),σ1⟩) (b:=[.str ln]) rfl) ?_))⟩
  show W (Bq _ _ _ (Dh (Gc ln))) _ _
  rw[show Gc ln=(cl ln).map Wa from rfl,Jh]
  refine Cm (λ_ l=>A l/\AB kb q l/\l 9=some (.int (i:Int))) (λ_ (p:Nat×Nat) B=>D0 B (q.n+2+i) (q.w+2+p.2) p.1) (λ_ _ _=>trivial) (λj p hp l σ2 B2 hl2 b2=>?_) ⟨hA9 _ _ _ hl.1,hl.2,rfl⟩ b1 λl2 σ2 hl2 b2=>?_
  ·obtain⟨hp1,hp2⟩:=Pg hp;obtain⟨cc,k⟩:=p;obtain rfl:j=k:=hp2.symm
   have hj:j<ln.length:=by rw[←Bz];exact(lq2 hp1).1
   refine⟨B9 (B9 l 11 (.int (j:Int))) 12 (Wa cc),rfl,As (Df b2 (c:=cc) (y:=q.n+2+i) (x:=q.w+2+j) (by exact Bw λZ=>A5 [_,_,_,_] [A9 x0 (.a (.a x1 (.n 2)) x2),A9 (.a (.a x1 (.n 2)) x3) x0,A7 x2 x3] rT Z hrow hi) (by exact Bw λZ=>A5 [_,_,_,_] [A9 x0 (.a (.a x1 (.n 2)) x2),A9 (.a (.a x1 (.n 2)) x3) x0,A7 x2 x3] rT Z hcol hj) rfl (A1 hl2.2.1.1) (A8 (A8 (A8 (A1 hl2.2.1.2) rfl rfl) rfl rfl) (A1 hl2.2.2) rfl) (by exact Gh (λZ=>Ac [_,_] [A7 (.a (.a x0 (.n 2)) x1) (.a (.a x0 (.n 2)) x1)] rT Z) (λZ=>Ac [_,_] [A7 (.a (.a x0 (.n 2)) x1) (.a (.a x0 (.n 2)) x1)] rT Z)) (A8 (A8 (A8 (A1 hl2.2.1.2) rfl rfl) rfl rfl) (A1 (i:=11) rfl) rfl) (by exact Gh (λZ=>Ac [_,_] [A7 (.a (.a x0 (.n 2)) x1) (.a (.a x0 (.n 2)) x1)] rT Z) (λZ=>Ac [_,_] [A7 (.a (.a x0 (.n 2)) x1) (.a (.a x0 (.n 2)) x1)] rT Z))) ?_⟩
   exact Aa rfl ⟨rfl,⟨hA11 _ _ _ hl2.1,hl2.2⟩,b2.put (by exact Bw λZ=>A5 [_,_,_,_] [A9 x0 (.a (.a x1 (.n 2)) x2),A9 (.a (.a x1 (.n 2)) x3) x0,A7 x2 x3] rT Z hrow hi)⟩
  ·rw[La (f:=λj c B=>D0 B (q.n+2+i) (q.w+2+j) c)]at b2
   exact Aa rfl ⟨rfl,⟨hl2.1,hl2.2.1⟩,b1.trans b2⟩
 ·rw[La (f:=λk (ln:Str) B=>Ti (q.n+2+k) (q.w+2) (cl ln) B)]at b2
  exact Aa rfl ⟨rfl,hl.1,(b.ext _).trans b2⟩
end
end
section
open Builtin.Str
noncomputable def U9:Mn Fl:=(Ae (bnd (bnd (A0 4) Ba) λsrc=>Bq (Aj 5) src.g zDg src.ds)
 (Ae (bnd (bnd (A0 4) Ba) λsrc=>Bq (Aj 5) src.g Ym src.ds)
 (Ae (bnd (bnd (A0 4) Ba) λsrc=>Bq (Aj 5) src.g Xe src.ds)
 (Ae (bnd (bnd (A6 (A0 4) (A6 (A0 0) Ai)) M6) λsrc=>Bq (Ga 2 (Ay (Aj 5) (Ay (Aj 8) Dt))) src.g Wn src.ds)
 (Ae (E1 (bnd (ret1 (.str (sO "\n"))) (El λx=>bnd (A6 (bnd (bnd (A0 3) Ba) (Bm [6] (Aj 6) (ret1 true) (bnd (ret1 (.str (Str.ofString ""))) (El λx=>bnd (A6 (A0 6) Ai) (Dw x))))) Ai) (Dw x))))
 (ret1 .next))))))
section
variable {cs:List Cn}{q:Cn->Qb}{R C:Nat}{Ly Lx:List Int}{h w:Nat}
theorem Z1(g:zCA cs q R C Ly Lx h w){n kb kq kc:Nat}{B:Bo}{σ0 σ:Bp}{loc:Be}{Q:Fl->St->Prop}{body:Mn Fl}{f:Qb->Bo->Bo}(b:Bd n h w kb B σ0 σ) (hq:σ[kq]? =some (.list ((cs.map q).map qD))) (nq:∀i,i<h->kq≠n+2*i+1)
  (hA:loc 0=some (.ref kc)/\loc 3=some (.ref kb)/\loc 4=some (.ref kq))
  (hb:∀(p:Qb) (l:Be) (σ':Bp) (B':Bo),(p.n<p.s/\p.w<p.e)/\p.s<h/\p.e<w->AB kb p l->(l 0=some (.ref kc)/\l 3=some (.ref kb)/\l 4=some (.ref kq))->Bd n h w kb B' σ σ'->W body ⟨l,σ'⟩ λfl st'=>fl=.next/\(st'.loc 0=some (.ref kc)/\st'.loc 3=some (.ref kb)/\st'.loc 4=some (.ref kq))/\Bd n h w kb (f p B') σ st'.sto)
  (hQ:∀l σ',(l 0=some (.ref kc)/\l 3=some (.ref kb)/\l 4=some (.ref kq))->Bd n h w kb ((cs.map q).foldl (λB p=>f p B) B) σ σ'->Q .next ⟨l,σ'⟩):
  W (bnd (bnd (A0 4) Ba) λsrc=>Bq (Aj 5) src.g body src.ds) ⟨loc,σ⟩ Q:=by
 refine Ad.mpr (Aa (A2 (A1 hA.2.2) (Ax (E2.mpr ⟨_,hq,rfl,rfl⟩))) ?_)
 refine Cm (λ_ l=>l 0=some (.ref kc)/\l 3=some (.ref kb)/\l 4=some (.ref kq)) (λ_ p B=>f p B) (λσ' B' b'=>b'.keep _ _ hq nq) (λi p hi l σ1 B1 hl b1=>?_) hA b λl σ1 hl b1=>hQ l σ1 hl (by rw[Ey]at b1;exact b1)
 obtain⟨c,mc,rfl⟩:=List.mem_map.mp (List.mem_of_getElem? hi)
 exact⟨B9 l 5 (qD (q c)),rfl,hb (q c) _ σ1 B1 (g.box c mc) ⟨hl.2.1,rfl⟩ hl b1⟩
theorem Vq(g:zCA cs q R C Ly Lx h w){n kb kq kc:Nat}{σ0 σ:Bp}{loc:Be}{Q:Fl->St->Prop}(b:Bd n h w kb (λ_ _=>32) σ0 σ) (hq:σ[kq]? =some (.list ((cs.map q).map qD))) (nq:∀i,i<h->kq≠n+2*i+1)
  (hc:σ[kc]? =some (.list (cs.map Cs))) (nc:∀i,i<h->kc≠n+2*i+1) (hA:loc 0=some (.ref kc)/\loc 3=some (.ref kb)/\loc 4=some (.ref kq))
  (hQ:∀x l σ' B,cl x=Db 10 (Jf h w (zAj cs q))->Bd n h w kb B σ σ'->∀j,Q (.ret (.str x)) ⟨l,σ'++j⟩):W U9 ⟨loc,σ⟩ Q:=by
 have hsz:=g.size;unfold U9;refine Al (Z1 g b hq nq hA (f:=λp B=>D8 (zEi p) 124 B) (λp l σ' B' h1 h2 h3 h4=>zFP h4 h1 h2 (A:=λl=>l 0=some (.ref kc)/\l 3=some (.ref kb)/\l 4=some (.ref kq)) h3 λ_ _ h=>h) λl1 σ1 hl1 b1=>?_)
 have hq1:=b1.keep _ _ hq nq;refine Al (Z1 g b1 hq1 nq hl1 (f:=λp B=>D8 (zFN p) 45 B) (λp l σ' B' h1 h2 h3 h4=>zDm h4 h1 h2 (A:=λl=>l 0=some (.ref kc)/\l 3=some (.ref kb)/\l 4=some (.ref kq)) h3 λ_ _ h=>h) λl2 σ2 hl2 b2=>?_)
 have hq2:=b2.keep _ _ hq1 nq;refine Al (Z1 g b2 hq2 nq hl2 (f:=λp B=>D8 (S6 p) 43 B) (λp l σ' B' h1 h2 h3 h4=>zEI h4 h1 h2 (A:=λl=>l 0=some (.ref kc)/\l 3=some (.ref kb)/\l 4=some (.ref kq)) h3 λ_ _ h=>h) λl3 σ3 hl3 b3=>?_)
 have hq3:=b3.keep _ _ hq2 nq;have hc3:=b3.keep _ _ (b2.keep _ _ (b1.keep _ _ hc nc) nc) nc;refine Al (Ad.mpr (Ad.mpr (Aa (A2 (A1 hl3.2.2) (A2 (A2 (A1 hl3.1) rfl) rfl)) (zDD.mpr ⟨_,_,hq3,hc3,?_⟩))))
 have ez:Ep ((cs.map q).map qD) (cs.map Cs)=cs.map λc=>D.tup [qD (q c),Cs c]:=by
  unfold Ep;rw[List.map_map,List.zip_map',List.map_map];rfl
 rw[ez];have b4:=b3.here.ext [.priv];refine Cm (α:=Cn) (λ_ l=>l 0=some (.ref kc)/\l 3=some (.ref kb)/\l 4=some (.ref kq)) (λ_ c B=>R9 (q c) c.x B) (λσ' B' b'=>⟨b'.keep _ _ (b4.keep _ _ hq3 nq) nq,b'.keep _ _ (b4.keep _ _ hc3 nc) nc,b3.new (Nat.le_refl _) b' lq3⟩) (λi c hi l σ5 B5 hl b5=>?_) hl3 b4.here λl5 σ5 hl5 b5=>?_
 ·have mc:=List.mem_of_getElem? hi;exact⟨B9 (B9 l 5 (qD (q c))) 8 (Cs c),rfl,zDf (A:=λl=>l 0=some (.ref kc)/\l 3=some (.ref kb)/\l 4=some (.ref kq)) (loc:=B9 (B9 l 5 (qD (q c))) 8 (Cs c)) b5 (g.fit c mc) ⟨hl.2.1,rfl⟩ rfl hl (λ_ _ _ h=>h) λ_ _ _ h=>h⟩
 ·rw[Ey]at b5;refine Al (Ad.mpr (Tk b5 ?_ (v:=6) (ib:=3) hl5.2.1 λx j hx=>Aa rfl (hQ x _ _ _ hx ((((b1.trans b2).trans b3).trans b4).trans b5) j)))
  have:h*w<=4081*4081:=Nat.mul_le_mul hsz.1 hsz.2
  exact Ar λZ=>A5 [_,_] [A7 (.n 16777216) (.a x1 x0),A9 x0 (.n 4081),A9 x1 (.m 4081 (.n 4081))] rT Z hsz.1 this
theorem R1{sp:List Int}{k N:Nat}{S:St}{i:Nat}(hl:S.loc i=some (.ref k)) (hk:S.sto[k]? =some (.list (sp.map D.int))) (hn:sp.length=N+1) (hN:N<=20):Ab Ao (Ab Ag (A0 i) (Ab M7 (bnd (A6 (A0 i) Ai) E0) (ret1 (.int 1)))) (ret1 (.int 1)) S=.ok (.int (sp.getD N 0+1)) S:=by
 refine A8 (a:=.int (sp.getD N 0)) (A8 (A1 hl) (A8 (A2 (A2 (A1 hl) rfl) (Nq hk (by rw[lq6];exact Bw λZ=>A5 [_,_] [A9 (.n 4611686018427387904) x0,B0 x0 (.a x1 (.n 1)),A9 x1 (.n 20)] rT Z hn hN))) rfl rfl) ?_) rfl rfl
 rw[Fk hk (by rw[lq6];exact Bi λZ=>Ac [(↑sp.length),(↑N)] [A7 (.s x0 (.n 1)) (.n 0),Cg x0 (.a x1 (.n 1)),A9 (.n 0) x1] rT Z (Kj hn) (Az _)) (by rw[lq6];exact Dq λZ=>Ac [(↑sp.length)] [A9 x0 (.s x0 (.n 1))] rT Z) (by exact Ar λZ=>A5 [(sp.length),(N)] [A7 (.n 4611686018427387904) x0,B0 x0 (.a x1 (.n 1)),A9 x1 (.n 20)] rT Z hn hN)]
 rw[show(((sp.map D.int).length:Int) - 1).toNat=N by rw[lq6];omega]
theorem So(g:zCA cs q R C Ly Lx h w) (hcl:cs.length<=400){kc kx ky:Nat}{st:St}{Q:D->St->Prop}(h0:Fa st.sto) (hc:st.sto[kc]? =some (.list (cs.map Cs))) (h2:st.sto[ky]? =some (.list (Ly.map D.int))) (h3:st.sto[kx]? =some (.list (Lx.map D.int)))
  (hQ:∀x σ',cl x=Db 10 (Jf h w (zAj cs q))->Fa σ'->Kp st.sto σ'->Q (.str x) ⟨st.loc,σ'⟩):W (Ec [.ref kc,.ref ky,.ref kx]) st Q:=by
 have hsl:(1000:Nat)<=sizeLine:=by decide
 have hsz:=g.size;have n1:=g.ny;have n2:=g.nx;have hs:=g.small;refine Cy rfl ?_
 refine As (Bk (A2 (A2 (A2 (R1 rfl h2 n1 hs.1) rfl) (Nm (m:=h) g.hy (by exact Ar λZ=>A5 [_] [A7 (.n 100000) x0,A9 x0 (.n 4081)] rT Z hsz.1)))
  (Og (σ:=st.sto) (h:=h) (w:=w) (A:=λl=>l 2=some (.ref kx)) Dy (by exact Ar λZ=>A5 [_] [A7 (.n 100000) x0,A9 x0 (.n 4081)] rT Z hsz.1) (by exact Ar λZ=>A5 [_] [A7 (.n 100000) x0,A9 x0 (.n 4081)] rT Z hsz.2) (λl j hl=>by rw[R1 hl ((Ct.app _ _).get h3) n2 hs.2,g.hx]) (λl d hl=>hl) rfl))) ?_
 have b1:=Qf (σ:=st.sto) (h:=h) (w:=w) (by exact Ar λZ=>A5 [_] [A7 (.n 100000) x0,A9 x0 (.n 4081)] rT Z hsz.1) (by exact Ar λZ=>A5 [_] [A7 (.n 100000) x0,A9 x0 (.n 4081)] rT Z hsz.2)
 have x1:Ct st.sto (st.sto++Nz w h++[PO.list (Kq st.sto.length h)]):=(Ct.app _ _).trans (.app _ _)
 generalize hs1:st.sto++Nz w h++[PO.list (Kq st.sto.length h)]=σ1 at b1 x1
 refine Al (Ad.mpr (Ad.mpr (Aa (A2 rfl (Ax (E2.mpr ⟨_,x1.get hc,rfl,rfl⟩))) ?_)))
 refine F1 (λ_=>true) (λd x _=>∀c,d=Cs c->x=qD (q c)) (λl=>l 1=some (.ref ky)/\l 2=some (.ref kx)) (by show(cs.map Cs).length<=_;rw[lq6];omega) (λ_ _ _ _ _ h=>h) (λσ' hx=>hx.get (x1.get hc)) ⟨rfl,rfl⟩ (λd hd l σ' hl hx=>?_) λxs σ' hx r=>?_
 ·obtain⟨c,mc,rfl⟩:=List.mem_map.mp hd;have gr:=g.row c mc;have gc:=g.col c mc;have a1:=g.at1 c mc;have a2:=g.at2 c mc;have ix:∀{k:Nat}{F:List Int}{i:Int}{m:Nat}{S:St},S.sto[k]? =some (.list (F.map D.int))->i=m->m<F.length->F.length<=100->Ag (.ref k) (.int i) S=.ok (.int (F.getD m 0)) S:=λhk hi hm hF=>by
   rw[Fk hk (by omega) (by omega) (by omega),hi,Int.toNat_natCast]
  have gy:=hx.get (x1.get h2);have gx:=hx.get (x1.get h3);refine⟨B9 l 13 (Cs c),rfl,hl,Aa rfl ⟨rfl,rfl,.refl _,λ_=>Lg.mpr (Aa (a:=[_,_,_,_]) (A2 (A8 (A1 hl.1) (A8 (A1 (i:=13) rfl) rfl rfl) (ix (m:=c.t) gy rfl (by omega) (by omega))) (A2 (A2 (A8 (A1 hl.2) (A8 (A1 (i:=13) rfl) rfl rfl) (ix (m:=c.l) gx rfl (by omega) (by omega))) (A2 (A2 (A8 (A1 hl.1) (A8 (A8 (A1 (i:=13) rfl) rfl rfl) (A8 (A1 (i:=13) rfl) rfl rfl) rfl) (ix (m:=c.b) gy (by omega) (by omega) (by omega))) (A2 (A2 (A8 (A1 hl.2) (A8 (A8 (A1 (i:=13) rfl) rfl rfl) (A8 (A1 (i:=13) rfl) rfl rfl) rfl) (ix (m:=c.r) gx (by omega) (by omega) (by omega))) rfl) rfl)) rfl)) rfl)) ⟨by show 4<=_;omega,rfl,.refl _,λc' e=>?_⟩)⟩⟩
  rw[←Tr e,a1.1,a1.2,a2.1,a2.2];rfl
 ·rw[D6]at r;have e:=F9 (f:=Cs) (g:=λc=>qD (q c)) r
  have e2:xs=(cs.map q).map qD:=by rw[e,List.map_map];rfl
  subst e2;obtain⟨j,rfl⟩:=hx;have off:∀i o,st.sto[i]? =some o->∀j,j<h->i≠st.sto.length+2*j+1:=λi o e j _ z=>by
   have:=(lq2 e).1
   omega
  refine Aa rfl (Vq g ((b1.ext j).ext _) lq3 (λi hi=>Nat.ne_of_gt ((b1.ext j).lt hi)) ((x1.trans ((Ct.app _ _).trans (.app _ _))).get hc) (off _ _ hc) ⟨rfl,rfl,rfl⟩ λx l6 σ6 B6 hx6 b6 jj=>?_)
  have b7:=(((b1.ext j).ext _).trans b6).ext jj;exact hQ x _ hx6 (h0.bd b7 (Nat.le_refl _)) (Kp.bd b7 (Nat.le_refl _))
end
end
section
open Builtin.Str
structure Tm (sp:List Sp) (b:Nat->Bool) (N:Nat) (F:List Int):Prop where
 pos:1<=F.length
 zero:F.getD 0 0=0
 step:∀k:Nat,1<=k->k<F.length->F.getD k 0=sp.foldl (Ca F k) (F.getD (k - 1) 0+bif b k||Nat.beq k N then 2 else 0)
theorem Y4{sp:List Sp}(h:Ng sp){F:List Int}{x p:Int}{k:Nat}(h2:k<=F.length):sp.foldl (Ca (F++[x]) k) p=sp.foldl (Ca F k) p:=by
 refine H9 _ _ λp s m=>?_
 unfold Ca;split
 ·rename_i e;have:=h s m
  rw[G5 (by exact Ja (Dq λZ=>Ac [_,_,_,_,_] [A9 x0 x1,B0 x3 x2,A7 x4 x3,A9 x2 x0,B0 x1 x4] rT Z e this.2 (C5 h2) (Ch (Bi λY=>Ac [_] [A7 x0 (.n 0),A9 (.n 0) x0] rT Y this.1))))]
 ·rfl
theorem Tm.app{sp:List Sp}{b:Nat->Bool}{N:Nat}(h:Ng sp){F:List Int}(l:Tm sp b N F){x:Int}(hx:x=sp.foldl (Ca F F.length) (F.getD (F.length - 1) 0+bif b F.length||Nat.beq F.length N then 2 else 0)):Tm sp b N (F++[x]):=by
 have hp:=l.pos;refine⟨by simp,by rw[G5 (by exact Bw λZ=>A5 [_] [A9 x0 (.n 0),A9 (.n 1) x0] rT Z hp)];exact l.zero,λk h1 h2=>?_⟩
 rw[lq7,List.length_singleton]at h2;rw[Y4 h (by exact Ar λZ=>A5 [_,_] [A7 x0 x1,A7 x1 (.a x0 (.n 1))] rT Z h2),G5 (i:=k - 1) (by exact Bw λZ=>A5 [_,_,_] [A9 x0 x1,A7 x2 (.a x0 (.n 1)),B0 (.a x1 (.n 1)) x2] rT Z h2 (B8 (Ar λY=>A5 [_] [A7 x0 (.n 1),A9 (.n 1) x0] rT Y h1)))]
 by_cases hk:k<F.length
 ·rw[G5 hk];exact l.step k h1 hk
 ·obtain rfl:k=F.length:=by exact Gw (λZ=>A5 [_,_] [A7 x1 x0,A9 x0 x1] rT Z (Nat.not_lt.mp hk)) (λZ=>A5 [_,_] [A7 x0 x1,A7 x1 (.a x0 (.n 1))] rT Z h2)
  rw[List.getD_eq_getElem?_getD,List.getElem?_append_right (Nat.le_refl _),Nat.sub_self];exact hx
theorem Zk{v:Nat}{m:Mn D}{x:Str}{st:St}{Q:D->St->Prop}(hx:x.length<=1000) (hm:m st=.ok (.ref st.sto.length) ⟨st.loc,st.sto++[.list ((Txt.split x ⟨#[10]⟩).map D.str)]⟩) (h:∀j,Q (.int (Qc x)) ⟨st.loc,st.sto++j⟩):
  W (bnd (A6 (bnd (bnd m Ba) (Bm [v] (Aj v) (ret1 true) (bnd (A6 (A0 v) Ai) E0))) Ai) Jx) st Q:=by
 have hsl:(2000:Nat)<=sizeLine:=by decide
 have hsm:=Hv (x:=x);refine Ad.mpr (Ad.mpr (Ad.mpr (Aa (A2 hm (Ax (E2.mpr ⟨_,lq3,rfl,rfl⟩))) ?_)))
 refine F1 (λ_=>true) (λd v _=>∀y,d=D.str y->v=.int y.length) (λ_=>True) (by show(List.map _ _).length<=_;rw[lq6];exact Ar λZ=>A5 [_,_,_] [A7 x0 x1,A9 x2 (.n 1000),A9 (.n 2000) x0,A9 x1 (.a x2 (.n 2))] rT Z hx hsl hsm) (λ_ _ _ _ _ h=>h) (λσ hx=>hx.get lq3) trivial (λd hd l σ' hA hx'=>?_) λxs σ' hx' r=>?_
 ·obtain⟨y,hy,rfl⟩:=List.mem_map.mp hd;have:=Mm y hy
  refine⟨B9 l v (.str y),rfl,trivial,Aa rfl ⟨rfl,rfl,.refl _,λ_=>Aa (A2 (A2 (A1 (by show B9 l v _ v=_;unfold B9;rw[if_pos rfl])) rfl) (Ax (Yq.mpr ⟨by exact Bw λZ=>A5 [_,_] [A9 (.n 4611686018427387904) x0,A9 x1 (.n 1000),A9 x0 x1] rT Z hx this,rfl,rfl⟩))) ⟨rfl,.refl _,λy' e=>by cases e;rfl⟩⟩⟩
 ·rw[D6]at r;have e:=F9 (f:=D.str) (g:=λy=>D.int (y.length:Int)) r
  have e2:xs=(Rb (Txt.split x ⟨#[10]⟩)).map D.int:=by rw[e];unfold Rb;rw[List.map_map];rfl
  have hmx:(Rb (Txt.split x ⟨#[10]⟩)).max? =some (Qc x):=by
   unfold Qc
   cases hs:Txt.split x ⟨#[10]⟩with
   |nil=>exact absurd hs (Mu x 10)
   |cons p r=>
    show some (List.foldl max _ _)=some (List.foldl max (max 0 _) _)
    rw[Int.max_eq_right (by exact Bi λZ=>Ac [_] [A7 x0 (.n 0),A9 (.n 0) x0] rT Z (Az _):(0:Int)<=p.length)]
  refine Aa rfl (zAT.mpr ⟨xs,_,Qc x,lq3,by rw[e2];exact H1 _,hmx,?_⟩)
  obtain⟨j,rfl⟩:=hx';have:=h ([.list ((Txt.split x ⟨#[10]⟩).map D.str)]++j++[.list xs])
  rw[←lq8,←lq8]at this;exact this
noncomputable def U3 (w:Bool) (a:Nat):D->Bool
 |.tup [.int t,.int l,_,_,_]=>(bif w then l else t)==(a:Int)
 |_=>false
theorem N6{w:Bool}{a:Nat}{c:Cn}:U3 w a (Cs c)=((lo w c:Int)==(a:Int)):=by cases w<;>rfl
theorem Uy{w:Bool}{a:Nat}{cs:List Cn}:((cs.map Cs).filter (U3 w a)).length=0↔Aq w cs a=false:=by
 have ee:∀c:Cn,((lo w c:Int)==(a:Int))=(lo w c==a):=λc=>by rw[Bool.eq_iff_iff,beq_iff_eq,beq_iff_eq];omega
 rw[List.length_eq_zero_iff,List.filter_eq_nil_iff];unfold Aq;rw[List.any_eq_false];constructor
 ·intro h c m;have:=h _ (List.mem_map.mpr ⟨c,m,rfl⟩)
  rw[N6,ee]at this;exact this
 ·rintro h _ m
  obtain⟨c,mc,rfl⟩:=List.mem_map.mp m;rw[N6,ee];exact h c mc
noncomputable def zCg:Mn Fl:=(Ae (Iv (Dl Eh (Ab Ao (Ab Ag (A0 7) (A0 2)) (Ab Ag (A0 7) (Ab Ao (ret1 (.int 2)) (A0 2)))) (A0 4)) (Ae (bnd (Ab Ao (ret1 (.int 3)) (bnd (Ab Ag (A0 7) (ret1 (.int 4))) (El λx=>bnd (A6 (ret1 (.str (sO "\n"))) Ai) (Pd x)))) (Af 8))
 (Ae (Iv (Dl Eh (A0 2) (ret1 (.int 1))) (Ae (bnd (Ab Ao (ret1 (.int 3)) (bnd (A6 (bnd (bnd (bnd (Ab Ag (A0 7) (ret1 (.int 4))) (El λx=>bnd (A6 (ret1 (.str (sO "\n"))) Ai) (Ge x))) Ba) (Bm [9] (Aj 9) (ret1 true) (bnd (A6 (A0 9) Ai) E0))) Ai) Jx)) (Af 8))
 (ret1 .next)) (ret1 .next))
 (Ae (bnd (bnd (A6 (A0 6) (A6 (Ab Ao (Ab Ag (A0 3) (Ab Ag (A0 7) (A0 2))) (A0 8)) Ai)) Jx) (Af 6))
 (ret1 .next)))) (ret1 .next))
 (ret1 .next))
noncomputable abbrev SL (kc N kf:Nat) (w:Bool) (l:Be):Prop:=l 0=some (.ref kc)/\l 1=some (.int (N:Int))/\l 2=some (.int (wI w))/\l 3=some (.ref kf)
theorem zDw{w:Bool}{kc N kf i:Nat}{F:List Int}{c:Cn}{p:Int}{σ:Bp}{loc:Be}(hl:SL kc N kf w loc) (l4:loc 4=some (.int (i:Int))) (l6:loc 6=some (.int p)) (l7:loc 7=some (Cs c)) (hF:σ[kf]? =some (.list (F.map D.int))) (hFl:F.length<=100) (hii:i<=F.length) (hc:lo w c<hi w c) (hx:c.x.length<=201):
  W zCg ⟨loc,σ⟩ λfl st'=>fl=.next/\SL kc N kf w st'.loc/\st'.loc 4=some (.int (i:Int))/\st'.loc 6=some (.int (Ca F i p (M3 w c)))/\Ct σ st'.sto:=by
 have hsl:(2000:Nat)<=sizeLine:=by decide
 unfold zCg;refine Dj (b:=((hi w c:Int)==(i:Int))) (Dc (A8 (A8 (A1 l7) (A1 hl.2.2.1) Qk) (A8 (A1 l7) (A8 rfl (A1 hl.2.2.1) rfl) zEo) rfl) (A1 l4) rfl (by
  show Gq.ok (((lo w c:Int)+((hi w c:Int) - (lo w c:Int)))==(i:Int)) _=_
  rw[show(lo w c:Int)+((hi w c:Int) - (lo w c:Int))=hi w c by exact Gh (λZ=>Ac [_,_] [A7 (.a x0 (.s x1 x0)) x1] rT Z) (λZ=>Ac [_,_] [A7 x1 (.a x0 (.s x1 x0))] rT Z)])) (λz=>?_) λz=>?_
 ·have z:(hi w c:Int)=(i:Int):=beq_iff_eq.mp z
  refine As (Bk (A8 rfl (A2 (A8 (A1 l7) rfl rfl) rfl) rfl)) ?_
  have fin:∀(l8:Be) (j:Bp),SL kc N kf w l8->l8 4=some (.int (i:Int))->l8 6=some (.int p)->l8 7=some (Cs c)->l8 8=some (.int (rm w c.x))->
    W (Ae (bnd (bnd (A6 (A0 6) (A6 (Ab Ao (Ab Ag (A0 3) (Ab Ag (A0 7) (A0 2))) (A0 8)) Ai)) Jx) (Af 6)) (ret1 .next)) ⟨l8,σ++j⟩ (zDc (ret1 .next) λfl st'=>fl=.next/\SL kc N kf w st'.loc/\st'.loc 4=some (.int (i:Int))/\st'.loc 6=some (.int (Ca F i p (M3 w c)))/\Ct σ st'.sto):=λl8 j a1 a2 a3 a4 a5=>by
   refine Al (Xf (p:=p) a3 (Aa (A8 (A8 (A1 a1.2.2.2) (A8 (A1 a4) (A1 a1.2.2.1) Qk) (Fk ((Ct.app _ _).get hF) (by exact Bi λZ=>Ac [_] [A7 x0 (.n 0),A9 (.n 0) x0] rT Z (Az _)) (by exact Dq λZ=>Ac [_,_,_,_] [A9 x0 x1,B0 x3 x2,A9 x2 x0,A7 x1 x3] rT Z z (C5 hii) (Gi hc)) (by exact Ar λZ=>A5 [_] [A7 (.n 4611686018427387904) x0,A9 x0 (.n 100)] rT Z hFl))) (A1 a5) rfl) ⟨_,rfl,Aa rfl (Aa rfl ⟨rfl,a1,a2,?_,.app _ _⟩)⟩))
   show some (D.int (max p (F.getD ((lo w c:Int)).toNat 0+rm w c.x)))=_
   unfold Ca;rw[if_pos (by exact z)];rfl
  cases w with
  |false=>exact Dj (b:=false) (Dc (A1 hl.2.2.1) rfl rfl rfl) (λz=>by cases z) λ_=>Aa rfl (by have:=fin (B9 loc 8 (.int (3+zEB c.x))) [] hl l4 l6 l7 rfl;rw[List.append_nil]at this;exact this)
  |true=>
   refine Dj (b:=true) (Dc (A1 hl.2.2.1) rfl rfl rfl) (λ_=>?_) λz=>by cases z
   refine Al (Ad.mpr (Jw (Aa rfl (Zk (x:=c.x) (by exact Ar λZ=>A5 [_] [A7 (.n 1000) x0,A9 x0 (.n 201)] rT Z hx) ?_ λj=>Aa rfl (Aa rfl (Aa rfl ?_))))))
   ·exact A2 (A8 (A1 (i:=7) l7) rfl rfl) (A2 rfl (Ax (Mr (by exact Ar λZ=>A5 [_,_] [A7 x1 (.a x0 (.n 2)),A9 x0 (.n 201),A9 (.n 2000) x1] rT Z hx hsl) ⟨rfl,rfl⟩)))
   ·exact fin (B9 (B9 loc 8 (.int (3+zEB c.x))) 8 (.int (3+Qc c.x))) j hl l4 l6 l7 rfl
 ·have z:¬(hi w c:Int)=(i:Int):=λe=>by rw[beq_iff_eq.mpr e]at z;cases z
  refine Aa rfl (Aa rfl ⟨rfl,hl,l4,?_,.refl _⟩)
  unfold Ca;rw[if_neg (by exact z)];exact l6
end
section
open Builtin.Str
theorem zC5{xs ys:List D}(h:Bs (λx d=>x=d) xs ys):xs=ys:=by
 induction h with
 |nil=>rfl
 |cons r _ ih=>rw[r,ih]
noncomputable def Wh:Mn D:=(Ab Ao (bnd (A6 (bnd (bnd (A0 0) Ba) (Bm [7] (Aj 7) (Dl Eh (Ab Ag (A0 7) (A0 2)) (A0 4)) (A0 7))) Ai) E0) (bnd (A6 (Ab Eh (A0 4) (A0 1)) Ai) Nd))
theorem zCM{w:Bool}{kc N kf i:Nat}{cs:List Cn}{σ:Bp}{loc:Be}{Q:D->St->Prop}(hcl:cs.length<=400) (hl:SL kc N kf w loc) (l4:loc 4=some (.int (i:Int))) (hk:σ[kc]? =some (.list (cs.map Cs)))
  (hQ:∀(v:Int) j,0<=v->v<=1000->(v=0↔(Aq w cs i||Nat.beq i N)=false)->Q (.int v) ⟨loc,σ++j⟩):W Wh ⟨loc,σ⟩ Q:=by
 have hsl:(1000:Nat)<=sizeLine:=by decide
 unfold Wh;refine Jw (Ad.mpr (Ad.mpr (Ad.mpr (Aa (A2 (A1 hl.1) (Ax (E2.mpr ⟨_,hk,rfl,rfl⟩))) ?_))))
 refine F1 (U3 w i) (λd x _=>x=d) (λl=>l 2=some (.int (wI w))/\l 4=some (.int (i:Int))) (by show(cs.map Cs).length<=_;rw[lq6];exact Ar λZ=>A5 [_,_] [A7 x1 x0,A9 x0 (.n 400),A9 (.n 1000) x1] rT Z hcl hsl) (λ_ _ _ _ _ h=>h) (λσ' hx=>hx.get hk) ⟨hl.2.2.1,l4⟩ (λd hd l σ' hA hx=>?_) λxs σ' hx r=>?_
 ·obtain⟨c,mc,rfl⟩:=List.mem_map.mp hd;exact⟨B9 l 7 (Cs c),rfl,hA,Aa (Dc (A8 (A1 (i:=7) rfl) (A1 hA.1) Qk) (A1 hA.2) rfl rfl) ⟨N6.symm,rfl,.refl _,λ_=>Aa (A1 (i:=7) rfl) ⟨rfl,.refl _,rfl⟩⟩⟩
 ·have e:=zC5 r;have hle:xs.length<=400:=by
   rw[e];refine Nat.le_trans (List.length_filter_le _ _) ?_
   show(cs.map Cs).length<=_
   rw[lq6];exact hcl
  obtain⟨j,rfl⟩:=hx;refine Aa rfl (Aa (Nq lq3 (by exact Bw λZ=>A5 [_] [A9 (.n 4611686018427387904) x0,A9 x0 (.n 400)] rT Z hle)) (Aa (A2 (A2 (A8 (A1 l4) (A1 hl.2.1) rfl) rfl) rfl) (Aa rfl ?_)))
  have hb:((i:Int)==(N:Int))=Nat.beq i N:=by
   rw[Bool.eq_iff_iff,beq_iff_eq];exact⟨λh=>by rw[show i=N by exact Iq (Gh (λZ=>Ac [_,_] [A7 x0 x1,Cg x0 x1] rT Z h) (λZ=>Ac [_,_] [A7 x1 x0,B0 x0 x1] rT Z h))];exact Nat.beq_refl _,λh=>by rw[Nat.eq_of_beq_eq_true h]⟩
  rw[hb];have kn:=Uy (w:=w) (a:=i) (cs:=cs);have e':xs.length=((cs.map Cs).filter (U3 w i)).length:=by rw[e]
  have:=hQ ((xs.length:Int)+(if Nat.beq i N=true then 1 else 0)) (j++[.list xs]) (by split<;>omega) (by split<;>omega) (by
   cases hN:Nat.beq i N with
   |true=>simp;exactλZ=>Ac [_] [B0 (.a x0 (.n 1)) (.n 0),A9 (.n 0) x0] rT Z (Az _)
   |false=>
    rw[Bool.or_false,←kn,←e'];simp)
  rw[←lq8]at this;exact this
theorem Tv{w:Bool}{N:Nat}{cs:List Cn}{kc:Nat}{st:St}{Q:D->St->Prop}(hN:N<=20) (hcl:cs.length<=400) (hst:∀c,c∈cs->lo w c<hi w c) (htx:∀c,c∈cs->c.x.length<=201) (hk:st.sto[kc]? =some (.list (cs.map Cs)))
  (hQ:∀F σ',Oo (cs.map (M3 w)) (Aq w cs) N F->F.length=N+1->Ct st.sto σ'->σ'[st.sto.length]? =some (.list (F.map D.int))->Q (.ref st.sto.length) ⟨st.loc,σ'⟩):W (D4 [.ref kc,.int (N:Int),.int (wI w)]) st Q:=by
 have hsl:(1000:Nat)<=sizeLine:=by decide
 have hok:Ng (cs.map (M3 w)):=Nh hst
 refine Cy rfl ?_
 refine As rfl (Al (Ad.mpr (Aa (A2 rfl (Ax (Ni.mpr ⟨Bool.and_eq_true_iff.mpr ⟨Cl.mpr ⟨by exact Bi λZ=>Ac [] [A7 (.n 1) (.s (.n 0) (.n 1099511627776))] rT Z,by exact Dq λZ=>Ac [] [A9 (.n 1099511627776) (.n 1)] rT Z⟩,Cl.mpr ⟨by exact Bi λZ=>Ac [_] [A7 (.a x0 (.n 1)) (.s (.n 0) (.n 1099511627776)),A9 (.n 0) x0] rT Z (Az _),by exact Dq λZ=>Ac [_] [A9 (.n 1099511627776) (.a x0 (.n 1)),A9 x0 (.n 20)] rT Z (C5 hN)⟩⟩,rfl,rfl⟩))) ?_)))
 rw[show((N:Int)+1 - 1).toNat=N by exact Iq (Gh (λZ=>Ac [_,_] [A7 x1 x0,A9 (.s (.a x0 (.n 1)) (.n 1)) x1] rT Z (G6 _)) (λZ=>Ac [_,_] [A7 x0 x1,B0 x1 (.s (.a x0 (.n 1)) (.n 1))] rT Z (Ch (Bi λY=>Ac [_] [A7 (.s (.a x0 (.n 1)) (.n 1)) (.n 0),A9 (.n 0) x0] rT Y (Az _)))))]
 refine Fg (λrem st'=>∃F,SL kc N st.sto.length w st'.loc/\Ct st.sto st'.sto/\st'.sto[st.sto.length]? =some (.list (F.map D.int))/\Tm (cs.map (M3 w)) (Aq w cs) N F/\F.length<=N+1/\rem=(Di 1 1 N).drop (F.length - 1)) ?_ ?_ _ _ ⟨[0],⟨rfl,rfl,rfl,rfl⟩,.app _ _,lq3,⟨Nat.le_refl _,rfl,λk h1 h2=>absurd h2 (by show¬k<1;exactλZ=>A5 [_] [A7 x0 (.n 1),A9 (.n 1) x0] rT Z h1)⟩,by show 1<=N+1;exact Ar λZ=>A5 [_] [A7 (.a x0 (.n 1)) (.n 1),A9 (.n 0) x0] rT Z (lq5 _),rfl⟩
 ·rintro d rest ⟨l,σ'⟩ ⟨F,hl,hx,hF,hL,hn,hrem⟩
  obtain⟨hd,hr⟩:=Cw hrem;have hp:=hL.pos;obtain⟨hlt,rfl⟩:=Tf hd;rw[Nat.sub_add_cancel hp];refine⟨trivial,B9 l 4 (.int (F.length:Int)),rfl,?_⟩
  refine Al (Ad.mpr (zCM (w:=w) (kc:=kc) (N:=N) (kf:=st.sto.length) (i:=F.length) (cs:=cs) hcl hl rfl (hx.get hk) λv j v0 v1 hv=>Aa rfl ?_))
  have hF1:(σ'++j)[st.sto.length]? =some (.list (F.map D.int)):=(Ct.app _ _).get hF
  have hx1:Ct st.sto (σ'++j):=hx.trans (.app _ _)
  generalize σ'++j=σ1 at hF1 hx1
  refine As (Bk (A8 (A8 (A1 (i:=3) hl.2.2.2) (A8 (A1 (i:=4) rfl) rfl rfl) (Fk hF1 (by exact Bi λZ=>Ac [_] [A7 (.s x0 (.n 1)) (.n 0),A9 (.n 1) x0] rT Z (C5 hp)) (by exact Dq λZ=>Ac [_] [A9 x0 (.s x0 (.n 1))] rT Z) (by exact Ar λZ=>A5 [_,_] [A7 (.n 4611686018427387904) x0,A9 x1 (.n 20),A9 x0 (.a x1 (.n 1))] rT Z hN hn))) (A8 rfl (A2 (A2 rfl (A2 (A2 (A1 (i:=5) rfl) rfl) rfl)) rfl) (F4 (a:=2) (b:=min 1 v) rfl)) rfl)) ?_
  have ev:F.getD (((F.length:Int) - 1)).toNat 0+2*min 1 v=F.getD (F.length - 1) 0+bif Aq w cs F.length||Nat.beq F.length N then 2 else 0:=by
   rw[show((F.length:Int) - 1).toNat=F.length - 1 by exact Iq (Gh (λZ=>Ac [_,_,_] [A7 x1 x0,A9 (.s x2 (.n 1)) x1,B0 (.a x0 (.n 1)) x2] rT Z (G6 _) (J5 (Bi λY=>Ac [_] [A7 x0 (.n 1),A9 (.n 1) x0] rT Y (C5 hp)))) (λZ=>Ac [_,_,_] [A7 x0 x1,Cg (.a x0 (.n 1)) x2,B0 x1 (.s x2 (.n 1))] rT Z (J5 (Bi λY=>Ac [_] [A7 x0 (.n 1),A9 (.n 1) x0] rT Y (C5 hp))) (Ch (Bi λY=>Ac [_] [A7 (.s x0 (.n 1)) (.n 0),A9 (.n 1) x0] rT Y (C5 hp)))))]
   congr 1
   cases hb:(Aq w cs F.length||Nat.beq F.length N)with
   |false=>rw[hv.mpr hb];rfl
   |true=>
    have:v≠0:=λz=>by rw[hv.mp z]at hb;cases hb
    show 2*min 1 v=2
    omega
  rw[ev];obtain⟨p0,hp0⟩:∃p0:Int,p0=F.getD (F.length - 1) 0+(bif Aq w cs F.length||Nat.beq F.length N then 2 else 0):=⟨_,rfl⟩
  rw[←hp0];refine Al (Ad.mpr (Aa (A2 (A1 (i:=0) hl.1) (Ax (E2.mpr ⟨_,hx1.get hk,rfl,rfl⟩))) ?_))
  refine Fg (λrem st'=>∃(cr:List Cn) (p:Int),rem=cr.map Cs/\(∀c,c∈cr->c∈cs)/\SL kc N st.sto.length w st'.loc/\st'.loc 4=some (.int (F.length:Int))/\st'.loc 6=some (.int p)/\Ct σ1 st'.sto/\(cr.map (M3 w)).foldl (Ca F F.length) p=(cs.map (M3 w)).foldl (Ca F F.length) p0) ?_ ?_ _ _ ⟨cs,p0,rfl,λ_ m=>m,hl,rfl,rfl,.refl _,rfl⟩
  ·rintro d rest' ⟨l2,σ2⟩ ⟨cr,p,ge,gm,gl,g4,g6,gx,gf⟩
   cases cr with
   |nil=>cases ge
   |cons c cr=>
    cases ge;have mc:=gm c lq1;refine⟨(hx1.trans gx).get hk,B9 l2 7 (Cs c),rfl,(zDw (F:=F) (c:=c) (p:=p) (loc:=B9 l2 7 (Cs c)) gl g4 g6 rfl (gx.get hF1) (by exact Ar λZ=>A5 [_,_] [A7 (.n 100) x0,A9 x1 (.n 20),A9 x0 (.a x1 (.n 1))] rT Z hN hn) (Nat.le_refl _) (hst c mc) (htx c mc)).mono ?_⟩
    rintro fl ⟨l3,σ3⟩ ⟨rfl,a1,a2,a3,a4⟩
    exact⟨cr,_,rfl,λc m=>gm c (lq4 _ m),a1,a2,a3,gx.trans a4,gf⟩
  ·rintro⟨l2,σ2⟩ ⟨cr,p,ge,gm,gl,g4,g6,gx,gf⟩
   cases cr with
   |cons c cr=>cases ge
   |nil=>
    have gf:p=_:=gf
    refine⟨(hx1.trans gx).get hk,As (Hd (v:=.int p) (A1 gl.2.2.2) (gx.get hF1) (by rw[lq6];exact Ar λZ=>A5 [_,_,_] [A7 x0 x1,A9 x2 (.n 20),A9 (.n 1000) x0,A9 x1 (.a x2 (.n 1))] rT Z hN hsl hn) (A1 g6)) (Aa rfl ?_)⟩
    refine⟨F++[p],gl,(hx1.trans gx).set (Nat.le_refl _),?_,hL.app hok (by rw[gf,hp0]),by rw[lq7,List.length_singleton];exact Ar λZ=>A5 [_,_,_] [A7 (.a x0 (.n 1)) (.a x1 (.n 1)),A7 x2 x0,A9 x1 (.a x2 (.n 1))] rT Z hlt (Bh _ _),?_⟩
    ·rw[Kf (gx.get hF1),List.map_append];rfl
    ·rw[hr,lq7,List.length_singleton];congr 1;exact Gw (λZ=>A5 [_,_] [A7 (.a x1 (.n 1)) x0,A9 x0 (.a x1 (.n 1))] rT Z (Bh _ _)) (λZ=>A5 [_,_] [A7 x0 (.a x1 (.n 1)),B0 (.a x1 (.n 1)) x0] rT Z (B8 (Ar λY=>A5 [_] [A7 x0 (.n 1),A9 (.n 1) x0] rT Y hp)))
 ·rintro⟨l,σ'⟩ ⟨F,hl,hx,hF,hL,hn,hrem⟩
  have h1:=Ef hrem;rw[Dy]at h1;have hp:=hL.pos;have hlen:F.length=N+1:=by exact Gw (λZ=>A5 [_,_,_] [A7 x1 (.a x0 (.n 1)),A9 x0 x2,B0 (.a x2 (.n 1)) x1] rT Z h1 (B8 (Ar λY=>A5 [_] [A7 x0 (.n 1),A9 (.n 1) x0] rT Y hp))) (λZ=>A5 [_,_] [A7 (.a x0 (.n 1)) x1,A9 x1 (.a x0 (.n 1))] rT Z hn)
  exact⟨trivial,Jo (A2 (A1 hl.2.2.2) rfl) (hQ F σ' ⟨hL.zero,λk h1 h2=>hL.step k h1 (by exact Bw λZ=>A5 [_,_,_] [A9 x0 x1,Cg x0 (.a x2 (.n 1)),A9 x1 x2] rT Z hlen h2)⟩ hlen hx hF)⟩
end
section
open Builtin.Str
theorem Nt{c:Mn Bool}{b:Mn Fl}{Q:Fl->St->Prop}(J:Nat->St->Prop) (step:∀n st,J n st->W c st λt st1=>if t=true then W b st1 (zFH (λst2=>∃m,m<n/\J m st2) Q)else Q .next st1):∀(f n:Nat) (st:St),n<f->J n st->W (Eu c b f) st Q
 |0,n,st,h,_=>absurd h (Nat.not_lt_zero _)
 |f+1,n,st,h,j=>by
  obtain⟨t,st1,e1,q1⟩:=step n st j;have e:Eu c b (f+1) st=bif t then Pq (b st1) (Jj (Eu c b f))else .ok .next st1:=by
   show Pq (c st) _=_
   rw[e1];rfl
  cases t with
  |false=>exact⟨.next,st1,e,q1⟩
  |true=>
   obtain⟨fl,st2,e2,q2⟩:=(show W b st1 _ from q1);have e':Eu c b (f+1) st=Jj (Eu c b f) fl st2:=by
    rw[e];show Pq (b st1) _=_
    rw[e2];rfl
   cases fl with
   |next=>
    obtain⟨m,hm,jm⟩:=q2;obtain⟨a,s,e3,q3⟩:=Nt J step f m st2 (by exact Bw λZ=>A5 [_,_,_] [A9 x0 x1,A7 x2 (.a x0 (.n 1)),A7 x1 x2] rT Z h hm) jm
    exact⟨a,s,e'.trans e3,q3⟩
   |cont=>
    obtain⟨m,hm,jm⟩:=q2;obtain⟨a,s,e3,q3⟩:=Nt J step f m st2 (by exact Bw λZ=>A5 [_,_,_] [A9 x0 x1,A7 x2 (.a x0 (.n 1)),A7 x1 x2] rT Z h hm) jm
    exact⟨a,s,e'.trans e3,q3⟩
   |brk=>exact⟨_,_,e',q2⟩
   |ret d=>exact⟨_,_,e',q2⟩
theorem Zd{k:Nat}{ns:List Int}{m:Int}{S:St}(h:S.sto[k]? =some (.list (ns.map D.int))) (hm:ns.min? =some m):P7 [.ref k] S=.ok (.int m) S:=by
 unfold P7 Jt;have hm':zAr ns=some m:=hm
 simp only[h,H1,Option.bind_some,hm',Option.map_some];rfl
theorem Vn{k:Nat}{ns:List Int}{x:Int}{S:St}(h:S.sto[k]? =some (.list (ns.map D.int))) (hm:x∈ns) (hl:ns.length<=1000):Go k (.int x) S=.ok (.int (ns.idxOf x:Nat)) S:=by
 show Hi S.sto[k]? _=_
 rw[h];show Kx ((H2 (ns.map D.int)).bind _) S=_
 rw[H1];show Kx (bif ns.contains x&&decide (ns.length<4294967296)then some (D.int (ns.idxOf x:Nat))else none) S=_
 rw[show(ns.contains x&&decide (ns.length<4294967296))=true from Bool.and_eq_true_iff.mpr ⟨by simpa using hm,decide_eq_true (by exact Bw λZ=>A5 [_] [A9 (.n 4294967296) x0,A9 x0 (.n 1000)] rT Z hl)⟩]
 rfl
noncomputable def Rw (b:Bn):D:=.tup [.int (b.t:Int),.int (b.l:Int),.int ((b.b:Int) - b.t),.int ((b.r:Int) - b.l)]
noncomputable def Ei (fr:List Nat):List D:=(fr.map λ(n:Nat)=>(n:Int)).map D.int
theorem Mi{fr:List Nat}:(Ei fr).length=fr.length:=by unfold Ei;simp
theorem Se{fr:List Nat}{j:Nat}(h:j<fr.length):(fr.map λ(n:Nat)=>(n:Int)).getD j 0=(at0 fr j:Int):=by
 unfold at0;rw[List.getD_eq_getElem?_getD,List.getD_eq_getElem?_getD,List.getElem?_map,List.getElem?_eq_getElem h];rfl
theorem zE6{fr:List Nat}(h:fr≠[]):∃m:Nat,(fr.map λ(n:Nat)=>(n:Int)).min? =some (m:Int)/\m∈fr/\∀x,x∈fr->m<=x:=by
 cases hm:(fr.map λ(n:Nat)=>(n:Int)).min? with
 |none=>exact absurd (List.map_eq_nil_iff.mp (List.min?_eq_none_iff.mp hm)) h
 |some v=>
  obtain⟨h1,h2⟩:=List.min?_eq_some_iff.mp hm
  obtain⟨m,mm,rfl⟩:=List.mem_map.mp h1;exact⟨m,rfl,mm,λx mx=>by have:=h2 _ (List.mem_map.mpr ⟨x,mx,rfl⟩);exact Hj (Bi λZ=>Ac [_,_] [A7 x1 x0,A9 x0 x1] rT Z this)⟩
theorem zEK{fr:List Nat}{m:Nat}(h:m∈fr):∃l:Nat,(fr.map λ(n:Nat)=>(n:Int)).idxOf (m:Int)=l/\l<fr.length/\at0 fr l=m/\∀j,j<l->at0 fr j≠m:=by
 have hm:(m:Int)∈fr.map λ(n:Nat)=>(n:Int):=List.mem_map.mpr ⟨m,h,rfl⟩
 have hlt:=List.idxOf_lt_length_iff.mpr hm;have hlt':(fr.map λ(n:Nat)=>(n:Int)).idxOf (m:Int)<fr.length:=by rw[lq6]at hlt;exact hlt
 refine⟨_,rfl,hlt',?_,λj hj e=>?_⟩
 ·have h1:=List.getElem_idxOf hlt;have h2:=Se hlt';rw[List.getD_eq_getElem?_getD,List.getElem?_eq_getElem hlt]at h2;have h3:(m:Int)=(at0 fr _:Int):=h1.symm.trans h2
  exact Iq (Gh (λZ=>Ac [_,_,_] [A7 x1 x0,Cg x2 x0,B0 x2 x1] rT Z h1 h2) (λZ=>Ac [_,_,_] [A7 x0 x1,B0 x2 x0,Cg x2 x1] rT Z h1 h2))
 ·have hj':j<fr.length:=by exact Bw λZ=>A5 [_,_,_] [A9 x0 x1,A7 x2 x0,A7 x1 x2] rT Z hlt' hj
  have h2:=Se hj';rw[List.getD_eq_getElem?_getD,List.getElem?_eq_getElem (by rw[lq6];exact hj')]at h2
  have:=ne_of_lt_idxOf hj (by rw[lq6];exact hj')
  rw[show(fr.map λ(n:Nat)=>(n:Int))[j]'(by rw[lq6];exact hj')=(at0 fr j:Int)from h2,e]at this
  simp at this
noncomputable def zDa:Mn Bool:=(V4 (Dl Z8 (Ab Ao (A0 7) (A0 8)) (A0 1)) (Dl Eh (Ab Ag (A0 3) (Ab Ao (A0 7) (A0 8))) (A0 6)))
noncomputable def zEh:Mn Fl:=(Ae (bnd (Ab Ao (A0 8) (ret1 (.int 1))) (Af 8)) (ret1 .next))
noncomputable abbrev TA (R C kn kb kf m l:Nat) (k:Int) (loc:Be):Prop:=(loc 0=some (.int (R:Int))/\loc 1=some (.int (C:Int))/\loc 2=some (.ref kn)/\loc 4=some (.ref kb))/\loc 3=some (.ref kf)/\loc 5=some (.int k)/\loc 6=some (.int (m:Int))/\loc 7=some (.int (l:Int))
theorem zES{R C kn kb kf m l:Nat}{k:Int}{fr:List Nat}{σ:Bp}{loc:Be}{Q:Fl->St->Prop}(hA:TA R C kn kb kf m l k loc) (l8:loc 8=some (.int 1)) (hf:σ[kf]? =some (.list (Ei fr))) (hC:fr.length=C) (hC2:C<=20) (hl:l<C) (hm:at0 fr l=m)
  (hQ:∀(r:Nat) loc',TA R C kn kb kf m l k loc'->loc' 8=some (.int (r:Int))->1<=r->l+r<=C->(∀j,l<=j->j<l+r->at0 fr j=m)->Q .next ⟨loc',σ⟩):W (Le zDa zEh) ⟨loc,σ⟩ Q:=by
 refine Nt (λn st'=>∃r:Nat,st'.sto=σ/\TA R C kn kb kf m l k st'.loc/\st'.loc 8=some (.int (r:Int))/\1<=r/\l+r<=C/\(∀j,l<=j->j<l+r->at0 fr j=m)/\n=C - (l+r)) ?_ 1000000 (C - (l+1)) ⟨loc,σ⟩ (by exact Bw λZ=>A5 [_,_] [A9 (.n 1000000) x0,A9 x1 (.n 20),A9 x0 x1] rT Z hC2 (L5 _ _)) ⟨1,rfl,hA,l8,Nat.le_refl _,by exact Ar λZ=>A5 [_,_] [A7 x0 (.a x1 (.n 1)),A7 x1 x0] rT Z hl,λj h1 h2=>by rw[show j=l by exact Gw (λZ=>A5 [_,_] [A7 x1 x0,A9 x0 x1] rT Z h1) (λZ=>A5 [_,_] [A7 x0 x1,A7 x1 (.a x0 (.n 1))] rT Z h2)];exact hm,rfl⟩
 rintro n ⟨l1,σ1⟩ ⟨r,hσ,hA1,h8,r1,r2,hr,hn⟩
 have hσ:σ1=σ:=hσ
 subst hσ;unfold zDa;refine zD3.mpr (Aa (Dc (t:=decide ((l:Int)+r<C)) (A8 (A1 hA1.2.2.2.2) (A1 h8) rfl) (A1 hA1.1.2.1) rfl rfl) ?_)
 by_cases z:(l:Int)+r<C
 ·rw[if_pos (decide_eq_true z)];have hv:=Fk (st:=⟨l1,σ1⟩) (F:=fr.map λ(n:Nat)=>(n:Int)) (i:=(l:Int)+r) hf (by exact Bi λZ=>Ac [_,_] [A7 (.a x0 x1) (.n 0),A9 (.n 1) x1,A9 (.n 0) x0] rT Z (C5 r1) (Az _)) (by rw[lq6];exact Dq λZ=>Ac [_,_,_,_] [A9 x0 (.a x1 x2),A7 (.a x1 x2) x3,Cg x0 x3] rT Z z (Kj hC)) (by rw[lq6];exact Ar λZ=>A5 [_,_] [A7 (.n 4611686018427387904) x0,B0 x0 x1,A9 x1 (.n 20)] rT Z hC hC2)
  rw[show((l:Int)+r).toNat=l+r by omega,Se (by omega)]at hv
  refine Aa (Dc (t:=((at0 fr (l+r):Int)==(m:Int))) (A8 (A1 hA1.2.1) (A8 (A1 hA1.2.2.2.2) (A1 h8) rfl) hv) (A1 hA1.2.2.2.1) rfl rfl) ?_
  by_cases y:at0 fr (l+r)=m
  ·rw[if_pos (beq_iff_eq.mpr (by exact Gh (λZ=>Ac [_,_] [A7 x1 x0,Cg x1 x0] rT Z (Kj y)) (λZ=>Ac [_,_] [A7 x0 x1,B0 x1 x0] rT Z (Kj y))))]
   refine As (Bk (A8 (A1 h8) rfl rfl)) (Aa rfl ⟨C - (l+(r+1)),by exact Ja (Dq λZ=>Ac [(↑n),(↑(C - (l+(r+1)))),(↑(C - (l+r))),(↑C),(↑l),(↑r)] [A9 x0 x1,Cg x0 x2,Cg (.a x2 (.a x4 x5)) x3,B0 (.a x1 (.a x4 (.a x5 (.n 1)))) x3] rT Z (Kj hn) (J5 (Bi λY=>Ac [(↑C),(↑l),(↑r)] [A7 x0 (.a x1 x2),A9 (.a x1 x2) x0] rT Y (C5 r2))) (J5 (Bi λY=>Ac [(↑C),(↑l),(↑r)] [A7 x0 (.a x1 (.a x2 (.n 1))),A7 (.a x1 x2) x0] rT Y z))),r+1,rfl,hA1,?_,by exact Ar λZ=>A5 [(r)] [A7 (.a x0 (.n 1)) (.n 1),A9 (.n 1) x0] rT Z r1,by exact Hj (Bi λZ=>Ac [(↑C),(↑l),(↑r)] [A7 x0 (.a x1 (.a x2 (.n 1))),A7 (.a x1 x2) x0] rT Z z),λj h1 h2=>?_,rfl⟩)
   ·show some (D.int ((r:Int)+1))=_
    congr 2
   ·by_cases q:j<l+r
    ·exact hr j h1 q
    ·rw[show j=l+r by exact Gw (λZ=>A5 [_,_,_] [A7 x2 (.a x0 x1),A9 (.a x0 x1) x2] rT Z (Nat.not_lt.mp q)) (λZ=>A5 [_,_,_] [A7 (.a x0 x1) x2,A7 x2 (.a x0 (.a x1 (.n 1)))] rT Z h2)];exact y
  ·rw[if_neg (λe=>y (by have:=beq_iff_eq.mp e;exact Iq (Gh (λZ=>Ac [_,_] [A7 x1 x0,Cg x1 x0] rT Z this) (λZ=>Ac [_,_] [A7 x0 x1,B0 x1 x0] rT Z this))))]
   exact hQ r l1 hA1 h8 r1 r2 hr
 ·rw[if_neg (λe=>z (of_decide_eq_true e))]
  exact hQ r l1 hA1 h8 r1 r2 hr
end
section
open Builtin.Str
noncomputable def Wm:Mn D:=(Ab Ao (Ab Ao (Eo (A0 3) none (some (A0 7))) (Ab De (D1 (A6 (Ab Ao (A0 6) (A0 11)) Ai)) (A0 10))) (Eo (A0 3) (some (Ab Ao (A0 7) (A0 10))) none))
theorem Wj{fr:List Nat}{n:Nat}:(Ei fr).take n=Ei (fr.take n):=by unfold Ei;rw[List.map_take,List.map_take]
theorem Xr{fr:List Nat}{n:Nat}:(Ei fr).drop n=Ei (fr.drop n):=by unfold Ei;rw[List.map_drop,List.map_drop]
theorem Px{a b:List Nat}:Ei a++Ei b=Ei (a++b):=by unfold Ei;rw[List.map_append,List.map_append]
theorem Q9{w v:Nat}:List.replicate w (D.int (v:Int))=Ei (List.replicate w v):=by unfold Ei;rw[List.map_replicate,List.map_replicate]
theorem W0{k:Nat}{i:Int}{ds:List D}{S:St}{mi m:Mn D}(hm:m S=.ok (.ref k) S) (hi:mi S=.ok (.int i) S) (hk:S.sto[k]? =some (.list ds)) (h2:ds.length<=sizeLine) (h0:0<=i) (h1:i<=ds.length):Eo m none (some mi) S=.ok (.ref S.sto.length) ⟨S.loc,S.sto++[.list (ds.take i.toNat)]⟩:=by
 rw[←zEG ds h0 h1];exact Ax (Re.mpr (Aa hm (Lr.mpr (Lq.mpr (Aa hi (Th.mpr (Aa (Td hk h2) ⟨rfl,rfl⟩)))))))
theorem R7{k:Nat}{i:Int}{ds:List D}{S:St}{mi m:Mn D}(hm:m S=.ok (.ref k) S) (hi:mi S=.ok (.int i) S) (hk:S.sto[k]? =some (.list ds)) (h2:ds.length<=sizeLine) (h0:0<=i) (h1:i<=ds.length):Eo m (some mi) none S=.ok (.ref S.sto.length) ⟨S.loc,S.sto++[.list (ds.drop i.toNat)]⟩:=by
 rw[←Y0 ds h0 h1];exact Ax (Re.mpr (Aa hm (Lq.mpr (Aa hi (Th.mpr (Lr.mpr (Aa (Td hk h2) ⟨rfl,rfl⟩)))))))
theorem Y2{kf l m h w:Nat}{ih iw:Int}{fr:List Nat}{σ:Bp}{loc:Be}(l3:loc 3=some (.ref kf)) (l6:loc 6=some (.int (m:Int))) (l7:loc 7=some (.int (l:Int))) (l10:loc 10=some (.int iw)) (l11:loc 11=some (.int ih)) (hw:iw=w) (hh:ih=h)
  (hf:σ[kf]? =some (.list (Ei fr))) (hlen:fr.length<=20) (hlw:l+w<=fr.length):∃j,Wm ⟨loc,σ⟩=.ok (.ref (σ++j).length) ⟨loc,σ++j++[.list (Ei (put fr l w (m+h)))]⟩:=by
 have hsl:(1000:Nat)<=sizeLine:=by decide
 subst hw hh;have fl:=Mi (fr:=fr);refine⟨[.list (Ei (fr.take l)),.list [.int ((m:Int)+h)],.list (Ei (List.replicate w (m+h))),.list (Ei (fr.take l++List.replicate w (m+h))),.list (Ei (fr.drop (l+w)))],?_⟩
 have e1:Eo (A0 3) none (some (A0 7)) ⟨loc,σ⟩=.ok (.ref σ.length) ⟨loc,σ++[.list (Ei (fr.take l))]⟩:=by
  rw[W0 (A1 l3) (A1 l7) hf (by exact Ar λZ=>A5 [(sizeLine),((Ei fr).length),(fr.length)] [A7 x0 x1,A9 x2 (.n 20),A9 (.n 1000) x0,B0 x1 x2] rT Z hlen hsl fl) (by exact Bi λZ=>Ac [(↑l)] [A7 x0 (.n 0),A9 (.n 0) x0] rT Z (Az _)) (by exact Bi λZ=>Ac [(↑l),(↑(Ei fr).length),(↑fr.length),(↑w)] [A7 x1 x0,A9 (.a x0 x3) x2,Cg x1 x2,A9 (.n 0) x3] rT Z (C5 hlw) (Kj fl) (Az _)),Int.toNat_natCast,Wj]
 have g1:∀x:PO,(σ++[x])[σ.length]? =some x:=λx=>lq3
 have e2:Ab De (D1 (A6 (Ab Ao (A0 6) (A0 11)) Ai)) (A0 10) ⟨loc,σ++[.list (Ei (fr.take l))]⟩=.ok (.ref (σ.length+2)) ⟨loc,σ++[.list (Ei (fr.take l)),.list [.int ((m:Int)+h)],.list (Ei (List.replicate w (m+h)))]⟩:=by
  refine A8 (a:=.ref (σ.length+1)) (b:=.int (w:Int)) (st1:=⟨loc,σ++[.list (Ei (fr.take l)),.list [.int ((m:Int)+h)]]⟩) (Ax (zBy.mpr (Aa (a:=[.int ((m:Int)+h)]) (A2 (A8 (A1 l6) (A1 l11) rfl) rfl) ⟨by show 1<=_;exact Ar λZ=>A5 [_] [A7 x0 (.n 1),A9 (.n 1000) x0] rT Z hsl,?_,?_⟩))) (A1 l10) ?_
  ·show D.ref (σ++[PO.list (Ei (fr.take l))]).length=_
   rw[lq7];rfl
  ·rw[lq8];rfl
  ·rw[Ka (ds:=[.int ((m:Int)+h)]) (by show(σ++[PO.list (Ei (fr.take l)),.list [.int ((m:Int)+h)]])[σ.length+1]? =_;rw[List.getElem?_append_right (by exact Ar λZ=>A5 [(List.length σ)] [A7 (.a x0 (.n 1)) x0] rT Z),show σ.length+1 - σ.length=1 by exact Gw (λZ=>A5 [(List.length σ+1 - List.length σ),(List.length σ)] [A7 x0 (.n 1),A9 (.a x1 (.n 1)) (.a x0 x1)] rT Z (Bh _ _)) (λZ=>A5 [(List.length σ+1 - List.length σ),(List.length σ)] [A7 (.n 1) x0,B0 (.a x0 x1) (.a x1 (.n 1))] rT Z (B8 (Ar λY=>A5 [(List.length σ)] [A7 (.a x0 (.n 1)) x0] rT Y)))];rfl) (by exact Bi λZ=>Ac [(↑w)] [A7 x0 (.n 0),A9 (.n 0) x0] rT Z (Az _)) (by exact Dq λZ=>Ac [(↑w),(↑fr.length),(↑l)] [A9 (.n 4611686018427387904) x0,A9 x1 (.n 20),A9 (.a x2 x0) x1,A9 (.n 0) x2] rT Z (C5 hlen) (C5 hlw) (Az _)) (by show 1*_<=_;exact Ar λZ=>A5 [(w),(fr.length),(l)] [A7 (.n 16777216) (.m 1 x0),A9 x1 (.n 20),A9 (.a x2 x0) x1,A9 (.n 0) x2] rT Z hlen hlw (lq5 _)),Kb]
   rw[show(m:Int)+h=((m+h:Nat):Int)by exact Gh (λZ=>Ac [_,_] [A7 (.a x0 x1) (.a x0 x1)] rT Z) (λZ=>Ac [_,_] [A7 (.a x0 x1) (.a x0 x1)] rT Z),Q9]
   show Gq.ok (D.ref (σ++[PO.list (Ei (fr.take l)),.list [.int ((m+h:Nat):Int)]]).length) (St.mk loc (σ++[PO.list (Ei (fr.take l)),.list [.int ((m+h:Nat):Int)]]++[.list (Ei (List.replicate w (m+h)))]))=_
   rw[lq7,lq8];rfl
 have hf3:∀j:Bp,(σ++j)[kf]? =some (.list (Ei fr)):=λj=>(Ct.app _ _).get hf
 have lt:(Ei (fr.take l)).length=l:=by rw[Mi,List.length_take];omega
 have lr:(Ei (List.replicate w (m+h))).length=w:=by rw[Mi,List.length_replicate]
 have ld:(Ei (fr.drop (l+w))).length<=20:=by rw[Mi,List.length_drop];exact Ar λZ=>A5 [_,_] [A7 (.n 20) x0,A9 x1 (.n 20),A9 x0 x1] rT Z hlen (L5 _ _)
 have e3:Ab Ao (Eo (A0 3) none (some (A0 7))) (Ab De (D1 (A6 (Ab Ao (A0 6) (A0 11)) Ai)) (A0 10)) ⟨loc,σ⟩=.ok (.ref (σ.length+3)) ⟨loc,σ++[.list (Ei (fr.take l)),.list [.int ((m:Int)+h)],.list (Ei (List.replicate w (m+h))),.list (Ei (fr.take l++List.replicate w (m+h)))]⟩:=by
  refine A8 e1 e2 ?_
  rw[Rd (ds:=Ei (fr.take l)) (es:=Ei (List.replicate w (m+h))) (by show(σ++_)[σ.length]? =_;rw[List.getElem?_append_right (Nat.le_refl _),Nat.sub_self];rfl) (by show(σ++_)[σ.length+2]? =_;rw[List.getElem?_append_right (by exact Ar λZ=>A5 [_] [A7 (.a x0 (.n 2)) x0] rT Z),show σ.length+2 - σ.length=2 by exact Gw (λZ=>A5 [_,_] [A7 x0 (.n 2),A9 (.a x1 (.n 2)) (.a x0 x1)] rT Z (Bh _ _)) (λZ=>A5 [_,_] [A7 (.n 2) x0,B0 (.a x0 x1) (.a x1 (.n 2))] rT Z (B8 (Ar λY=>A5 [_] [A7 (.a x0 (.n 2)) x0] rT Y)))];rfl) (by exact Ar λZ=>A5 [_,_,_,_,_,_] [A7 x0 (.a x1 x2),A9 x3 (.n 20),A9 (.a x4 x5) x3,A9 (.n 1000) x0,B0 x1 x4,B0 x2 x5] rT Z hlen hlw hsl lt lr),Px]
  show Gq.ok (D.ref (σ++_).length) (St.mk loc (σ++_++_))=_
  rw[lq7,lq8];rfl
 have e4:Eo (A0 3) (some (Ab Ao (A0 7) (A0 10))) none ⟨loc,σ++[.list (Ei (fr.take l)),.list [.int ((m:Int)+h)],.list (Ei (List.replicate w (m+h))),.list (Ei (fr.take l++List.replicate w (m+h)))]⟩=.ok (.ref (σ.length+4)) ⟨loc,σ++[.list (Ei (fr.take l)),.list [.int ((m:Int)+h)],.list (Ei (List.replicate w (m+h))),.list (Ei (fr.take l++List.replicate w (m+h))),.list (Ei (fr.drop (l+w)))]⟩:=by
  rw[R7 (i:=(l:Int)+w) (A1 l3) (A8 (A1 l7) (A1 l10) rfl) (hf3 _) (by omega) (by omega) (by omega),show((l:Int)+w).toNat=l+w by omega,Xr]
  show Gq.ok (D.ref (σ++_).length) (St.mk loc (σ++_++_))=_
  rw[lq7,lq8];rfl
 refine A8 e3 e4 ?_
 rw[Rd (ds:=Ei (fr.take l++List.replicate w (m+h))) (es:=Ei (fr.drop (l+w))) (by show(σ++_)[σ.length+3]? =_;rw[List.getElem?_append_right (by exact Ar λZ=>A5 [_] [A7 (.a x0 (.n 3)) x0] rT Z),show σ.length+3 - σ.length=3 by exact Gw (λZ=>A5 [_,_] [A7 x0 (.n 3),A9 (.a x1 (.n 3)) (.a x0 x1)] rT Z (Bh _ _)) (λZ=>A5 [_,_] [A7 (.n 3) x0,B0 (.a x0 x1) (.a x1 (.n 3))] rT Z (B8 (Ar λY=>A5 [_] [A7 (.a x0 (.n 3)) x0] rT Y)))];rfl) (by show(σ++_)[σ.length+4]? =_;rw[List.getElem?_append_right (by exact Ar λZ=>A5 [_] [A7 (.a x0 (.n 4)) x0] rT Z),show σ.length+4 - σ.length=4 by exact Gw (λZ=>A5 [_,_] [A7 x0 (.n 4),A9 (.a x1 (.n 4)) (.a x0 x1)] rT Z (Bh _ _)) (λZ=>A5 [_,_] [A7 (.n 4) x0,B0 (.a x0 x1) (.a x1 (.n 4))] rT Z (B8 (Ar λY=>A5 [_] [A7 (.a x0 (.n 4)) x0] rT Y)))];rfl) (by rw[←Px,lq7];exact Ar λZ=>A5 [_,_,_,_,_,_,_] [A7 x0 (.a (.a x1 x2) x3),A9 x4 (.n 20),A9 (.a x5 x6) x4,A9 (.n 1000) x0,B0 x1 x5,B0 x2 x6,A9 x3 (.n 20)] rT Z hlen hlw hsl lt lr ld),Px]
 rfl
end
section
open Builtin.Str
theorem Qs{v:Int}{r:Nat}(h:1<=r):∃w:Nat,1+v.fmod (r:Int)=(w:Int)/\1<=w/\w<=r:=by
 have:=Bu (a:=v) (b:=(r:Int)) (by exact Dq λZ=>Ac [_] [A9 x0 (.n 0),A9 (.n 1) x0] rT Z (C5 h))
 exact⟨(1+v.fmod (r:Int)).toNat,by exact Gh (λZ=>Ac [_,_] [A7 (.a (.n 1) x0) x1,B0 x1 (.a (.n 1) x0)] rT Z (Ch (Bi λY=>Ac [_] [A7 (.a (.n 1) x0) (.n 0),A9 (.n 0) x0] rT Y this.1))) (λZ=>Ac [_,_] [A7 x1 (.a (.n 1) x0),A9 (.a (.n 1) x0) x1] rT Z (G6 _)),by exact Hj (Bi λZ=>Ac [_,_] [A7 x0 (.n 1),A9 (.n 0) x1,A9 (.a (.n 1) x1) x0] rT Z this.1 (G6 _)),by exact Hj (Bi λZ=>Ac [_,_,_] [A7 x0 x1,A7 x2 x0,B0 x1 (.a (.n 1) x2)] rT Z this.2 (Ch (Bi λY=>Ac [_] [A7 (.a (.n 1) x0) (.n 0),A9 (.n 0) x0] rT Y this.1)))⟩
noncomputable def Sh:Mn Fl:=(Ae (bnd (bnd (ret1 (.int 1)) zAi) (Af 9))
 (Ae (Iv (Dl Z8 (A0 5) (bnd (A6 (A0 2) Ai) E0)) (Ae (bnd (Ab Ag (A0 2) (A0 5)) (Af 9))
 (ret1 .next)) (ret1 .next))
 (Ae (bnd (Ab Ao (ret1 (.int 1)) (Ab Dz (A0 9) (A0 8))) (Af 10))
 (Ae (bnd (Ab Ao (ret1 (.int 1)) (Ab Dz (Ab Hk (A0 9) (A0 8)) (Ab M7 (A0 0) (A0 6)))) (Af 11))
 (Ae (bnd (bnd (A0 4) (Da λk=>bnd (Ek (A6 (A0 6) (A6 (A0 7) (A6 (A0 11) (A6 (A0 10) Ai))))) (Bg k))) Dg)
 (Ae (bnd Wm (Af 3))
 (ret1 .next)))))))
noncomputable abbrev TB (R C kn kb:Nat) (loc:Be):Prop:=loc 0=some (.int (R:Int))/\loc 1=some (.int (C:Int))/\loc 2=some (.ref kn)/\loc 4=some (.ref kb)
theorem zBW{R C kn kb kf m l k r:Nat}{fr:List Nat}{bs:List Bn}{ns:List Int}{σ:Bp}{loc:Be}(hA:TA R C kn kb kf m l (k:Int) loc) (l8:loc 8=some (.int (r:Int))) (hf:σ[kf]? =some (.list (Ei fr))) (hb:σ[kb]? =some (.list (bs.map Rw))) (hne:kb≠kf) (hn:σ[kn]? =some (.list (ns.map D.int))) (hnl:ns.length<=1000)
  (hbl:bs.length<=400) (hC:fr.length=C) (hC2:C<=20) (hR2:R<=20) (r1:1<=r) (hr:l+r<=C) (hm:m<R):
  W Sh ⟨loc,σ⟩ λfl st'=>fl=.next/\TB R C kn kb st'.loc/\∃w h kf' j,(1<=w/\w<=r)/\(1<=h/\m+h<=R)/\st'.loc 3=some (.ref kf')/\σ.length<=kf'/\st'.sto=σ.set kb (.list (bs.map Rw++[Rw ⟨m,l,m+h,l+w⟩]))++j/\st'.sto[kf']? =some (.list (Ei (put fr l w (m+h)))):=by
 have hsl:(1000:Nat)<=sizeLine:=by decide
 unfold Sh;refine As rfl ?_
 have go:∀(v:Int) (l9:Be),TA R C kn kb kf m l (k:Int) l9->l9 8=some (.int (r:Int))->l9 9=some (.int v)->W (Ae (bnd (Ab Ao (ret1 (.int 1)) (Ab Dz (A0 9) (A0 8))) (Af 10))
 (Ae (bnd (Ab Ao (ret1 (.int 1)) (Ab Dz (Ab Hk (A0 9) (A0 8)) (Ab M7 (A0 0) (A0 6)))) (Af 11))
 (Ae (bnd (bnd (A0 4) (Da λk=>bnd (Ek (A6 (A0 6) (A6 (A0 7) (A6 (A0 11) (A6 (A0 10) Ai))))) (Bg k))) Dg)
 (Ae (bnd Wm (Af 3))
 (ret1 .next))))) ⟨l9,σ⟩ λfl st'=>fl=.next/\TB R C kn kb st'.loc/\∃w h kf' j,(1<=w/\w<=r)/\(1<=h/\m+h<=R)/\st'.loc 3=some (.ref kf')/\σ.length<=kf'/\st'.sto=σ.set kb (.list (bs.map Rw++[Rw ⟨m,l,m+h,l+w⟩]))++j/\st'.sto[kf']? =some (.list (Ei (put fr l w (m+h)))):=λv l9 hA9 h8 h9=>by
  obtain⟨w,ew,w1,w2⟩:=Qs (v:=v) r1
  obtain⟨h,eh,h1,h2⟩:=Qs (v:=v.fdiv (r:Int)) (r:=R - m) (by exact Ar λZ=>A5 [_,_,_] [A7 x0 (.n 1),A7 x2 x1,A9 x1 (.a x0 x2)] rT Z hm (Bh _ _))
  rw[show((R - m:Nat):Int)=(R:Int) - m by exact Gh (λZ=>Ac [_,_,_] [A7 x2 (.s x0 x1),Cg (.a x2 x1) x0] rT Z (J5 (Bi λY=>Ac [_,_] [A7 x0 x1,A7 x1 x0] rT Y (Gi hm)))) (λZ=>Ac [_,_,_] [A7 (.s x0 x1) x2,B0 (.a x2 x1) x0] rT Z (J5 (Bi λY=>Ac [_,_] [A7 x0 x1,A7 x1 x0] rT Y (Gi hm))))]at eh
  refine As (Bk (A8 rfl (A8 (A1 h9) (A1 h8) (H4 (by exactλZ=>Ac [_] [B0 x0 (.n 0),A9 (.n 1) x0] rT Z (C5 r1)))) rfl)) ?_
  refine As (Bk (A8 rfl (A8 (A8 (A1 (i:=9) h9) (A1 (i:=8) h8) (zCB (by exact⟨λZ=>Ac [(↑r)] [B0 x0 (.n 0),A9 (.n 1) x0] rT Z (C5 r1),Ja (Dq λZ=>Ac [(↑r),(↑C),(↑l)] [A9 (.n 1073741824) x0,A9 x1 (.n 20),A9 (.a x2 x0) x1,A9 (.n 0) x2] rT Z (C5 hC2) (C5 hr) (Az _))⟩))) (A8 (A1 (i:=0) hA9.1.1) (A1 (i:=6) hA9.2.2.2.1) rfl) (H4 (by exactλZ=>Ac [(↑R),(↑m)] [B0 (.s x0 x1) (.n 0),A7 x1 x0] rT Z (Gi hm)))) rfl)) ?_
  rw[ew,eh];refine As (Hd (v:=Rw ⟨m,l,m+h,l+w⟩) (ds:=bs.map Rw) (k:=kb) (A1 (i:=4) hA9.1.2.2.2) hb (by rw[lq6];exact Ar λZ=>A5 [_,_] [A7 x1 x0,A9 x0 (.n 400),A9 (.n 1000) x1] rT Z hbl hsl) ?_) ?_
  ·refine Ax (Lg.mpr (Aa (a:=[.int (m:Int),.int (l:Int),.int (h:Int),.int (w:Int)]) (A2 (A1 (i:=6) hA9.2.2.2.1) (A2 (A2 (A1 (i:=7) hA9.2.2.2.2) (A2 (A2 (A1 (i:=11) rfl) (A2 (A2 (A1 (i:=10) rfl) rfl) rfl)) rfl)) rfl)) ⟨by show 4<=_;exact Ar λZ=>A5 [_] [A7 x0 (.n 4),A9 (.n 1000) x0] rT Z hsl,?_,rfl⟩))
   show D.tup _=D.tup [.int (m:Int),.int (l:Int),.int (((m+h:Nat):Int) - m),.int (((l+w:Nat):Int) - l)]
   rw[show((m+h:Nat):Int) - m=h by exact Gh (λZ=>Ac [(↑m),(↑h)] [A7 (.s (.a x0 x1) x0) x1] rT Z) (λZ=>Ac [(↑m),(↑h)] [A7 x1 (.s (.a x0 x1) x0)] rT Z),show((l+w:Nat):Int) - l=w by exact Gh (λZ=>Ac [(↑l),(↑w)] [A7 (.s (.a x0 x1) x0) x1] rT Z) (λZ=>Ac [(↑l),(↑w)] [A7 x1 (.s (.a x0 x1) x0)] rT Z)]
  ·have hf2:(σ.set kb (.list (bs.map Rw++[Rw ⟨m,l,m+h,l+w⟩])))[kf]? =some (.list (Ei fr)):=Ph hf hne
   obtain⟨j,e⟩:=Y2 (kf:=kf) (l:=l) (m:=m) (h:=h) (w:=w) (fr:=fr) (loc:=B9 (B9 l9 10 (.int (w:Int))) 11 (.int (h:Int))) hA9.2.1 hA9.2.2.2.1 hA9.2.2.2.2 rfl rfl rfl rfl hf2 (by exact Ar λZ=>A5 [_,_] [A7 (.n 20) x0,B0 x0 x1,A9 x1 (.n 20)] rT Z hC hC2) (by exact Ar λZ=>A5 [_,_,_,_,_] [A7 x0 (.a x1 x2),Cg x0 x3,A9 (.a x1 x4) x3,A9 x2 x4] rT Z hC hr w2)
   refine As (Bk e) (Aa rfl ⟨rfl,hA9.1,w,h,_,_,⟨w1,w2⟩,⟨h1,by exact Ar λZ=>A5 [_,_,_,_] [A7 x0 (.a x1 x2),A9 x2 x3,B0 (.a x3 x1) x0] rT Z h2 (B8 (Ar λY=>A5 [_,_] [A7 x0 x1,A7 x1 x0] rT Y hm))⟩,rfl,?_,(lq8 _ _ _),lq3⟩)
   rw[lq7,List.length_set];exact Ar λZ=>A5 [_,_] [A7 (.a x0 x1) x0,A9 (.n 0) x1] rT Z (lq5 _)
 refine Dj (b:=decide ((k:Int)<ns.length)) (Dc (A1 (i:=5) hA.2.2.1) (A2 (A2 (A1 (i:=2) hA.1.2.2.1) rfl) (Nq hn (by rw[lq6];exact Bw λZ=>A5 [_] [A9 (.n 4611686018427387904) x0,A9 x0 (.n 1000)] rT Z hnl))) rfl (by rw[lq6];rfl)) (λz=>?_) λz=>?_
 ·have z:=of_decide_eq_true z;exact As (Bk (A8 (A1 (i:=2) hA.1.2.2.1) (A1 (i:=5) hA.2.2.1) (Fk hn (by exact Bi λZ=>Ac [_] [A7 x0 (.n 0),A9 (.n 0) x0] rT Z (Az _)) z (by exact Ar λZ=>A5 [_] [A7 (.n 4611686018427387904) x0,A9 x0 (.n 1000)] rT Z hnl)))) (Aa rfl (go _ _ hA l8 rfl))
 ·exact Aa rfl (go _ _ hA l8 rfl)
noncomputable def zCu:Mn Fl:=(Ae (bnd (bnd (A6 (A0 3) Ai) P7) (Af 6))
 (Ae (Iv (Dl Z8 (A0 6) (A0 0)) (Ae (bnd (bnd (A0 3) (Da λk=>bnd (A0 6) (Go k))) (Af 7))
 (Ae (bnd (ret1 (.int 1)) (Af 8))
 (Ae (Le zDa zEh)
 Sh))) (ret1 .next))
 (ret1 .next)))
inductive TJ (R C kn kb:Nat) (σ0:Bp) (k:Nat) (st':St):Prop
 |mk (fr:List Nat) (bs:List Bn) (kf:Nat) (hB:TB R C kn kb st'.loc) (h3:st'.loc 3=some (.ref kf)) (hx:Ct σ0 st'.sto) (hf:st'.sto[kf]? =some (.list (Ei fr))) (hb:st'.sto[kb]? =some (.list (bs.map Rw))) (hne:kb≠kf) (S:zCP R C fr bs) (hs:k<=fr.sum∨∀j,j<C->at0 fr j=R) (hl:bs.length<=k)
theorem zDK{R C kn kb k:Nat}{ns:List Int}{σ0:Bp}{st:St}(hR:R<=20) (hC1:1<=C) (hC:C<=20) (hkb:σ0.length<=kb) (hn:σ0[kn]? =some (.list (ns.map D.int))) (hnl:ns.length<=1000) (hk:k<=399) (J:TJ R C kn kb σ0 k st) (l5:st.loc 5=some (.int (k:Int))):
  W zCu st λfl st'=>fl=.next/\TJ R C kn kb σ0 (k+1) st':=by
 obtain⟨fr,bs,kf,hB,h3,hx,hf,hb,hne,S,hs,hl⟩:=J;obtain⟨loc,σ⟩:=st;have hlen:=S.len;obtain⟨m,em,mm,mle⟩:=zE6 (fr:=fr) (λz=>by rw[z]at hlen;simp at hlen;exact A5 [_] [A9 (.n 1) x0,Cg (.n 0) x0] rT hC1 hlen)
 have memat:∀j,j<C->at0 fr j∈fr:=λj hj=>by
  unfold at0;rw[List.getD_eq_getElem?_getD,List.getElem?_eq_getElem (by exact Bw λZ=>A5 [_,_,_] [A9 x0 x1,Cg x0 x2,A7 x1 x2] rT Z hlen hj)]
  exact List.getElem_mem _
 unfold zCu;refine As (Bk (A2 (A2 (A1 h3) rfl) (Zd hf em))) ?_
 obtain⟨l,el,hlt,hal,hfirst⟩:=zEK mm;refine Dj (b:=decide ((m:Int)<(R:Int))) (Dc (A1 (i:=6) rfl) (A1 (i:=0) hB.1) rfl rfl) (λz=>?_) λz=>?_
 ·have z:=of_decide_eq_true z;refine As (Bk (A2 (A1 (i:=3) h3) (Ax (zCn.mpr ⟨⟨_,hf⟩,Aa (A2 (A1 (i:=6) rfl) (Vn hf (List.mem_map.mpr ⟨m,mm,rfl⟩) (by rw[lq6];exact Ar λZ=>A5 [_,_] [A7 (.n 1000) x0,A9 x1 (.n 20),B0 x0 x1] rT Z hC hlen))) ⟨rfl,rfl⟩⟩)))) ?_
  rw[el];refine As rfl (Al (zES (R:=R) (C:=C) (kn:=kn) (kb:=kb) (kf:=kf) (m:=m) (l:=l) (k:=(k:Int)) (fr:=fr) ⟨hB,h3,l5,rfl,rfl⟩ rfl hf hlen hC (by exact Bw λZ=>A5 [_,_,_] [A9 x0 x1,B0 x2 x0,A7 x1 x2] rT Z hlen hlt) hal λr loc' hA' h8 r1 r2 hr=>?_))
  refine(zBW (fr:=fr) (bs:=bs) (ns:=ns) hA' h8 hf hb hne (hx.get hn) hnl (by exact Ar λZ=>A5 [_,_] [A7 (.n 400) x0,A9 x1 (.n 399),A9 x0 x1] rT Z hk hl) hlen hC hR r1 r2 (by exact Ja (Dq λZ=>Ac [_,_] [A9 x0 x1,A7 x1 x0] rT Z z))).mono ?_
  rintro fl ⟨l9,σ9⟩ ⟨rfl,hB9,w,h,kf',j,⟨w1,w2⟩,⟨h1,h2⟩,g3,gl,gs,gf⟩
  have gs:σ9=_:=gs
  refine Aa rfl ⟨rfl,put fr l w (m+h),bs++[⟨m,l,m+h,l+w⟩],kf',hB9,g3,?_,gf,?_,?_,S.step (λj hj=>mle _ (memat j hj)) hfirst (by exact Ar λZ=>A5 [_,_,_,_] [A7 x0 (.a x1 x2),A9 (.a x1 x3) x0,A9 x2 x3] rT Z r2 w2) w1 h1 h2 λj a b=>hr j a (by exact Bw λZ=>A5 [_,_,_,_] [A9 (.a x0 x1) x2,A9 x3 x1,A7 x2 (.a x0 x3)] rT Z w2 b),?_,by rw[lq7,List.length_singleton];exact Ar λZ=>A5 [_,_] [A7 (.a x0 (.n 1)) (.a x1 (.n 1)),A9 x1 x0] rT Z hl⟩
  ·show Ct σ0 σ9
   rw[gs];exact(hx.set hkb).trans (.app _ _)
  ·show σ9[kb]? =_
   rw[gs,List.map_append];exact(Ct.app _ _).get (Kf hb)
  ·have:=(lq2 hb).1
   exact Nat.ne_of_lt (Nat.lt_of_lt_of_le this gl)
  ·have:=zCK (fr:=fr) (l:=l) (w:=w) (m:=m) (h:=h) (by exact Ar λZ=>A5 [_,_,_,_,_] [A7 x0 (.a x1 x2),Cg x0 x3,A9 (.a x1 x4) x3,A9 x2 x4] rT Z hlen r2 w2) w1 h1 λj a b=>hr j a (by exact Bw λZ=>A5 [_,_,_,_] [A9 (.a x0 x1) x2,A9 x3 x1,A7 x2 (.a x0 x3)] rT Z w2 b)
   rcases hs with q|q
   ·exact .inl (by exact Ar λZ=>A5 [_,_,_] [A7 x1 (.a x0 (.n 1)),A9 (.a x2 (.n 1)) x1,A9 x0 x2] rT Z this q)
   ·have:=q l (by exact Bw λZ=>A5 [_,_,_] [A9 x0 x1,B0 x2 x0,A7 x1 x2] rT Z hlen hlt)
    exact .inl (Ar λZ=>A5 [_,_,_,_] [B0 x0 x1,A9 (.n 1) x2,A9 (.a x1 x2) x3,Cg x0 x3] rT hal h1 h2 this)
 ·have z:=of_decide_eq_false z;refine Aa rfl (Aa rfl ⟨rfl,fr,bs,kf,hB,h3,hx,hf,hb,hne,S,.inr λj hj=>?_,by exact Ar λZ=>A5 [_,_] [A7 (.a x0 (.n 1)) x1,A9 x1 x0] rT Z hl⟩)
  have h1:=mle _ (memat j hj);have h2:=S.le j hj;exact Iq (Gh (λZ=>Ac [_,_,_] [A7 x1 x0,A9 x0 x2,A9 x2 x1] rT Z (Int.not_lt.mp z) (C5 h1)) (λZ=>Ac [_,_] [A7 x0 x1,A9 x1 x0] rT Z (C5 h2)))
theorem zBD{R C:Nat}{ns:List Int}{kn:Nat}{st:St}{Q:D->St->Prop}(hR1:1<=R) (hR:R<=20) (hC1:1<=C) (hC:C<=20) (hn:st.sto[kn]? =some (.list (ns.map D.int))) (hnl:ns.length<=1000)
  (hQ:∀bs r σ',zFq R C bs->bs.length<=400->Ct st.sto σ'->σ'[r]? =some (.list (bs.map Rw))->Q (.ref r) ⟨st.loc,σ'⟩):W (Ed [.int (R:Int),.int (C:Int),.ref kn]) st Q:=by
 have hRC:R*C<=400:=Nat.le_trans (Nat.mul_le_mul hR hC) (by decide)
 refine Cy rfl ?_
 refine As (Bk (A8 (st1:=⟨_,st.sto++[.list [.int 0]]⟩) rfl rfl (Ka (k:=st.sto.length) (ds:=[.int 0]) lq3 (by exact Bi λZ=>Ac [_] [A7 x0 (.n 0),A9 (.n 1) x0] rT Z (C5 hC1)) (by exact Dq λZ=>Ac [_] [A9 (.n 4611686018427387904) x0,A9 x0 (.n 20)] rT Z (C5 hC)) (by show 1*_<=_;exact Ar λZ=>A5 [_] [A7 (.n 16777216) (.m 1 x0),A9 x0 (.n 20)] rT Z hC)))) ?_
 refine As rfl (Al (Ad.mpr (Aa (A2 (A2 (A8 rfl rfl (F4 (by rw[E4 (by exact Dq λZ=>Ac [_] [A9 x0 (.s (.n 0) (.n 1000000)),A9 (.n 1) x0] rT Z (C5 hR1)) (by exact Dq λZ=>Ac [_] [A9 (.n 1000000) x0,A9 x0 (.n 20)] rT Z (C5 hR))];rfl))) rfl) (Nm (m:=R*C) (by rw[Int.natCast_mul]) (by exact Ar λZ=>A5 [_] [A7 (.n 100000) x0,A9 x0 (.n 400)] rT Z hRC))) ?_)))
 have e0:L6 (C:Int) [D.int 0]=Ei (List.replicate C 0):=by rw[Kb];exact Q9 (v:=0)
 rw[e0];refine Fg (λrem st'=>∃k m,k+m=R*C/\rem=Di (k:Int) 1 m/\TJ R C kn (st.sto++[PO.list [D.int 0]]++[PO.list (Ei (List.replicate C 0))]).length st.sto k st') ?_ ?_ _ _ ⟨0,R*C,Nat.zero_add _,rfl,List.replicate C 0,[],_,⟨rfl,rfl,rfl,rfl⟩,rfl,((Ct.app _ _).trans (.app _ _)).trans (.app _ _),(Ct.app _ _).get lq3,lq3,?_,zCP.start R C,.inl (lq5 _),Nat.le_refl _⟩
 ·rintro d rest ⟨l,σ'⟩ ⟨k,m,hkm,hrem,J⟩
  cases m with
  |zero=>rw[Kz]at hrem;cases hrem
  |succ m=>
   rw[Gr]at hrem
   cases hrem;refine⟨trivial,B9 l 5 (.int (k:Int)),rfl,?_⟩
   obtain⟨fr,bs,kf,hB,h3,hx,hf,hb,hne,S,hs,hl⟩:=J;refine(zDK (R:=R) (C:=C) (kn:=kn) (k:=k) (ns:=ns) (σ0:=st.sto) (st:=⟨B9 l 5 (.int (k:Int)),σ'⟩) hR hC1 hC ?_ hn hnl (by exact Ar λZ=>A5 [_,_,_] [A7 (.n 399) x0,A9 x1 (.n 400),B0 (.a x0 (.a x2 (.n 1))) x1,A9 (.n 0) x2] rT Z hRC hkm (lq5 _)) ⟨fr,bs,kf,hB,h3,hx,hf,hb,hne,S,hs,hl⟩ rfl).mono ?_
   ·rw[lq7,lq7];exact Ar λZ=>A5 [_,_] [A7 (.a (.a x0 x1) x1) x0,Rx 2 (.n 0) x1] rT Z (lq5 _)
   ·rintro fl st2 ⟨rfl,J2⟩
    exact⟨k+1,m,by exact Gw (λZ=>A5 [_,_,_] [A7 (.a (.a x1 (.n 1)) x2) x0,Cg (.a x1 (.a x2 (.n 1))) x0] rT Z hkm) (λZ=>A5 [_,_,_] [A7 x0 (.a (.a x1 (.n 1)) x2),B0 (.a x1 (.a x2 (.n 1))) x0] rT Z hkm),rfl,J2⟩
 ·rintro⟨l,σ'⟩ ⟨k,m,hkm,hrem,J⟩
  cases m with
  |succ m=>rw[Gr]at hrem;cases hrem
  |zero=>
   obtain⟨fr,bs,kf,hB,h3,hx,hf,hb,hne,S,hs,hl⟩:=J;have hk:k=R*C:=by exact Gw (λZ=>A5 [_,_] [A7 x1 x0,Cg (.a x1 (.n 0)) x0] rT Z hkm) (λZ=>A5 [_,_] [A7 x0 x1,B0 (.a x1 (.n 0)) x0] rT Z hkm)
   have full:∀j,j<C->at0 fr j=R:=by
    rcases hs with q|q
    ·have:=R2 (R:=R) (fr:=fr) (by rw[S.len];exact S.le) (by rw[S.len];exact Ar λZ=>A5 [_,_,_] [A7 x1 x0,Cg (.a x2 (.n 0)) x0,A9 x2 x1] rT Z hkm q)
     rw[S.len]at this;exact this
    ·exact q
   exact⟨trivial,Jo (A2 (A1 hB.2.2.2) rfl) (hQ bs _ σ' (S.full full) (by exact Ar λZ=>A5 [_,_,_] [A7 (.n 400) x0,A9 x1 (.n 400),B0 (.a x2 (.n 0)) x1,A9 x0 x2] rT Z hRC hkm hl) hx hb)⟩
 ·rw[lq7,lq7];show st.sto.length+1+1≠st.sto.length+1
  exactλZ=>A5 [_] [B0 (.a (.a x0 (.n 1)) (.n 1)) (.a x0 (.n 1))] rT Z
end
section
open Builtin.Str
theorem zFy{n:Nat}{j:Nat}(h:j<(Builtin.Range.rangeSize 2 n 2).toNat):2+(j:Int)*2<n:=by
 unfold Builtin.Range.rangeSize at h;simp only[show(2:Int)>0 by decide,if_true]at h
 split at h
 ·omega
 ·simp at h
theorem Yx(n:Nat) (h:n<=63):(Builtin.Range.rangeSize 2 n 2).toNat<=31:=by
 unfold Builtin.Range.rangeSize;simp only[show(2:Int)>0 by decide,if_true]
 split
 ·omega
 ·simp
theorem zCX{xs ds:List D}(r:Bs (λx d=>∃v:Int,x=D.int v) xs ds):∃vs:List Int,xs=vs.map D.int/\vs.length=ds.length:=by
 induction r with
 |nil=>exact⟨[],rfl,rfl⟩
 |cons h _ ih=>
  obtain⟨v,rfl⟩:=h;obtain⟨vs,e,n⟩:=ih;exact⟨v::vs,by rw[e];rfl,by simp[n]⟩
theorem zDk:∀n:Fin 97,((cl (sO (toString (n.val:Int)))).all Is&&(Nat.ble (sO (toString (n.val:Int))).length 2&&Nat.blt (n.val:Int).natAbs.log2 1920))=true:=by decide+kernel
theorem zBG{n:Int}(h0:0<=n) (h1:n<97):∃y:Str,(∀S,Id [.int n] S=.ok (.str y) S)/\(cl y).all Is=true/\y.length<=2:=by
 have:=zDk ⟨n.toNat,by exact Ja (Dq λZ=>Ac [_,_] [A9 (.n 97) x0,A7 x1 (.n 97),B0 x0 x1] rT Z h1 (Ch (Bi λY=>Ac [_] [A7 x0 (.n 0),A9 (.n 0) x0] rT Y h0)))⟩
 rw[show((n.toNat:Nat):Int)=n by exact Gh (λZ=>Ac [_,_] [A7 x1 x0,A9 x0 x1] rT Z (G6 _)) (λZ=>Ac [_,_] [A7 x0 x1,B0 x1 x0] rT Z (Ch (Bi λY=>Ac [_] [A7 x0 (.n 0),A9 (.n 0) x0] rT Y h0)))]at this
 obtain⟨a,bc⟩:=Bool.and_eq_true_iff.mp this;obtain⟨b,c⟩:=Bool.and_eq_true_iff.mp bc;refine⟨sO (toString n),λS=>?_,a,Nat.ble_eq.mp b⟩
 unfold Id;exact C3 (Nat.blt_eq.mp c)
noncomputable def Cn.bn (c:Cn):Bn:=⟨c.t,c.l,c.b,c.r⟩
structure Ll (R C:Nat) (cs:List Cn):Prop where
 til:zFq R C (cs.map Cn.bn)
 tx:∀c,c∈cs->(cl c.x).all Is=true/\c.x.length<=201
 len:cs.length<=400
noncomputable def Xi:Mn Fl:=(Ae (bnd (bnd (A6 (Ab Dz (A0 7) (ret1 (.int 97))) Ai) Id) (Af 9))
 (Ae (Iv (Dl Z8 (Ab Ao (ret1 (.int 3)) (Ab De (ret1 (.int 2)) (A0 7))) (bnd (A6 (A0 0) Ai) E0)) (Ae (bnd (bnd (A6 (Ab Ag (A0 0) (Ab Ao (ret1 (.int 3)) (Ab De (ret1 (.int 2)) (A0 7)))) Ai) F7) (Af 9))
 (ret1 .next)) (ret1 .next))
 (Ae (bnd (bnd (A0 6) (Da λk=>bnd (Ab Ao (A0 8) (Ek (A6 (A0 9) Ai))) (Bg k))) Dg)
 (ret1 .next))))
theorem zCI{ns:List Int}{kc i:Nat}{b:Bn}{cs:List Cn}{σ0 σ:Bp}{loc:Be}(hn:ns.length<=63) (hi:i<=400) (l0:loc 0=some (.scr ns)) (l6:loc 6=some (.ref kc)) (l7:loc 7=some (.int (i:Int))) (l8:loc 8=some (Rw b)) (hk:σ[kc]? =some (.list (cs.map Cs))) (hcl:cs.length<=400) (hx:Ct σ0 σ) (hkc:σ0.length<=kc):
  W Xi ⟨loc,σ⟩ λfl st'=>fl=.next/\st'.loc 0=some (.scr ns)/\st'.loc 6=some (.ref kc)/\Ct σ0 st'.sto/\∃x,((cl x).all Is=true/\x.length<=201)/\st'.sto[kc]? =some (.list ((cs++[Cn.mk b.t b.l b.b b.r x]).map Cs)):=by
 have hsl:(1000:Nat)<=sizeLine:=by decide
 have hm:=Bu (a:=(i:Int)) (b:=97) (by decide);obtain⟨y,ey,y1,y2⟩:=zBG hm.1 hm.2;unfold Xi;refine As (Bk (A2 (A2 (A8 (A1 l7) rfl (H4 (by decide))) rfl) (ey _))) ?_
 have fin:∀(x:Str) (l9:Be) (j:Bp),(cl x).all Is=true->x.length<=201->l9 0=some (.scr ns)->l9 6=some (.ref kc)->l9 8=some (Rw b)->l9 9=some (.str x)->
   W (Ae (bnd (bnd (A0 6) (Da λk=>bnd (Ab Ao (A0 8) (Ek (A6 (A0 9) Ai))) (Bg k))) Dg) (ret1 .next)) ⟨l9,σ++j⟩ λfl st'=>fl=.next/\st'.loc 0=some (.scr ns)/\st'.loc 6=some (.ref kc)/\Ct σ0 st'.sto/\∃x,((cl x).all Is=true/\x.length<=201)/\st'.sto[kc]? =some (.list ((cs++[Cn.mk b.t b.l b.b b.r x]).map Cs)):=λx l9 j x1 x2 a0 a6 a8 a9=>by
  have hk':(σ++j)[kc]? =some (.list (cs.map Cs)):=(Ct.app _ _).get hk
  refine As (Hd (v:=Cs ⟨b.t,b.l,b.b,b.r,x⟩) (A1 a6) hk' (by rw[lq6];omega) (A8 (A1 a8) (Ax (Lg.mpr (Aa (a:=[.str x]) (A2 (A1 a9) rfl) ⟨by show 1<=_;omega,rfl,rfl⟩))) (Ax (Uo.mpr ⟨by show 4+1<=_;omega,rfl,rfl⟩)))) (Aa rfl ⟨rfl,a0,a6,(hx.trans (.app _ _)).set hkc,x,⟨x1,x2⟩,?_⟩)
  rw[Kf hk',List.map_append];rfl
 refine Dj (b:=decide (3+2*(i:Int)<ns.length)) (Dc (A8 rfl (A8 rfl (A1 (i:=7) l7) (F4 rfl)) rfl) (A2 (A2 (A1 (i:=0) l0) rfl) (Ax (Zv.mpr ⟨by exact Bw λZ=>A5 [_] [A9 (.n 4611686018427387904) x0,A9 x0 (.n 63)] rT Z hn,rfl,rfl⟩))) rfl rfl) (λz=>?_) λz=>?_
 ·have z:=of_decide_eq_true z;have hlt:(3+2*(i:Int)).toNat<ns.length:=by exact Ja (Dq λZ=>Ac [_,_,_] [A9 x0 x1,A7 (.a (.n 3) (.m 2 x2)) x0,B0 x1 (.a (.n 3) (.m 2 x2))] rT Z z (Ch (Bi λY=>Ac [_] [A7 (.a (.n 3) (.m 2 x0)) (.n 0),Rx 2 (.n 0) x0] rT Y (Az _))))
  refine Al (Ad.mpr (Ad.mpr (Aa (A2 (A8 (A1 (i:=0) l0) (A8 rfl (A8 rfl (A1 (i:=7) l7) (F4 rfl)) rfl) (Ax (Ss.mpr ⟨⟨by exact Bi λZ=>Ac [_] [A7 (.a (.n 3) (.m 2 x0)) (.n 0),Rx 2 (.n 0) x0] rT Z (Az _),by exact Dq λZ=>Ac [_] [A9 (.n 9223372036854775808) (.a (.n 3) (.m 2 x0)),Rx 2 x0 (.n 400)] rT Z (C5 hi)⟩,_,List.getElem?_eq_getElem hlt,rfl,rfl⟩))) rfl) (zEA λx j h1 h2=>Aa rfl (Aa rfl ?_)))))
  exact fin x _ j h1 h2 l0 l6 l8 rfl
 ·refine Aa rfl ?_
  have:=fin y (B9 loc 9 (.str y)) [] y1 (by exact Ar λZ=>A5 [_] [A7 (.n 201) x0,A9 x0 (.n 2)] rT Z y2) l0 l6 l8 rfl
  rw[List.append_nil]at this;exact this
theorem Vt{c:Cn}{st:St}:Du [Cs c] st=.ok (.tup [.int (c.t:Int),.int (c.l:Int)]) st:=rfl
theorem Qi{R C:Nat}{ns vs:List Int}{kn:Nat}{σ:Bp}{loc:Be}{Q:Fl->St->Prop}(hn:ns.length<=63) (hR1:1<=R) (hR:R<=20) (hC1:1<=C) (hC:C<=20) (l0:loc 0=some (.scr ns)) (l1:loc 1=some (.int (R:Int))) (l2:loc 2=some (.int (C:Int))) (l4:loc 4=some (.ref kn)) (hk:σ[kn]? =some (.list (vs.map D.int))) (hvl:vs.length<=1000)
  (hQ:∀cs r l σ',Ll R C cs->Ct σ σ'->σ'[r]? =some (.list (cs.map Cs))->Q (.ret (.ref r)) ⟨l,σ'⟩):
  W (Ae (bnd (bnd (A6 (A0 1) (A6 (A0 2) (A6 (A0 4) Ai))) Ed) (Af 5))
 (Ae (bnd (D1 Ai) (Af 6))
 (Ae (bnd (bnd (A6 (A0 5) Ai) H0) λsrc=>Bq (Ga 2 (Ay (Aj 7) (Ay (Aj 8) Dt))) src.g Xi src.ds)
 (Ae (E1 (bnd (A6 (A0 6) Ai) (By Du)))
 (ret1 .next))))) ⟨loc,σ⟩ Q:=by
 refine Al (Ad.mpr (Ad.mpr (Aa (A2 (A1 l1) (A2 (A2 (A1 l2) (A2 (A2 (A1 l4) rfl) rfl)) rfl)) (zBD hR1 hR hC1 hC hk hvl λbs r σ1 T hbl x1 hr=>Aa rfl ?_))))
 refine As (st1:=⟨B9 (B9 loc 5 (.ref r)) 6 (.ref σ1.length),σ1++[.list []]⟩) rfl ?_
 refine Al (Ad.mpr (Ad.mpr (Aa (A2 (A1 (i:=5) rfl) rfl) (zAG.mpr ⟨_,(Ct.app _ _).get hr,?_⟩))))
 rw[Jh];refine Fg (λrem st'=>∃(i:Nat) (cs:List Cn),rem=(bs.zipIdx.drop i).map (λp=>D.tup [.int (p.2:Int),Rw p.1])/\cs.map Cn.bn=bs.take i/\i<=bs.length/\(∀c,c∈cs->(cl c.x).all Is=true/\c.x.length<=201)/\st'.loc 0=some (.scr ns)/\st'.loc 6=some (.ref σ1.length)/\Ct σ1 st'.sto/\st'.sto[σ1.length]? =some (.list (cs.map Cs))) ?_ ?_ _ _ ⟨0,[],rfl,rfl,lq5 _,λ_ m=>(nomatch m),l0,rfl,.app _ _,lq3⟩
 ·rintro d rest ⟨l,σ2⟩ ⟨i,cs,hrem,hcs,hi,htx,a0,a6,x2,hc⟩
  cases hz:bs.zipIdx.drop i with
  |nil=>rw[hz]at hrem;cases hrem
  |cons p ps=>
   rw[hz]at hrem
   cases hrem;obtain⟨hp,hps⟩:=Cw hz.symm;obtain⟨hb,hpi⟩:=Pg hp;obtain⟨b,k⟩:=p;obtain rfl:i=k:=hpi.symm
   have hb:bs[i]? =some b:=hb
   have hil:=(lq2 hb).1;have hcl:cs.length<=400:=by
    have:=congrArg List.length hcs
    rw[lq6,List.length_take]at this;omega
   refine⟨x2.get hr,B9 (B9 l 7 (.int (i:Int))) 8 (Rw b),rfl,(zCI (b:=b) (i:=i) (loc:=B9 (B9 l 7 (.int (i:Int))) 8 (Rw b)) hn (by omega) a0 a6 rfl rfl hc hcl x2 (Nat.le_refl _)).mono ?_⟩
   rintro fl ⟨l3,σ3⟩ ⟨rfl,b0,b6,x3,x,hx,hc3⟩
   refine⟨i+1,cs++[Cn.mk b.t b.l b.b b.r x],by rw[←hps],?_,hil,λc m=>?_,b0,b6,x3,hc3⟩
   ·rw[List.map_append,hcs,List.take_add_one,hb];rfl
   ·rcases List.mem_append.mp m with m|m
    ·exact htx c m
    ·rw[lq0 m];exact hx
 ·rintro⟨l,σ2⟩ ⟨i,cs,hrem,hcs,hi,htx,a0,a6,x2,hc⟩
  have hlen:bs.length<=i:=by
   have:=congrArg List.length hrem
   rw[lq6,List.length_drop,List.length_zipIdx]at this;simp at this
   omega
  rw[List.take_of_length_le hlen]at hcs;subst hcs;have hcl:cs.length<=400:=by rw[lq6]at hbl;exact hbl
  refine⟨x2.get hr,Al (Ad.mpr (Ad.mpr (Aa (A2 (A1 a6) rfl) (Qn (λ_ _=>Vt) hc hcl (((List.pairwise_map (f:=Cn.bn)).mp T.ord).imp λ{a b} h=>h) (λc m=>?_) (Aa rfl (hQ cs _ _ _ ⟨T,htx,hcl⟩ ((x1.trans x2).trans (.app _ _)) lq3))))))⟩
  have:=(T.good c.bn (List.mem_map.mpr ⟨c,m,rfl⟩)).2
  show c.bn.l<1000
  omega
theorem zBf{R C:Nat}{ns:List Int}{gr:Bool}{st:St}{Q:D->St->Prop}(hn:ns.length<=63) (hR1:1<=R) (hR:R<=20) (hC1:1<=C) (hC:C<=20)
  (hQ:∀cs r σ',Ll R C cs->Ct st.sto σ'->σ'[r]? =some (.list (cs.map Cs))->Q (.ref r) ⟨st.loc,σ'⟩):W (Ee [.scr ns,.int (R:Int),.int (C:Int),.bool gr]) st Q:=by
 have hsl:(1000:Nat)<=sizeLine:=by decide
 have hRC:R*C<=400:=Nat.le_trans (Nat.mul_le_mul hR hC) (by decide)
 refine Cy rfl ?_
 refine Al (Ad.mpr (Ad.mpr (Aa (a:=⟨Di 2 2 (Builtin.Range.rangeSize 2 ((min ns.length 42:Nat):Int) 2).toNat,λ_=>True⟩) (A2 (A2 rfl (A2 (A2 (A2 (A2 (A2 rfl (Ax (Zv.mpr ⟨by exact Bw λZ=>A5 [_] [A9 (.n 4611686018427387904) x0,A9 x0 (.n 63)] rT Z hn,rfl,rfl⟩))) rfl) rfl) rfl) rfl)) (Ax (X7.mpr ⟨?_,?_,rfl⟩))) ?_)))
 ·show(okR 2&&okR (min (ns.length:Int) 42)&&(decide (1<=(2:Int))&&decide ((2:Int)<1000)))=true
  rw[Bool.and_eq_true_iff,Bool.and_eq_true_iff];exact⟨⟨by decide,Cl.mpr ⟨by omega,by omega⟩⟩,by decide⟩
 ·show(⟨Di 2 2 (Builtin.Range.rangeSize 2 (min (ns.length:Int) 42) 2).toNat,λ_=>True⟩:Gz)=_
  rw[show min (ns.length:Int) 42=((min ns.length 42:Nat):Int)by omega]
 have hrl:=Yx (min ns.length 42) (by omega);refine F1 (λ_=>true) (λd x _=>∃v:Int,x=.int v) (λl=>l 0=some (.scr ns)) (by show(Di _ _ _).length<=_;rw[Dy];exact Ar λZ=>A5 [_,_] [A7 x0 x1,A9 (.n 1000) x0,A9 x1 (.n 31)] rT Z hsl hrl) (λ_ _ _ _ _ h=>h) (λ_ _=>trivial) rfl (λd hd l σ' hA hx=>?_) λxs σ' hx r=>?_
 ·obtain⟨j,hj,rfl⟩:=Mj hd;have h2:=zFy hj;have hlt:(2+(j:Int)*2).toNat<ns.length:=by omega
  exact⟨B9 l 7 _,rfl,hA,Aa rfl ⟨rfl,rfl,.refl _,λ_=>Aa (A8 (A1 (i:=0) hA) rfl (Ax (Ss.mpr ⟨⟨by omega,by exact Dq λZ=>Ac [_,_,_] [A9 (.n 9223372036854775808) (.a (.n 2) x0),A9 x1 (.n 63),A7 x2 x1,A9 (.a (.n 2) x0) x2] rT Z (C5 hn) (Gi hlt) (G6 _)⟩,_,List.getElem?_eq_getElem hlt,rfl,rfl⟩))) ⟨rfl,.refl _,_,rfl⟩⟩⟩
 ·rw[D6]at r;obtain⟨vs,rfl,hvl⟩:=zCX r;have hvl:vs.length=(Di _ _ _).length:=hvl
  rw[Dy]at hvl;refine Aa rfl ?_
  cases gr with
  |true=>
   refine Dj (b:=true) rfl (λ_=>?_) λz=>by cases z
   refine As (Bk (A8 (a:=.ref (σ'++[PO.list (vs.map D.int)]).length) (st1:=⟨_,σ'++[PO.list (vs.map D.int)]++[.list [.int 0]]⟩) rfl (A8 rfl rfl (F4 (a:=(R:Int)) (b:=(C:Int)) (by rw[E4 (by exact Dq λZ=>Ac [_] [A9 x0 (.s (.n 0) (.n 1000000)),A9 (.n 1) x0] rT Z (C5 hR1)) (by exact Dq λZ=>Ac [_] [A9 (.n 1000000) x0,A9 x0 (.n 20)] rT Z (C5 hR))];rfl))) (Ka (ds:=[.int 0]) lq3 (by rw[←Int.natCast_mul];exact Bi λZ=>Ac [_] [A7 x0 (.n 0),A9 (.n 0) x0] rT Z (Az _)) (by rw[←Int.natCast_mul];exact Dq λZ=>Ac [_] [A9 (.n 4611686018427387904) x0,A9 x0 (.n 400)] rT Z (C5 hRC)) (by rw[←Int.natCast_mul,Int.toNat_natCast];show 1*_<=_;exact Ar λZ=>A5 [_] [A7 (.n 16777216) (.m 1 x0),A9 x0 (.n 400)] rT Z hRC)))) (Aa rfl ?_)
   rw[←Int.natCast_mul];refine Qi (vs:=(List.replicate (R*C) 0).map λ(n:Nat)=>(n:Int)) hn hR1 hR hC1 hC rfl rfl rfl rfl (by
    show(σ'++[PO.list (vs.map D.int)]++[PO.list [D.int 0]]++[PO.list (L6 ((R*C:Nat):Int) [D.int 0])])[(σ'++[PO.list (vs.map D.int)]++[PO.list [D.int 0]]).length]? =_
    rw[Kb,lq3];congr 2
    exact Q9 (v:=0)) (by rw[lq6,List.length_replicate];exact Ar λZ=>A5 [_] [A7 (.n 1000) x0,A9 x0 (.n 400)] rT Z hRC) λcs r l σ2 ok x2 hr=>?_
   exact hQ cs r σ2 ok ((((hx.trans (.app _ _)).trans (.app _ _)).trans (.app _ _)).trans x2) hr
  |false=>
   refine Dj (b:=false) rfl (λz=>by cases z) λ_=>Aa rfl ?_
   refine Qi (vs:=vs) hn hR1 hR hC1 hC rfl rfl rfl rfl lq3 (by exact Ar λZ=>A5 [_,_] [A7 (.n 1000) x0,A9 x1 (.n 31),B0 x0 x1] rT Z hrl hvl) λcs r l σ2 ok x2 hr=>?_
   exact hQ cs r σ2 ok ((hx.trans (.app _ _)).trans x2) hr
end
section
open Builtin.Str
theorem Yt{α:Type}{R:α->α->Prop}:∀{l:List α},l.Pairwise R->∀{a b:α},a∈l->b∈l->a=b∨R a b∨R b a
 |[],_,_,_,m,_=>nomatch m
 |x::l,h,a,b,ma,mb=>by
  rw[List.pairwise_cons]at h;rcases List.mem_cons.mp ma with e1|ma'<;>rcases List.mem_cons.mp mb with e2|mb'
  ·exact .inl (e1.trans e2.symm)
  ·exact .inr (.inl (e1▸h.1 b mb'))
  ·exact .inr (.inr (e2▸h.1 a ma'))
  ·exact Yt h.2 ma' mb'
section
variable {R C:Nat}{cs:List Cn}
theorem Ll.good(ok:Ll R C cs){c:Cn}(m:c∈cs):(c.t<c.b/\c.b<=R)/\c.l<c.r/\c.r<=C:=ok.til.good c.bn (List.mem_map.mpr ⟨c,m,rfl⟩)
theorem Ll.same(ok:Ll R C cs){a b:Cn}(ma:a∈cs) (mb:b∈cs){i j:Nat}(ha:a.bn.In i j) (hb:b.bn.In i j):a.bn=b.bn:=by
 rcases Yt ok.til.dis (List.mem_map.mpr ⟨a,ma,rfl⟩) (List.mem_map.mpr ⟨b,mb,rfl⟩)with h|h|h
 ·exact h
 ·exact absurd hb (h i j ha)
 ·exact absurd ha (h i j hb)
theorem Ll.ends(ok:Ll R C cs) (w:Bool):zCT (lo w) (hi w) cs (Aq w cs) (bif w then C else R) where
 lt c m:=by have:=ok.good m;cases w;exact this.1.1;exact this.2.1
 le c m:=by have:=ok.good m;cases w;exact this.1.2;exact this.2.2
 beg c m:=Hc m
 fin c m:=by
  have g:=ok.good m
  cases w with
  |false=>
   show Aq false cs c.b=true∨c.b=R
   rcases Nat.lt_or_eq_of_le g.1.2 with z|z
   ·obtain⟨b,mb,hb⟩:=ok.til.cov c.b c.l z (by exact Bw λZ=>A5 [_,_,_] [A9 x1 x0,A7 x0 x2,A9 x2 x1] rT Z g.2.1 g.2.2)
    obtain⟨d,md,rfl⟩:=List.mem_map.mp mb;have h1:d.t<=c.b/\c.b<d.b:=hb.1
    rcases Nat.lt_or_eq_of_le h1.1 with q|q
    ·have e:=ok.same m md (i:=c.b - 1) (j:=c.l) ⟨⟨by show c.t<=_;exact Ar λZ=>A5 [_,_,_] [A7 x1 x0,A7 x0 x2,A9 x2 (.a x1 (.n 1))] rT Z g.1.1 (Bh _ _),by show _<c.b;exact Bw λZ=>A5 [_,_] [A9 x0 x1,B0 (.a x1 (.n 1)) x0] rT Z (B8 (Ar λY=>A5 [_,_] [A7 x0 (.n 1),A7 x1 x0,A9 (.n 0) x1] rT Y g.1.1 (lq5 _)))⟩,Nat.le_refl _,g.2.1⟩ ⟨⟨by show d.t<=_;exact Ar λZ=>A5 [_,_,_] [A7 x1 x0,A7 x0 x2,A9 x2 (.a x1 (.n 1))] rT Z q (Bh _ _),by show _<d.b;exact Bw λZ=>A5 [_,_,_] [A9 x0 x1,A7 x2 x0,A9 x1 x2] rT Z h1.2 (L5 _ _)⟩,hb.2⟩
     have:c.b=d.b:=congrArg Bn.b e
     exact .inl (False.elim (A5 [_,_] [A7 x0 x1,Cg x0 x1] rT h1.2 this))
    ·exact .inl (q▸Hc (w:=false) md)
   ·exact .inr z
  |true=>
   show Aq true cs c.r=true∨c.r=C
   rcases Nat.lt_or_eq_of_le g.2.2 with z|z
   ·obtain⟨b,mb,hb⟩:=ok.til.cov c.t c.r (by exact Bw λZ=>A5 [_,_,_] [A9 x1 x0,A7 x0 x2,A9 x2 x1] rT Z g.1.1 g.1.2) z
    obtain⟨d,md,rfl⟩:=List.mem_map.mp mb;have h1:d.l<=c.r/\c.r<d.r:=hb.2
    rcases Nat.lt_or_eq_of_le h1.1 with q|q
    ·have e:=ok.same m md (i:=c.t) (j:=c.r - 1) ⟨⟨Nat.le_refl _,g.1.1⟩,by show c.l<=_;exact Ar λZ=>A5 [_,_,_] [A7 x1 x0,A7 x0 x2,A9 x2 (.a x1 (.n 1))] rT Z g.2.1 (Bh _ _),by show _<c.r;exact Bw λZ=>A5 [_,_] [A9 x0 x1,B0 (.a x1 (.n 1)) x0] rT Z (B8 (Ar λY=>A5 [_,_] [A7 x0 (.n 1),A7 x1 x0,A9 (.n 0) x1] rT Y g.2.1 (lq5 _)))⟩ ⟨hb.1,by show d.l<=_;exact Ar λZ=>A5 [_,_,_] [A7 x1 x0,A7 x0 x2,A9 x2 (.a x1 (.n 1))] rT Z q (Bh _ _),by show _<d.r;exact Bw λZ=>A5 [_,_,_] [A9 x0 x1,A7 x2 x0,A9 x1 x2] rT Z h1.2 (L5 _ _)⟩
     have:c.r=d.r:=congrArg Bn.r e
     exact .inl (False.elim (A5 [_,_] [A7 x0 x1,Cg x0 x1] rT h1.2 this))
    ·exact .inl (q▸Hc (w:=true) md)
   ·exact .inr z
theorem Ll.cn(ok:Ll R C cs) (hR:1<=R/\R<=20) (hC:1<=C/\C<=20):Z2 R C cs:=
 ⟨ok.len,((List.pairwise_map (f:=Cn.bn)).mp ok.til.ord).imp λ{a b} h=>h,λc m=>by have:=ok.good m;exact⟨Ar λZ=>A5 [_,_] [A7 x1 x0,A7 x0 x1] rT Z this.1.1,Ar λZ=>A5 [_,_] [A7 x0 x1,A9 x1 x0] rT Z this.1.2⟩,λc m=>by have:=ok.good m;exact⟨Ar λZ=>A5 [_,_] [A7 x1 x0,A7 x0 x1] rT Z this.2.1,Ar λZ=>A5 [_,_] [A7 x0 x1,A9 x1 x0] rT Z this.2.2⟩,hR.1,hC.1,by exact Ar λZ=>A5 [_] [A7 (.n 60) x0,A9 x0 (.n 20)] rT Z hR.2,by exact Ar λZ=>A5 [_] [A7 (.n 60) x0,A9 x0 (.n 20)] rT Z hC.2,λc m=>(ok.tx c m).1⟩
variable {Fy Fx Ly Lx:List Int}
noncomputable def Ff (cs:List Cn) (Fy Fx:List Int) (c:Cn):Qb:=Jr Fy Fx (c.mv (kq (Aq false cs) 0) (kq (Aq true cs) 0))
theorem P2{w:Bool}:(D5 cs).map (M3 w)=cs.map λc=>((kq (Aq w cs) 0 (lo w c):Int),(kq (Aq w cs) 0 (hi w c):Int),rm w c.x):=by
 unfold D5;rw[List.map_map]
 cases w<;>rfl
theorem Fw{c:Cn}(m:c∈cs):c.mv (kq (Aq false cs) 0) (kq (Aq true cs) 0)∈D5 cs:=List.mem_map.mpr ⟨c,m,rfl⟩
theorem zFv(ok:Ll R C cs) (hR:1<=R/\R<=20) (hC:1<=C/\C<=20) (g:U5 (D5 cs) (kq (Aq false cs) 0 R) (kq (Aq true cs) 0 C) Fy Fx) (LY:Oo (cs.map (M3 false)) (Aq false cs) R Ly) (LX:Oo (cs.map (M3 true)) (Aq true cs) C Lx) (ny:Ly.length=R+1) (nx:Lx.length=C+1):
  zCA cs (Ff cs Fy Fx) R C Ly Lx (Ir Fy (kq (Aq false cs) 0 R)) (Ir Fx (kq (Aq true cs) 0 C)):=by
 have ey:∀i,i<=R->(Aq false cs i=true∨i=R)->Ly.getD i 0=((Fy.getD (kq (Aq false cs) 0 i) 0).toNat:Int):=λi h1 h2=>by
  have:=Ro (ok.ends false) LY (P2 (w:=false)▸g.ly) g.ny h1 h2
  rw[this,←Fo g.ly (by rw[g.ny];exact Nat.lt_succ_of_le (Ck _ h1))]
 have ex:∀i,i<=C->(Aq true cs i=true∨i=C)->Lx.getD i 0=((Fx.getD (kq (Aq true cs) 0 i) 0).toNat:Int):=λi h1 h2=>by
  have:=Ro (ok.ends true) LX (P2 (w:=true)▸g.lx) g.nx h1 h2
  rw[this,←Fo g.lx (by rw[g.nx];exact Nat.lt_succ_of_le (Ck _ h1))]
 have hsz:=g.size;refine⟨ny,nx,⟨hR.2,hC.2⟩,λc m=>(ok.good m).1,λc m=>(ok.good m).2,λc m=>⟨ey c.t (by have:=ok.good m;exact Ar λZ=>A5 [_,_,_] [A7 x0 x1,A7 x1 x2,A9 x2 x0] rT Z this.1.1 this.1.2) (.inl (Hc (w:=false) m)),ey c.b (ok.good m).1.2 ((ok.ends false).fin c m)⟩,λc m=>⟨ex c.l (by have:=ok.good m;exact Ar λZ=>A5 [_,_,_] [A7 x0 x1,A7 x1 x2,A9 x2 x0] rT Z this.2.1 this.2.2) (.inl (Hc (w:=true) m)),ex c.r (ok.good m).2.2 ((ok.ends true).fin c m)⟩,by rw[ey R (Nat.le_refl _) (.inr rfl)];rfl,by rw[ex C (Nat.le_refl _) (.inr rfl)];rfl,λc m=>?_,λc m=>g.fits (Fw m),⟨by show(Fy.getD _ 0).toNat+1<=_;exact Ar λZ=>A5 [_] [A7 (.n 4081) (.a x0 (.n 1)),A9 x0 (.n 4080)] rT Z hsz.1,by show(Fx.getD _ 0).toNat+1<=_;exact Ar λZ=>A5 [_] [A7 (.n 4081) (.a x0 (.n 1)),A9 x0 (.n 4080)] rT Z hsz.2⟩⟩
 have:=g.box (Fw m)
 exact⟨this.1,Nat.lt_succ_of_le this.2.1,Nat.lt_succ_of_le this.2.2⟩
theorem back{b:Nat->Bool}{sp:List Sp}{F:List Int}(L:Bf sp F){x y:Nat}(hx:kq b 0 x<F.length) (h:(F.getD (kq b 0 x) 0).toNat<(F.getD (kq b 0 y) 0).toNat):x<y:=by
 rcases Nat.lt_or_ge x y with z|z
 ·exact z
 ·have:=Nu L (Ck (b:=b) (a:=0) x z) hx
  exact Bw λZ=>A5 [_,_,_] [A7 x0 x1,A9 (.a x1 (.m 2 x2)) x0,Rx 2 (.n 0) x2] rT h this (lq5 _)
theorem Yb(ok:Ll R C cs) (g:U5 (D5 cs) (kq (Aq false cs) 0 R) (kq (Aq true cs) 0 C) Fy Fx):∀a,a∈cs.map (Ff cs Fy Fx)->∀b,b∈cs.map (Ff cs Fy Fx)->∀y x,M9 a y x->¬Qd b y x:=λa ma b mb y x h v=>by
 obtain⟨c,mc,rfl⟩:=List.mem_map.mp ma;obtain⟨d,md,rfl⟩:=List.mem_map.mp mb;have gc:=ok.good mc;have gd:=ok.good md;have b1:=(g.box (Fw mc)).1;have b2:=(g.box (Fw md)).1;have b1:(Ff cs Fy Fx c).n<(Ff cs Fy Fx c).s/\(Ff cs Fy Fx c).w<(Ff cs Fy Fx c).e:=b1
 have b2:(Ff cs Fy Fx d).n<(Ff cs Fy Fx d).s/\(Ff cs Fy Fx d).w<(Ff cs Fy Fx d).e:=b2
 obtain⟨h1,h2,h3⟩:=h;obtain⟨v1,v2,v3⟩:=v;have ly:∀i,i<=R->kq (Aq false cs) 0 i<Fy.length:=λi hi=>by rw[g.ny];exact Nat.lt_succ_of_le (Ck _ hi)
 have lx:∀i,i<=C->kq (Aq true cs) 0 i<Fx.length:=λi hi=>by rw[g.nx];exact Nat.lt_succ_of_le (Ck _ hi)
 have o1:c.l<d.r:=back (b:=Aq true cs) g.lx (lx _ (by exact Ar λZ=>A5 [_,_,_] [A7 x1 x0,A7 x0 x2,A9 x2 x1] rT Z gc.2.1 gc.2.2)) (show(Ff cs Fy Fx c).w<(Ff cs Fy Fx d).e by exact Or.elim h1 (λhd19=>Or.elim v1 (λhd20=>Bw λZ=>A5 [_,_,_,_] [A9 x1 x0,A7 x2 x1,A7 x0 x3,B0 x3 x2] rT Z b2.2 h2 hd20) (λhd20=>Bw λZ=>A5 [_,_,_] [A9 x1 x0,A7 x0 x2,B0 x2 x1] rT Z h2 hd20)) (λhd19=>Or.elim v1 (λhd21=>Bw λZ=>A5 [_,_,_,_] [A9 x1 x0,A7 x2 x1,A7 x0 x3,B0 x3 x2] rT Z b2.2 h2 hd21) (λhd21=>Bw λZ=>A5 [_,_,_] [A9 x1 x0,A7 x0 x2,B0 x2 x1] rT Z h2 hd21)))
 have o2:d.l<c.r:=back (b:=Aq true cs) g.lx (lx _ (by exact Ar λZ=>A5 [_,_,_] [A7 x0 x1,A7 x1 x2,A9 x2 x0] rT Z gd.2.1 gd.2.2)) (show(Ff cs Fy Fx d).w<(Ff cs Fy Fx c).e by exact Or.elim h1 (λhd22=>Or.elim v1 (λhd23=>Bw λZ=>A5 [_,_,_] [A9 x0 x1,A7 x2 x0,Cg x2 x1] rT Z h3 hd23) (λhd23=>Bw λZ=>A5 [_,_,_,_] [A9 x0 x1,A7 x1 x2,A7 x3 x0,Cg x3 x2] rT Z b2.2 h3 hd23)) (λhd22=>Or.elim v1 (λhd24=>Bw λZ=>A5 [_,_,_] [A9 x0 x1,A7 x2 x0,Cg x2 x1] rT Z h3 hd24) (λhd24=>Bw λZ=>A5 [_,_,_,_] [A9 x0 x1,A7 x1 x2,A7 x3 x0,Cg x3 x2] rT Z b2.2 h3 hd24)))
 have o3:c.t<d.b:=back (b:=Aq false cs) g.ly (ly _ (by exact Ar λZ=>A5 [_,_,_] [A7 x1 x0,A7 x0 x2,A9 x2 x1] rT Z gc.1.1 gc.1.2)) (show(Ff cs Fy Fx c).n<(Ff cs Fy Fx d).s by exact Or.elim h1 (λhd25=>Bw λZ=>A5 [_,_,_] [A9 x1 x0,A7 x2 x1,Cg x2 x0] rT Z v3 hd25) (λhd25=>Bw λZ=>A5 [_,_,_,_] [A9 x1 x0,A7 x0 x2,A7 x3 x1,Cg x3 x2] rT Z b1.1 v3 hd25))
 have o4:d.t<c.b:=back (b:=Aq false cs) g.ly (ly _ (by exact Ar λZ=>A5 [_,_,_] [A7 x0 x1,A7 x1 x2,A9 x2 x0] rT Z gd.1.1 gd.1.2)) (show(Ff cs Fy Fx d).n<(Ff cs Fy Fx c).s by exact Or.elim h1 (λhd26=>Bw λZ=>A5 [_,_,_,_] [A9 x0 x1,A7 x2 x0,A7 x1 x3,B0 x3 x2] rT Z b1.1 v2 hd26) (λhd26=>Bw λZ=>A5 [_,_,_] [A9 x0 x1,A7 x1 x2,B0 x2 x0] rT Z v2 hd26))
 have e:=ok.same mc md (i:=max c.t d.t) (j:=max c.l d.l) ⟨⟨by show c.t<=_;omega,by show _<c.b;omega⟩,by show c.l<=_;omega,by show _<c.r;omega⟩ ⟨⟨by show d.t<=_;omega,by show _<d.b;omega⟩,by show d.l<=_;omega,by show _<d.r;omega⟩
 have e1:c.l=d.l:=congrArg Bn.l e
 have e2:c.r=d.r:=congrArg Bn.r e
 have w1:(Ff cs Fy Fx c).w=(Ff cs Fy Fx d).w:=congrArg (λi=>(Fx.getD (kq (Aq true cs) 0 i) 0).toNat) e1
 have w2:(Ff cs Fy Fx c).e=(Ff cs Fy Fx d).e:=congrArg (λi=>(Fx.getD (kq (Aq true cs) 0 i) 0).toNat) e2
 exact Or.elim h1 (λhd91=>Or.elim v1 (λhd92=>A5 [_,_,_] [A7 x0 x1,Cg x0 x2,B0 x1 x2] rT h2 w1 hd92) (λhd92=>A5 [_,_,_] [A7 x1 x0,B0 x0 x2,Cg x1 x2] rT h3 w2 hd92)) (λhd91=>Or.elim v1 (λhd93=>A5 [_,_,_] [A7 x0 x1,Cg x0 x2,B0 x1 x2] rT h2 w1 hd93) (λhd93=>A5 [_,_,_] [A7 x1 x0,B0 x0 x2,Cg x1 x2] rT h3 w2 hd93))
theorem Ut(ok:Ll R C cs) (g:U5 (D5 cs) (kq (Aq false cs) 0 R) (kq (Aq true cs) 0 C) Fy Fx):Xg (D5 cs) (Jr Fy Fx)=zAj cs (Ff cs Fy Fx):=by
 have e:(D5 cs).map (Jr Fy Fx)=cs.map (Ff cs Fy Fx):=by unfold D5;rw[List.map_map];rfl
 have t:∀B,Mz (D5 cs) (Jr Fy Fx) B=Mz cs (Ff cs Fy Fx) B:=λB=>by
  unfold Mz D5;rw[List.foldl_map];rfl
 unfold Xg zAj;rw[t,e,V0 (λb m=>?_) (Yb ok g)]
 obtain⟨c,mc,rfl⟩:=List.mem_map.mp m;have:=(g.box (Fw mc)).1
 exact⟨Nat.le_of_lt this.1,Nat.le_of_lt this.2⟩
end
theorem N5:∀{cs:List Cn},(∀c,c∈cs->(cl c.x).all Is=true)->∃ps,Do (cs.map Cs)=some ps/\PyData.canLayAll0 ps=true/\PyData.depthAll ps<=49
 |[],_=>⟨[],rfl,rfl,by simp[PyData.depthAll]⟩
 |c::cs,h=>by
  obtain⟨ps,e1,e2,e3⟩:=N5 (cs:=cs) λc m=>h c (lq4 _ m)
  have hx:=zEE (h c lq1);refine⟨.tuple [.int c.t,.int c.l,.int ((c.b:Int) - c.t),.int ((c.r:Int) - c.l),.str c.x]::ps,?_,?_,?_⟩
  ·rw[List.map_cons];show(Ks (Cs c)).bind (λx=>(Do (cs.map Cs)).map (x:: ·))=_
   rw[e1];rfl
  ·simp[PyData.canLayAll0,PyData.canLay0,hx,e2]
  ·have:PyData.depth (.tuple [.int c.t,.int c.l,.int ((c.b:Int) - c.t),.int ((c.r:Int) - c.l),.str c.x])<=49:=by simp[PyData.depth,PyData.depthAll]
   rw[PyData.depthAll];omega
end
section
open Builtin.Str
noncomputable def Po:Mn Fl:=(Ae (bnd (bnd (A6 (A0 0) (A6 (A0 1) (A6 (A0 2) (A6 (A0 3) Ai)))) Ee) (Af 4))
 (Ae (bnd (Ek (A6 (A0 1) (A6 (A0 2) (A6 (bnd (A6 (A0 4) Ai) F5) Ai)))) (Af 5))
 (Ae (bnd (bnd (A6 (A0 5) Ai) Kh) (Af 6))
 (Ae (bnd (bnd (A6 (A0 4) (A6 (bnd (A6 (A0 4) (A6 (A0 1) (A6 (ret1 (.int 0)) Ai))) D4) (A6 (bnd (A6 (A0 4) (A6 (A0 2) (A6 (ret1 (.int 1)) Ai))) D4) Ai))) Ec) (Af 7))
 (Ae (E1 (R0 (bnd (A0 6) (Pr "str")) (R0 (Ab Eh (A0 6) (A0 7)) (Ab Eh (Ab Ag (A0 5) (ret1 (.int 2))) (A0 4)))))
 (ret1 .next))))))
theorem Z3{R C:Nat}{ns:List Int}{gr:Bool}{σ:Bp}{loc:Be}(hn:ns.length<=63) (hR:1<=R/\R<=20) (hC:1<=C/\C<=20) (h0:Fa σ) (l0:loc 0=some (.scr ns)) (l1:loc 1=some (.int (R:Int))) (l2:loc 2=some (.int (C:Int))) (l3:loc 3=some (.bool gr)):
  W Po ⟨loc,σ⟩ λfl st'=>fl=.ret (.bool true)/\Fa st'.sto:=by
 have hsl:(1000:Nat)<=sizeLine:=by decide
 unfold Po;refine Al (Ad.mpr (Ad.mpr (Aa (A2 (A1 l0) (A2 (A2 (A1 l1) (A2 (A2 (A1 l2) (A2 (A2 (A1 l3) rfl) rfl)) rfl)) rfl)) (zBf hn hR.1 hR.2 hC.1 hC.2 λcs kc σ1 ok x1 hc=>Aa rfl ?_))))
 have h01:=h0.ext x1;have hcl:=ok.len;refine Al (Ad.mpr (Lg.mpr (Aa (a:=[.int (R:Int),.int (C:Int),.ref σ1.length]) (st1:=⟨B9 loc 4 (.ref kc),σ1++[.list (cs.map Cs)]⟩) (A2 (A1 (i:=1) l1) (A2 (A2 (A1 (i:=2) l2) (A2 (A2 (A2 (A2 (A1 (i:=4) rfl) rfl) (Ax (Yr hc (by rw[lq6];omega) ⟨rfl,rfl⟩))) rfl) rfl)) rfl)) ⟨by show 3<=_;omega,Aa rfl ?_⟩)))
 have hc2:(σ1++[PO.list (cs.map Cs)])[kc]? =some (.list (cs.map Cs)):=(Ct.app _ _).get hc
 have hd2:(σ1++[PO.list (cs.map Cs)])[σ1.length]? =some (.list (cs.map Cs)):=lq3
 have h02:=h01.ext (.app σ1 [PO.list (cs.map Cs)]);generalize σ1++[PO.list (cs.map Cs)]=σ2 at hc2 hd2 h02
 refine Al (Ad.mpr (Ad.mpr (Aa (A2 (A1 (i:=5) rfl) rfl) (zAz h02 (ok.cn hR hC) ⟨hR.2,hC.2⟩ (λc m=>⟨(ok.good m).1.1,(ok.good m).2.1⟩) (λc m=>(ok.tx c m).2) hd2 λFy Fx x σ3 g hx h03 k3=>Aa rfl ?_))))
 have hc3:=k3.2 _ _ hc2;have hd3:=k3.2 _ _ hd2;refine Al (Ad.mpr (Ad.mpr (Ad.mpr (Aa (A1 (i:=4) rfl) (Ad.mpr (Ad.mpr (Ad.mpr (Aa (A2 (A1 (i:=4) rfl) (A2 (A2 (A1 (i:=1) l1) rfl) rfl)) (Tv (w:=false) hR.2 hcl (λc m=>(ok.good m).1.1) (λc m=>(ok.tx c m).2) hc3 λLy σ4 LY ny x4 hy=>?_)))))))))
 refine Ad.mpr (Ad.mpr (Ad.mpr (Aa (A2 (A1 (i:=4) rfl) (A2 (A2 (A1 (i:=2) l2) rfl) rfl)) (Tv (w:=true) hC.2 hcl (λc m=>(ok.good m).2.1) (λc m=>(ok.tx c m).2) (x4.get hc3) λLx σ5 LX nx x5 hx5=>Aa rfl (Aa rfl (Aa rfl ?_))))))
 refine So (zFv ok hR hC g LY LX ny nx) hcl (h03.ext (x4.trans x5)) ((x4.trans x5).get hc3) (x5.get hy) hx5 λz σ6 hz h06 k6=>Aa rfl ?_
 have hc6:=k6.2 _ _ ((x4.trans x5).get hc3);have hd6:=k6.2 _ _ ((x4.trans x5).get hd3);have exz:cl x=cl z:=by rw[hx,hz,Ut ok g]
 refine Al (Ad.mpr (Yu.mpr (Aa (a:=.bool true) rfl (Aa (a:=true) rfl ?_))))
 rw[if_pos rfl];refine Yu.mpr (Aa (a:=.bool true) (A8 (A1 (i:=6) rfl) (A1 (i:=7) rfl) (by show Gq.ok (D.bool (cl x==cl z)) _=_;rw[exz,beq_self_eq_true])) (Aa (a:=true) rfl ?_))
 rw[if_pos rfl];obtain⟨ps,f1,f2,f3⟩:=N5 (cs:=cs) λc m=>(ok.tx c m).1
 refine Jw (Aa (A8 (A1 (i:=5) rfl) rfl rfl) (Aa (A1 (i:=4) rfl) (Sy (ds:=cs.map Cs) hd6 hc6 f1 f2 f3 (Aa rfl ⟨rfl,h06⟩))))
theorem zDl(ns:List Int) (hn:ns.length<=63):∃σ' k,Y7 [.scr ns] ⟨Br,[.ctab Ob 24 29 qL none]⟩=.ok (.bool true) ⟨Br,σ'⟩/\σ'[0]? =some (.ctab Ob 24 29 qL k):=by
 suffices h:W (Y7 [.scr ns]) ⟨Br,[.ctab Ob 24 29 qL none]⟩ (λd st'=>d=.bool true/\st'.loc=Br/\Fa st'.sto)by
  obtain⟨d,⟨l,σ'⟩,e,rfl,hl,k,e2,_⟩:=h
  cases hl;exact⟨σ',k,e,e2⟩
 have h0:Fa [.ctab Ob 24 29 qL none]:=⟨none,rfl,λm q=>by cases q⟩
 refine Cy rfl ?_
 refine Al (Ad.mpr (Ad.mpr (Ad.mpr (Ad.mpr (Aa rfl (zDd (by decide) (by decide) (by exact Bw λZ=>A5 [_] [A9 (.n 4611686018427387904) x0,A9 x0 (.n 63)] rT Z hn) (Aa rfl (zAP λR hR hR2=>Aa rfl ?_))))))))
 refine Al (Ad.mpr (Ad.mpr (Ad.mpr (Ad.mpr (Aa rfl (zDd (by decide) (by decide) (by exact Bw λZ=>A5 [_] [A9 (.n 4611686018427387904) x0,A9 x0 (.n 63)] rT Z hn) (Aa rfl (zAP λC hC hC2=>Aa rfl ?_))))))))
 generalize hv:ns.getD (2:Int).toNat 0=v
 have at2:∀S:St,S.loc 0=some (.scr ns)->bnd (A6 (A0 0) (A6 (ret1 (.int 2)) Ai)) Dn S=.ok (.int v) S:=λS h=>A2 (A2 (A1 h) rfl) (Ax (zDd (by decide) (by decide) (by exact Bw λZ=>A5 [_] [A9 (.n 4611686018427387904) x0,A9 x0 (.n 63)] rT Z hn) ⟨by rw[hv],rfl⟩))
 have e8:v.fmod 8=v % 8:=Int.fmod_eq_emod_of_nonneg v (by decide)
 have e64:v.fmod 64=v % 64:=Int.fmod_eq_emod_of_nonneg v (by decide)
 refine As (Bk (A8 (A8 (at2 _ rfl) rfl (H4 (by decide))) rfl rfl)) ?_
 have fin:∀(R C:Int) (g:Bool) (loc:Be),1<=R->R<=20->1<=C->C<=20->(g=true->R<=9/\C<=9)->g=(v.fmod 8==5)->loc 0=some (.scr ns)->loc 1=some (.int R)->loc 2=some (.int C)->loc 3=some (.bool g)->
   W (Ae (Iv (Dl Eh (Ab Dz (bnd (A6 (A0 0) (A6 (ret1 (.int 2)) Ai)) Dn) (ret1 (.int 64))) (ret1 (.int 13))) (Ae (bnd (Ab Ao (A0 1) (ret1 (.int 5))) (Af 1)) (Ae (bnd (Ab Ao (A0 2) (ret1 (.int 5))) (Af 2)) (ret1 .next))) (ret1 .next)) Po) ⟨loc,[.ctab Ob 24 29 qL none]⟩ λfl st'=>fl=.ret (.bool true)/\Fa st'.sto:=λR C g loc r1 r2 c1 c2 hg eg l0 l1 l2 l3=>by
  refine Dj (b:=v.fmod 64==13) (Dc (A8 (at2 _ l0) rfl (H4 (by decide))) rfl rfl rfl) (λz=>?_) λz=>?_
  ·have z:v.fmod 64=13:=beq_iff_eq.mp z
   have hg:=hg (by rw[eg,beq_iff_eq];omega)
   obtain⟨R,rfl⟩:∃r:Nat,R=r:=⟨R.toNat,by exact Gh (λZ=>Ac [_,_] [A7 x0 x1,B0 x1 x0] rT Z (Ch (Bi λY=>Ac [_] [A7 x0 (.n 0),A9 (.n 1) x0] rT Y r1))) (λZ=>Ac [_,_] [A7 x1 x0,A9 x0 x1] rT Z (G6 _))⟩
   obtain⟨C,rfl⟩:∃c:Nat,C=c:=⟨C.toNat,by exact Gh (λZ=>Ac [_,_] [A7 x0 x1,B0 x1 x0] rT Z (Ch (Bi λY=>Ac [_] [A7 x0 (.n 0),A9 (.n 1) x0] rT Y c1))) (λZ=>Ac [_,_] [A7 x1 x0,A9 x0 x1] rT Z (G6 _))⟩
   exact As (Bk (A8 (A1 l1) rfl rfl)) (As (Bk (A8 (A1 (i:=2) l2) rfl rfl)) (Aa rfl (Z3 (R:=R+5) (C:=C+5) hn (by omega) (by omega) h0 l0 rfl rfl l3)))
  ·obtain⟨R,rfl⟩:∃r:Nat,R=r:=⟨R.toNat,by exact Gh (λZ=>Ac [_,_] [A7 x0 x1,B0 x1 x0] rT Z (Ch (Bi λY=>Ac [_] [A7 x0 (.n 0),A9 (.n 1) x0] rT Y r1))) (λZ=>Ac [_,_] [A7 x1 x0,A9 x0 x1] rT Z (G6 _))⟩
   obtain⟨C,rfl⟩:∃c:Nat,C=c:=⟨C.toNat,by exact Gh (λZ=>Ac [_,_] [A7 x0 x1,B0 x1 x0] rT Z (Ch (Bi λY=>Ac [_] [A7 x0 (.n 0),A9 (.n 1) x0] rT Y c1))) (λZ=>Ac [_,_] [A7 x1 x0,A9 x0 x1] rT Z (G6 _))⟩
   exact Aa rfl (Z3 (R:=R) (C:=C) hn (by exact⟨Hj (Bi λZ=>Ac [_] [A7 x0 (.n 1),A9 (.n 1) x0] rT Z r1),Hj (Bi λZ=>Ac [_] [A7 (.n 20) x0,A9 x0 (.n 20)] rT Z r2)⟩) (by exact⟨Hj (Bi λZ=>Ac [_] [A7 x0 (.n 1),A9 (.n 1) x0] rT Z c1),Hj (Bi λZ=>Ac [_] [A7 (.n 20) x0,A9 x0 (.n 20)] rT Z c2)⟩) h0 l0 l1 l2 l3)
 have post:∀{m:Mn Fl}{st:St},W m st (λfl st'=>fl=.ret (.bool true)/\Fa st'.sto)->W m st λfl st'=>match fl with|.ret d=>d=.bool true/\(⟨Br,st'.sto⟩:St).loc=Br/\Fa (⟨Br,st'.sto⟩:St).sto|_=>D.none=.bool true/\(⟨Br,st'.sto⟩:St).loc=Br/\Fa (⟨Br,st'.sto⟩:St).sto:=λh=>h.mono λfl st' q=>by
  obtain⟨rfl,t⟩:=q;exact⟨rfl,rfl,t⟩
 refine post ?_
 have m1:=Bu (a:=R) (b:=4) (by decide);have m2:=Bu (a:=C) (b:=4) (by decide);refine Dj (b:=v.fmod 8==5) rfl (λz=>?_) λz=>?_
 ·exact As (Bk (A8 rfl (A8 rfl rfl (H4 (by decide))) rfl)) (As (Bk (A8 rfl (A8 rfl rfl (H4 (by decide))) rfl)) (Aa rfl (fin (6+R.fmod 4) (6+C.fmod 4) (v.fmod 8==5) _ (by exact Bi λZ=>Ac [_] [A7 (.a (.n 6) x0) (.n 1),A9 (.n 0) x0] rT Z m1.1) (by exact Bi λZ=>Ac [_] [A7 (.n 20) (.a (.n 6) x0),A7 x0 (.n 4)] rT Z m1.2) (by exact Bi λZ=>Ac [_] [A7 (.a (.n 6) x0) (.n 1),A9 (.n 0) x0] rT Z m2.1) (by exact Bi λZ=>Ac [_] [A7 (.n 20) (.a (.n 6) x0),A7 x0 (.n 4)] rT Z m2.2) (λ_=>by exact⟨Bi λZ=>Ac [_] [A7 (.n 9) (.a (.n 6) x0),A7 x0 (.n 4)] rT Z m1.2,Bi λZ=>Ac [_] [A7 (.n 9) (.a (.n 6) x0),A7 x0 (.n 4)] rT Z m2.2⟩) rfl rfl rfl rfl rfl)))
 ·exact Aa rfl (fin R C (v.fmod 8==5) _ hR hR2 hC hC2 (λq=>by rw[q]at z;cases z) rfl rfl rfl rfl rfl)
end
section
open W
theorem zG9:PySem.Challenge.rw_uf030034_10.Holds:=hd (by
 intro w s₀ s₁ mg mb G Y fa o pm cd doc dV kV ho hd hcd hD hmg hg args vals as hpre hlay hrd hwl hlo;have KX:=kIn_of Y;refine Ground.open G ?_
 intro T B D TE TW;wrow_args hpre hlay hrd hwl hlo
 have hs:((recsOf (view pw Hq)).find? λe=>e.name==sO "in_order").isSome=true:=by kernel_rfl
 obtain⟨dr,hr⟩:=Option.isSome_iff_exists.mp hs;have hT:TabsAt [(49,45)] s₁.heap:=λq m=>by rw[lq0 m];exact tab_of T KX hr (by kernel_rfl)
 have L:Co ⟨pw,w,ghostOf s₁.heap [(49,45)],s₁.os,s₁.gens⟩ (hK w.params) 49 45:=⟨⟨ghost_K hT KX (by kernel_rfl),⟨mg,ghost_ns hT T.g⟩,⟨mb,ghost_ns hT T.b,T.builtins⟩,(ghost_top hT T).nolimit⟩,zAe hT T⟩
 have hm:mg (sO "law")=some (.ref 141):=mg_of KX T.g (by kernel_rfl)
 have hn:((defOf (view pw Hq) PySem.Challenge.rw_uf030034_10.name).get hX).1.name=sO "law":=by kernel_rfl
 exact V7 hT (zDt L) (by decide) (by rw[hn,hm]at hmg;cases hmg;rfl) (by assumption) (by assumption) hg (λ_=>rfl) (by kernel_rfl) (zDl _ (by omega)))
end
end Mine.Internal
set_option maxRecDepth 100000 in
set_option maxHeartbeats 8000000 in
theorem PySem.Challenge.cw_uf030034_10_holds : PySem.Challenge.rw_uf030034_10.Holds := by
  exact Mine.Internal.zG9
