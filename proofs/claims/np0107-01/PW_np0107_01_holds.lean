import PyProof.Rows.All
import Wide.All
import OpenK.AllK
import Wide.FinOn
import PyProof.TableCode
import Lean
import PySem.Challenge.RW_np0107_01
set_option Elab.async false
set_option maxRecDepth 100000
set_option maxHeartbeats 8000000
set_option autoImplicit false
set_option linter.all false
set_option genSizeOf false
set_option genSizeOfSpec false
set_option genInjectivity false
set_option bootstrap.genMatcherCode false
set_option backward.match.sparseCases false
set_option tactic.hygienic false
open List (getElem?_eq_getElem length_set getElem?_set_self getElem?_set_ne getElem?_append_left getElem?_append_right mem_singleton getElem?_eq_none dropLast_eq_take reverse_cons size_toArray replicate_succ foldl_cons length_eq_zero_iff append_nil append_toArray all_eq_true all_cons mem_cons mem_toArray take_of_length_le length_drop length_take drop_zero take_length length_map length_range any_eq_true mem_range getElem_mem find?_cons mem_cons_of_mem mem_cons_self nodup_cons not_mem_nil mem_of_find?_eq_some length_pos_iff zip_cons_cons lookup_cons filterMap_cons lookup_append cons_append length_cons forIn_nil forIn_cons getElem?_take_of_lt take_append_drop drop_drop of_mem_zip getElem?_map length_append map_map cons_ne_nil map_cons getElem?_cons_succ length_reverse findIdx?_cons lookup_cons_self filter_cons_of_pos filter_cons_of_neg set_comm set_set map_reverse isEmpty_iff mem_map drop_eq_nil_iff append_assoc drop_of_length_le mem_of_mem_take map_append flatMap_cons mem_append mem_flatMap nil_append map_take flatMap_nil map_replicate filter_nil append_cons length_replicate length_nil perm_append_comm flatMap_append contains_iff_mem dropLast_concat head?_drop getElem?_drop filter_append getLast?_concat take_zero drop_eq_getElem_cons getElem?_replicate getElem?_range)
open Nat (le_of_not_lt le_refl le_total sub_eq_zero_of_le min_eq_left min_eq_right lt_succ_of_le min_le_right min_le_left lt_of_lt_of_le le_trans lt_irrefl lt_trans zero_le succ_le_succ lt_of_le_of_lt le_add_right not_lt_zero add_le_add_left le_succ sub_self not_lt ne_of_gt le_add_left ne_of_lt lt_succ_self lt_of_succ_lt_succ le_of_succ_le_succ eq_of_beq_eq_true zero_add add_sub_cancel_left mul_le_mul sub_le le_succ_of_le lt_or_ge succ_mul le_of_eq mul_le_mul_right eq_zero_or_pos succ_pos add_zero add_assoc add_comm)
theorem Internal.aL{a b:Bool}(h:(a&&b)=true):a=true:=by cases a<;>first|rfl|exact h
theorem Internal.aR{a b:Bool}(h:(a&&b)=true):b=true:=by cases a<;>first|exact h|exact absurd h Bool.false_ne_true
theorem Internal.ai{a b:Prop}(x:a)(y:b):a/\b:=⟨x,y⟩
theorem Internal.tr:True:=⟨⟩
theorem Internal.bf:¬false=true:=Bool.false_ne_true
theorem Internal.oj{α:Type}{a b:α}(h:some a=some b):a=b:=Option.some.inj h
theorem Internal.bl{m n:Nat}(h:Nat.ble m n=true):m<=n:=Nat.le_of_ble_eq_true h
theorem Internal.nn{α:Type}{r:α}{P:Prop}(e:none=some r):P:=nomatch e
theorem Internal.cps{P:Prop}(h:∀G:Prop,(P->G)->G):P:=h P id
@[elab_as_elim] theorem Internal.Rw{α:Sort _}{a b:α}{P:α->Prop}(h:a=b)(p:P b):P a:=h▸p
@[elab_as_elim] theorem Internal.Lw{α:Sort _}{a b:α}{P:α->Prop}(h:b=a)(p:P b):P a:=h▸p
section
namespace Internal.L
set_option genCtorIdx false in inductive N where
 |a (i:Nat)
 |n (k:Nat)
 |p (x y:N)
 |m (k:Nat) (x:N)
 |r (x:N) (k:Nat)
noncomputable def N.ctorIdx(x:N):Nat:=N.casesOn x (fun y_=>0) (fun y_=>1) (fun y_ y_=>2) (fun y_ y_=>3) (fun y_ y_=>4)
set_option genCtorIdx false in inductive Z where
 |w (i:Nat)
 |n (k:Nat)
 |p (x y:Z)
 |s (x y:Z)
 |m (k:Nat) (x:Z)
 |r (x:Z) (k:Nat)
 |g (x:Z)
 |c (x:N)
noncomputable def Z.ctorIdx(x:Z):Nat:=Z.casesOn x (fun y_=>0) (fun y_=>1) (fun y_ y_=>2) (fun y_ y_=>3) (fun y_ y_=>4) (fun y_ y_=>5) (fun y_=>6) (fun y_=>7)
noncomputable def at_(l:List Nat)(i:Nat):Nat:=List.rec (fun y_=>0) (fun a y_ f i=>Nat.rec a (fun j y_=>f j) i) l i
noncomputable def Mj(l:List Int)(i:Nat):Int:=List.rec (fun y_=>0) (fun a y_ f i=>Nat.rec a (fun j y_=>f j) i) l i
noncomputable def N.d(c:List Nat)(x:N):Nat:=N.rec (fun i=>at_ c i) (fun k=>k) (fun y_ y_ a b=>a+b) (fun k y_ a=>k*a) (fun y_ k a=>a*k) x
noncomputable def Z.d(c:List Nat)(z:List Int)(x:Z):Int:=Z.rec (fun i=>Mj z i) (fun k=>@OfNat.ofNat Int k instOfNat) (fun y_ y_ a b=>a+b) (fun y_ y_ a b=>a-b) (fun k y_ a=>@OfNat.ofNat Int k instOfNat*a) (fun y_ k a=>a*@OfNat.ofNat Int k instOfNat) (fun y_ a=>-a) (fun x=>(x.d c:Nat)) x
set_option genCtorIdx false in inductive F where
 |le (x y:N)
 |lt (x y:N)
 |eq (x y:N)
 |Le (x y:Z)
 |Lt (x y:Z)
 |Eq (x y:Z)
noncomputable def F.ctorIdx(x:F):Nat:=F.casesOn x (fun y_ y_=>0) (fun y_ y_=>1) (fun y_ y_=>2) (fun y_ y_=>3) (fun y_ y_=>4) (fun y_ y_=>5)
def F.d(c:List Nat)(z:List Int)(f:F):Prop:=F.rec (fun x y=>x.d c<=y.d c) (fun x y=>x.d c<y.d c) (fun x y=>x.d c=y.d c) (fun x y=>x.d c z<=y.d c z) (fun x y=>x.d c z<y.d c z) (fun x y=>x.d c z=y.d c z) f
noncomputable def add(a:List Int):List Int->List Int:=List.rec (fun b=>b) (fun x y_ f b=>List.rec (x::f []) (fun y t y_=>(x+y)::f t) b) a
noncomputable def sc(k:Int)(a:List Int):List Int:=List.rec [] (fun x y_ f=>(k*x)::f) a
noncomputable def one(i:Nat):List Int:=Nat.rec [1] (fun y_ f=>0::f) i
structure P where
 k:Int
 A:List Int
 B:List Int
noncomputable def P.add(p q:P):P:=⟨p.k+q.k,L.add p.A q.A,L.add p.B q.B⟩
noncomputable def P.sc(j:Int)(p:P):P:=⟨j*p.k,L.sc j p.A,L.sc j p.B⟩
noncomputable def N.l(x:N):P:=N.rec (fun i=>⟨0,one i,[]⟩) (fun k=>⟨k,[],[]⟩) (fun y_ y_ a b=>a.add b) (fun k y_ a=>a.sc k) (fun y_ k a=>a.sc k) x
noncomputable def Z.l(x:Z):P:=Z.rec (fun i=>⟨0,[],one i⟩) (fun k=>⟨k,[],[]⟩) (fun y_ y_ a b=>a.add b) (fun y_ y_ a b=>a.add (b.sc (-1))) (fun k y_ a=>a.sc k) (fun y_ k a=>a.sc k) (fun y_ a=>a.sc (-1)) (fun x=>x.l) x
noncomputable def dot(a:List Int):List Int->Int:=List.rec (fun y_=>0) (fun x y_ f v=>List.rec 0 (fun y t y_=>x*y+f t) v) a
noncomputable def up(c:List Nat):List Int:=c.map fun k:Nat=>(k:Int)
noncomputable def P.v(c:List Nat)(z:List Int)(p:P):Int:=p.k+dot p.A (up c)+dot p.B z
theorem ym(a:List Int):dot a []=0:=by cases a<;>rfl
theorem oB:∀a b v:List Int,dot (add a b) v=dot a v+dot b v
 |[],b=>@fun v=>(Int.zero_add _).symm
 |x::a,[]=>by
  intro v
  cases v with
  |nil=>rfl
  |cons y v=>show x*y+dot (add a []) v=x*y+dot a v+0;rw[oB a [] v,show dot [] v=0 from rfl,Int.add_zero,Int.add_zero]
 |x::a,y::b=>by
  intro v
  cases v with
  |nil=>rfl
  |cons w v=>show(x+y)*w+dot (add a b) v=x*w+dot a v+(y*w+dot b v);rw[oB a b v,Int.add_mul,Int.add_assoc,Int.add_assoc,Int.add_left_comm (y*w)]
theorem vR(k:Int):∀a v:List Int,dot (sc k a) v=k*dot a v
 |[]=>@fun v=>(Int.mul_zero k).symm
 |x::a=>@fun v=>by
  cases v with
  |nil=>exact(Int.mul_zero k).symm
  |cons y v=>show k*x*y+dot (sc k a) v=k*(x*y+dot a v);rw[vR k a v,Int.mul_add,Int.mul_assoc]
theorem P.v_add(c:List Nat)(z:List Int)(p q:P):(p.add q).v c z=p.v c z+q.v c z:=by show p.k+q.k+dot (L.add p.A q.A) (up c)+dot (L.add p.B q.B) z=p.k+dot p.A (up c)+dot p.B z+(q.k+dot q.A (up c)+dot q.B z);rw[oB,oB];omega
theorem P.qI(c:List Nat)(z:List Int)(j:Int)(p:P):(p.sc j).v c z=j*p.v c z:=by show j*p.k+dot (L.sc j p.A) (up c)+dot (L.sc j p.B) z=j*(p.k+dot p.A (up c)+dot p.B z);rw[vR,vR,Int.mul_add,Int.mul_add]
theorem Fp(c:List Nat):∀i,dot (one i) (up c)=at_ c i:=by
 induction c with
 |nil=>intro i;exact ym _
 |cons a c ih=>
  intro i
  cases i with
  |zero=>show 1*(a:Int)+0=a;rw[Int.one_mul,Int.add_zero]
  |succ i=>show 0*(a:Int)+dot (one i) (up c)=at_ c i;rw[ih i,Int.zero_mul,Int.zero_add]
theorem CO(z:List Int):∀i,dot (one i) z=Mj z i:=by
 induction z with
 |nil=>intro i;exact ym _
 |cons a c ih=>
  intro i
  cases i with
  |zero=>show 1*a+0=a;rw[Int.one_mul,Int.add_zero]
  |succ i=>show 0*a+dot (one i) c=Mj c i;rw[ih i,Int.zero_mul,Int.zero_add]
theorem N.v(c:List Nat)(z:List Int)(x:N):x.l.v c z=(x.d c:Nat):=by
 induction x with
 |a i=>show 0+dot (one i) (up c)+0=_;rw[Fp,Int.zero_add,Int.add_zero];rfl
 |n k=>show(k:Int)+0+0=_;rw[Int.add_zero,Int.add_zero];rfl
 |p x y hx hy=>show(x.l.add y.l).v c z=_;rw[P.v_add,hx,hy];rfl
 |m k x hx=>show(x.l.sc k).v c z=_;rw[P.qI,hx];rfl
 |r x k hx=>show(x.l.sc k).v c z=_;rw[P.qI,hx,Int.mul_comm];rfl
theorem Z.v(c:List Nat)(z:List Int)(x:Z):x.l.v c z=x.d c z:=by
 induction x with
 |w i=>show 0+0+dot (one i) z=_;rw[CO,Int.zero_add,Int.zero_add];rfl
 |n k=>show(k:Int)+0+0=_;rw[Int.add_zero,Int.add_zero];rfl
 |p x y hx hy=>show(x.l.add y.l).v c z=_;rw[P.v_add,hx,hy];rfl
 |s x y hx hy=>show(x.l.add (y.l.sc (-1))).v c z=_;rw[P.v_add,P.qI,hx,hy,Int.neg_one_mul];exact Int.sub_eq_add_neg.symm
 |m k x hx=>show(x.l.sc k).v c z=_;rw[P.qI,hx];rfl
 |r x k hx=>show(x.l.sc k).v c z=_;rw[P.qI,hx,Int.mul_comm];rfl
 |g x hx=>show(x.l.sc (-1)).v c z=_;rw[P.qI,hx,Int.neg_one_mul];rfl
 |c x=>exact N.v c z x
noncomputable def P.sub(y x:P)(j:Int):P:=(y.add (x.sc (-1))).add ⟨-j,[],[]⟩
theorem P.v_sub(c:List Nat)(z:List Int)(y x:P)(j:Int):(P.sub y x j).v c z=y.v c z-x.v c z-j:=by show((y.add (x.sc (-1))).add ⟨-j,[],[]⟩).v c z=_;rw[P.v_add,P.v_add,P.qI,Int.neg_one_mul,show P.v c z ⟨-j,[],[]⟩=-j+0+0 from rfl];omega
noncomputable def F.l(f:F):P:=F.rec (fun x y=>P.sub y.l x.l 0) (fun x y=>P.sub y.l x.l 1) (fun x y=>P.sub y.l x.l 0) (fun x y=>P.sub y.l x.l 0) (fun x y=>P.sub y.l x.l 1) (fun x y=>P.sub y.l x.l 0) f
noncomputable def pos(k:Int):Bool:=Int.rec (fun y_=>true) (fun y_=>false) k
noncomputable def F.ok(f:F)(k:Int):Bool:=F.rec (fun y_ y_=>pos k) (fun y_ y_=>pos k) (fun y_ y_=>true) (fun y_ y_=>pos k) (fun y_ y_=>pos k) (fun y_ y_=>true) f
theorem nf{k:Int}(h:pos k=true):0<=k:=by cases k with
 |ofNat n=>exact Int.natCast_nonneg n
 |negSucc n=>cases h
theorem mz{k:Int}{a:Int}(o:pos k=true)(h:0<=a):0<=k*a:=Int.mul_nonneg (nf o) h
theorem F.sound(c:List Nat)(z:List Int)(k:Int)(f:F)(h:f.d c z)(o:f.ok k=true):0<=k*f.l.v c z:=by
 cases f with
 |le x y=>refine mz o ?_;show 0<=(P.sub y.l x.l 0).v c z;rw[P.v_sub,N.v,N.v,Int.sub_zero];exact Int.sub_nonneg.mpr (Int.ofNat_le.mpr h)
 |lt x y=>refine mz o ?_;show 0<=(P.sub y.l x.l 1).v c z;rw[P.v_sub,N.v,N.v,Int.sub_sub];exact Int.sub_nonneg.mpr (Int.add_one_le_of_lt (Int.ofNat_lt.mpr h))
 |eq x y=>show 0<=k*(P.sub y.l x.l 0).v c z;rw[P.v_sub,N.v,N.v];replace h:=h;rw[h,Int.sub_self,Int.sub_self,Int.mul_zero];exact Int.le_refl 0
 |Le x y=>refine mz o ?_;show 0<=(P.sub y.l x.l 0).v c z;rw[P.v_sub,Z.v,Z.v,Int.sub_zero];exact Int.sub_nonneg.mpr h
 |Lt x y=>refine mz o ?_;show 0<=(P.sub y.l x.l 1).v c z;rw[P.v_sub,Z.v,Z.v,Int.sub_sub];exact Int.sub_nonneg.mpr (Int.add_one_le_of_lt h)
 |Eq x y=>show 0<=k*(P.sub y.l x.l 0).v c z;rw[P.v_sub,Z.v,Z.v];replace h:=h;rw[h,Int.sub_self,Int.sub_self,Int.mul_zero];exact Int.le_refl 0
noncomputable def low(a:List Int):Bool:=List.rec true (fun x y_ f=>Bool.rec false f (pos (-x))) a
noncomputable def D7(a:List Int):Bool:=List.rec true (fun x y_ f=>Bool.rec false (Bool.rec false f (pos (-x))) (pos x)) a
theorem yQ:∀(a:List Int) (c:List Nat),low a=true->dot a (up c)<=0
 |[],_=>@fun _=>Int.le_refl 0
 |x::a,[]=>@fun _=>Int.le_refl 0
 |x::a,k::c=>@fun h=>by
  replace h:(Bool.rec false (low a) (pos (-x)):Bool)=true:=h
  cases hx:pos (-x)with
  |false=>replace h:=hx▸h;cases h
  |true=>haveI h:=hx▸h;show x*(k:Int)+dot a (up c)<=0;haveI h1:=yQ a c h;haveI h2:=Int.mul_nonneg (nf hx) (Int.natCast_nonneg k);rw[Int.neg_mul]at h2;omega
theorem zv:∀(a z:List Int),D7 a=true->dot a z=0
 |[],_=>@fun _=>rfl
 |x::a,[]=>@fun _=>rfl
 |x::a,k::c=>@fun h=>by
  replace h:(Bool.rec false (Bool.rec false (D7 a) (pos (-x))) (pos x):Bool)=true:=h
  cases hx:pos x with
  |false=>replace h:=hx▸h;cases h
  |true=>
   haveI h:=hx▸h;replace h:(Bool.rec false (D7 a) (pos (-x)):Bool)=true:=h
   cases hy:pos (-x)with
   |false=>replace h:=hy▸h;cases h
   |true=>haveI h:=hy▸h;show x*k+dot a c=0;haveI h1:=nf hx;haveI h2:=nf hy;rw[zv a c h,show x=0 by omega,Int.zero_mul];rfl
set_option genCtorIdx false in inductive B where
 |f (a:F)
 |and (a b:B)
 |or (a b:B)
 |not (a:B)
 |no
noncomputable def B.ctorIdx(x:B):Nat:=B.casesOn x (fun y_=>0) (fun y_ y_=>1) (fun y_ y_=>2) (fun y_=>3) 4
def B.d(c:List Nat)(z:List Int)(b:B):Prop:=B.rec (fun f=>f.d c z) (fun y_ y_ p q=>p/\q) (fun y_ y_ p q=>p\/q) (fun y_ p=>¬p) False b
noncomputable def F.neg(f:F):B:=F.rec (fun x y=>.f (.lt y x)) (fun x y=>.f (.le y x)) (fun x y=>.or (.f (.lt x y)) (.f (.lt y x))) (fun x y=>.f (.Lt y x)) (fun x y=>.f (.Le y x)) (fun x y=>.or (.f (.Lt x y)) (.f (.Lt y x))) f
noncomputable def B.neg(b:B):B:=B.rec (fun f=>f.neg) (fun a b y_ y_=>.or (.not a) (.not b)) (fun a b y_ y_=>.and (.not a) (.not b)) (fun a y_=>a) (.f (.le (.n 0) (.n 0))) b
theorem F.Ae(c:List Nat)(z:List Int)(f:F)(h:¬f.d c z):f.neg.d c z:=by
 cases f with
 |le x y=>exact Nat.lt_of_not_le h
 |lt x y=>exact le_of_not_lt h
 |eq x y=>exact Nat.lt_or_gt_of_ne h
 |Le x y=>exact Int.not_le.mp h
 |Lt x y=>exact Int.not_lt.mp h
 |Eq x y=>exact Int.lt_or_gt_of_ne h
theorem B.Ae(c:List Nat)(z:List Int)(b:B)(h:¬b.d c z):b.neg.d c z:=by
 cases b with
 |f a=>exact F.Ae c z a h
 |and a b=>exact(Classical.em (a.d c z)).elim (fun p=>.inr fun q=>h ⟨p,q⟩) .inl
 |or a b=>exact⟨fun p=>h (.inl p),fun p=>h (.inr p)⟩
 |not a=>exact Classical.not_not.mp h
 |no=>exact le_refl 0
noncomputable def CY(d:Nat):Int:=Bool.rec (-((d-32:Nat):Int)) d (Nat.blt d 32)
noncomputable def bad(s:P):Bool:=Bool.rec false (Bool.rec false (D7 s.B) (low s.A)) (pos (-s.k-1))
noncomputable def sum(fs:List F)(k:Nat)(s:P):Bool:=List.rec (fun y_ s=>bad s) (fun f y_ r k s=>Bool.rec false (r (k / 64) (s.add (f.l.sc (CY (k%64))))) (f.ok (CY (k%64)))) fs k s
noncomputable def len(fs:List F):Nat:=List.rec 1 (fun y_ y_ n=>64*n) fs
noncomputable def tab(n:Nat)(l:List B)(fs:List F)(k:Nat):Nat:=Nat.rec (fun y_ y_ y_=>0) (fun y_ t l fs k=>List.rec (Bool.rec 0 (k / len fs) (sum fs k ⟨0,[],[]⟩))
 (fun b r y_=>B.rec (fun f=>t r (f::fs) k) (fun a b y_ y_=>t (a::b::r) fs k) (fun a b y_ y_=>Nat.rec 0 (fun j y_=>t (b::r) fs (Nat.succ j)) (t (a::r) fs k))
  (fun a y_=>t (a.neg::r) fs k) k b) l) n l fs k
def all(c:List Nat)(z:List Int)(l:List B):Prop:=List.rec True (fun b y_ p=>b.d c z/\p) l
def Ko(c:List Nat)(z:List Int)(l:List F):Prop:=List.rec True (fun b y_ p=>b.d c z/\p) l
theorem G8(c:List Nat)(z:List Int)(s:P)(h:bad s=true):s.v c z<0:=by
 replace h:(Bool.rec false (Bool.rec false (D7 s.B) (low s.A)) (pos (-s.k-1)):Bool)=true:=h
 cases h2:pos (-s.k-1)with
 |false=>replace h:=h2▸h;cases h
 |true=>
  haveI h:=h2▸h;replace h:(Bool.rec false (D7 s.B) (low s.A):Bool)=true:=h
  cases h3:low s.A with
  |false=>replace h:=h3▸h;cases h
  |true=>haveI a1:=yQ _ c h3;haveI a2:=zv _ z (h3▸h);haveI a3:=nf h2;show s.k+dot s.A (up c)+dot s.B z<0;omega
theorem Hx(c:List Nat)(z:List Int)(fs:List F):∀(k:Nat) (s:P),Ko c z fs->sum fs k s=true->s.v c z<0:=by
 induction fs with
 |nil=>exact fun k s y_ h=>G8 c z s h
 |cons f fs ih=>
  intro k s ⟨hf,hs⟩ h;replace h:(Bool.rec false (sum fs (k / 64) (s.add (f.l.sc (CY (k%64))))) (f.ok (CY (k%64))):Bool)=true:=h
  cases h1:f.ok (CY (k%64))with
  |false=>replace h:=h1▸h;cases h
  |true=>replace h:=h1▸h;haveI:=ih (k / 64) (s.add (f.l.sc (CY (k%64)))) hs h;rw[P.v_add,P.qI]at this;haveI:=F.sound c z _ f hf h1;omega
theorem HZ(c:List Nat)(z:List Int)(n:Nat):∀(l:List B) (fs:List F) (k:Nat),all c z l->Ko c z fs->tab n l fs k≠0->False:=by
 induction n with
 |zero=>exact fun l fs k y_ y_ h=>h rfl
 |succ n ih=>
  intro l fs k hl hf h
  cases l with
  |nil=>
   replace h:(Bool.rec 0 (k / len fs) (sum fs k ⟨0,[],[]⟩):Nat)≠0:=h
   cases hs:sum fs k ⟨0,[],[]⟩with
   |false=>haveI h:=hs▸h;exact h rfl
   |true=>exact absurd (Hx c z fs k _ hf hs) (show¬((0:Int)+0+0<0) by decide)
  |cons b r=>
   obtain⟨hb,hr⟩:=hl
   cases b with
   |f a=>exact ih r (a::fs) k hr ⟨hb,hf⟩ h
   |and a b=>exact ih (a::b::r) fs k ⟨hb.1,hb.2,hr⟩ hf h
   |or a b=>
    replace h:(Nat.rec 0 (fun j y_=>tab n (b::r) fs (Nat.succ j)) (tab n (a::r) fs k):Nat)≠0:=h
    cases hk:tab n (a::r) fs k with
    |zero=>haveI h:=hk▸h;exact h rfl
    |succ j=>haveI h:=hk▸h;exact hb.elim (fun q=>ih (a::r) fs k ⟨q,hr⟩ hf (Rw hk (Nat.succ_ne_zero j))) fun q=>ih (b::r) fs (j+1) ⟨q,hr⟩ hf h
   |not a=>exact ih (a.neg::r) fs k ⟨B.Ae c z a hb,hr⟩ hf h
   |no=>exact hb
structure M where
 N:List N
 Z:List Z
 B:List B
 k:Nat
noncomputable def M.pn(m:M)(f:Internal.L.N->Internal.L.N->Internal.L.N):M:=List.rec m (fun y r y_=>List.rec m (fun x r y_=>⟨f x y::r,m.Z,m.B,m.k⟩) r) m.N
noncomputable def M.pz(m:M)(f:Internal.L.Z->Internal.L.Z->Internal.L.Z):M:=List.rec m (fun y r y_=>List.rec m (fun x r y_=>⟨m.N,f x y::r,m.B,m.k⟩) r) m.Z
noncomputable def M.pb(m:M)(f:Internal.L.B->Internal.L.B->Internal.L.B):M:=List.rec m (fun y r y_=>List.rec m (fun x r y_=>⟨m.N,m.Z,f x y::r,m.k⟩) r) m.B
noncomputable def M.un(m:M)(f:Internal.L.N->Internal.L.N):M:=List.rec m (fun y r y_=>⟨f y::r,m.Z,m.B,0⟩) m.N
noncomputable def M.uz(m:M)(f:Internal.L.Z->Internal.L.Z):M:=List.rec m (fun y r y_=>⟨m.N,f y::r,m.B,0⟩) m.Z
noncomputable def M.ub(m:M)(f:Internal.L.B->Internal.L.B):M:=List.rec m (fun y r y_=>⟨m.N,m.Z,f y::r,0⟩) m.B
noncomputable def M.cs(m:M):M:=List.rec m (fun y r y_=>⟨r,.c y::m.Z,m.B,0⟩) m.N
noncomputable def M.fn(m:M)(f:Internal.L.N->Internal.L.N->F):M:=List.rec m (fun y r y_=>List.rec m (fun x r y_=>⟨r,m.Z,.f (f x y)::m.B,0⟩) r) m.N
noncomputable def M.fz(m:M)(f:Internal.L.Z->Internal.L.Z->F):M:=List.rec m (fun y r y_=>List.rec m (fun x r y_=>⟨m.N,r,.f (f x y)::m.B,0⟩) r) m.Z
noncomputable def ors(l:List M)(e:M)(d:Nat):M:=List.rec (fun y_=>e) (fun a y_ f d=>Nat.rec a (fun j y_=>f j) d) l d
noncomputable def step(d:Nat)(m:M):M:=Bool.rec
 (ors [⟨.a m.k::m.N,m.Z,m.B,0⟩,⟨.n m.k::m.N,m.Z,m.B,0⟩,m.pn .p,m.un (.m m.k),m.un (.r · m.k),⟨m.N,.w m.k::m.Z,m.B,0⟩,⟨m.N,.n m.k::m.Z,m.B,0⟩,m.pz .p,m.pz .s,m.uz (.m m.k),m.uz (.r · m.k),m.uz .g,m.cs,m.fn .le,m.fn .lt,m.fn .eq,m.fz .Le,m.fz .Lt,m.fz .Eq,⟨m.N,m.Z,.no::m.B,0⟩,m.pb .and,m.pb .or,m.ub .not] m (d-16))
 ⟨m.N,m.Z,m.B,m.k*16+d⟩ (Nat.blt d 16)
noncomputable def run(n:Nat)(c:Nat)(m:M):List B×Nat:=Nat.rec (fun y_ m=>(m.B,0)) (fun y_ f c m=>Bool.rec (f (c / 64) (step (c%64) m)) (m.B,c / 64) (Nat.beq (c%64) 63)) n c m
noncomputable def dec(c:Nat):List B×Nat:=run 1000 c ⟨[],[],[],0⟩
def KL(c:List Nat)(z:List Int)(g:B)(l:List B):Prop:=List.rec (g.d c z) (fun f y_ r=>f.d c z->r) l
def den(c:List Nat)(z:List Int)(l:List B):Prop:=List.rec True (fun g r y_=>KL c z g r) l
noncomputable def ck(k:Nat)(l:List B):Bool:=List.rec false (fun g r y_=>Nat.rec false (fun y_ y_=>true) (tab 1000 (.not g::r) [] k)) l
theorem F9(c:List Nat)(z:List Int)(g:B)(l:List B)(h:all c z l->g.d c z):KL c z g l:=by
 induction l with
 |nil=>exact h trivial
 |cons f l ih=>exact fun q=>ih fun r=>h ⟨q,r⟩
def res(k:Nat)(c:List Nat)(z:List Int):Prop:=Bool.rec True (den c z (dec k).1) (ck (dec k).2 (dec k).1)
theorem Il(k:Nat)(c:List Nat)(z:List Int):res k c z:=by
 show Bool.rec True (den c z (dec k).1) (ck (dec k).2 (dec k).1)
 cases o:ck (dec k).2 (dec k).1 with
 |false=>exact trivial
 |true=>
  show den c z (dec k).1
  cases h:(dec k).1 with
  |nil=>exact trivial
  |cons g r=>haveI o:=h▸o;refine F9 c z g r fun q=>Classical.byContradiction fun w=>?_;replace o:(Nat.rec false (fun y_ y_=>true) (tab 1000 (.not g::r) [] (dec k).2):Bool)=true:=o;refine HZ c z 1000 (.not g::r) [] (dec k).2 ⟨w,q⟩ trivial fun e=>?_;replace o:=e▸o;cases o
theorem linK(k:Nat)(c:List Nat)(z:List Int:=[]){P:Prop}(e:res k c z=P:=by kernel_rfl):P:=e▸Il k c z
theorem linK1{A P:Prop}(a:A)(k:Nat)(c:List Nat)(z:List Int:=[])(e:res k c z=(A->P):=by kernel_rfl):P:=linK k c z e a
theorem linK2{A B P:Prop}(a:A)(b:B)(k:Nat)(c:List Nat)(z:List Int:=[])(e:res k c z=(A->B->P):=by kernel_rfl):P:=linK k c z e a b
theorem linK3{A B C P:Prop}(a:A)(b:B)(c':C)(k:Nat)(c:List Nat)(z:List Int:=[])(e:res k c z=(A->B->C->P):=by kernel_rfl):P:=linK k c z e a b c'
theorem linK4{A B C D P:Prop}(a:A)(b:B)(c':C)(d:D)(k:Nat)(c:List Nat)(z:List Int:=[])(e:res k c z=(A->B->C->D->P):=by kernel_rfl):P:=linK k c z e a b c' d
theorem linK5{A B C D E P:Prop}(a:A)(b:B)(c':C)(d:D)(f:E)(k:Nat)(c:List Nat)(z:List Int:=[])(e:res k c z=(A->B->C->D->E->P):=by kernel_rfl):P:=linK k c z e a b c' d f
end Internal.L
namespace Internal
open L (linK linK1 linK2 linK3 linK4 linK5)
theorem Rb(a b:Int):a<b\/b<=a:=(Decidable.em (a<b)).imp id Int.not_lt.mp
theorem uG(a b:Nat):a<=a-b+b:=Nat.le_add_of_sub_le (le_refl _)
theorem bc(a b:Nat):(a<=b/\a-b=0)\/(b<=a/\a-b+b=a):=(le_total a b).elim (fun h=>.inl ⟨h,sub_eq_zero_of_le h⟩) fun h=>.inr ⟨h,Nat.sub_add_cancel h⟩
theorem oE(a b:Nat):(a<=b/\max a b=b)\/(b<=a/\max a b=a):=(le_total a b).elim (fun h=>.inl ⟨h,Nat.max_eq_right h⟩) fun h=>.inr ⟨h,Nat.max_eq_left h⟩
theorem oR(a b:Nat):(a<=b/\min a b=a)\/(b<=a/\min a b=b):=(le_total a b).elim (fun h=>.inl ⟨h,min_eq_left h⟩) fun h=>.inr ⟨h,min_eq_right h⟩
theorem yx(a b:Int):(a<=b/\max a b=b)\/(b<=a/\max a b=a):=(Int.le_total a b).elim (fun h=>.inl ⟨h,Int.max_eq_right h⟩) fun h=>.inr ⟨h,Int.max_eq_left h⟩
theorem CK(a b:Int):(a<=b/\min a b=a)\/(b<=a/\min a b=b):=(Int.le_total a b).elim (fun h=>.inl ⟨h,Int.min_eq_left h⟩) fun h=>.inr ⟨h,Int.min_eq_right h⟩
theorem i8(a:Int):(0<=a/\((Int.toNat a:Nat):Int)=a)\/(a<0/\Int.toNat a=0):=(Rb a 0).elim (fun h=>.inr ⟨h,Int.toNat_of_nonpos (Int.le_of_lt h)⟩) fun h=>.inl ⟨h,Int.toNat_of_nonneg h⟩
theorem Iw(a:Int):(0<=a/\((Int.natAbs a:Nat):Int)=a)\/(a<0/\((Int.natAbs a:Nat):Int)=-a):=(Rb a 0).elim (fun h=>.inr ⟨h,Int.ofNat_natAbs_of_nonpos (Int.le_of_lt h)⟩) fun h=>.inl ⟨h,Int.natAbs_of_nonneg h⟩
end Internal
end
namespace Internal
section
open L (linK linK1 linK2 linK3 linK4 linK5)
section
variable{a b c d e f g h i j k l m n:Nat}
theorem Q0:a<=b->a<=b+1:=linK 0x1041fdd491050050750050 [a,b]
theorem Q1:a=b->b<=1000->a<=1000000:=linK 0x41041fdd44010210f4017d040175120e0d0 [b,a]
theorem Q2:a<=c->c<=b->a<=b:=linK 0x41041fdd401402750402750050 [c,b,a]
theorem Q3:a<c->b=c->a<b:=linK 0x41061fde41009e4014027d0050 [b,c,a]
theorem Q4:a<=1000000->a<=16777216:=linK 0x4107f7510000000000507510040843d0 [a]
theorem Q5:a<b->¬(a=b):=linK 0x1841fe67d0050790050 [a,b]
theorem Q6:a+b+(d+1)<=c->a+b<c:=linK 0x4107f7900d240141d403492441402490050 [a,b,d,c]
theorem Q7:a<b->b<=a->False:=linK 0x40041fe3790401750050 [b,a]
theorem Q8:¬(a+1=a+2):=linK 0x187f99f491090491050 [a]
theorem Q9:a<a+2:=linK 0x107f792442410 [a]
theorem C9:0<=a:=linK 0x41fdd411 [a]
theorem DS:a<=20000->a<1000000:=linK 0x1041fde44010210f41d44008e110 [a]
theorem DH:a<=100->a<=1000000:=linK 0x1041fdd44010210f41d444190 [a]
theorem DK:a<=100->a<=1000:=linK 0x1041fdd44838341d444190 [a]
theorem CT:a<=a+b:=linK 0x107f752401410 [a,b]
theorem CX:2*a+1<b->b<=10000->a<=1000000000:=linK 0x108107f75100028c2892c340179049105309005d440047090 [b,a]
theorem DQ:1+max b a<=2->a<=1:=linK1 (oE b a) 0x1041841040841fdd4414029647d00507500500a47d009075009005d442490441 [(max b a),b,a]
theorem De:1+max b a<=1->a=0:=linK1 (oE b a) 0x4106104102104100000100103f7d14029647d00507500500a47d009075009005d441490441 [(max b a),b,a]
theorem C6:1+max a b<=2->a<=1:=linK1 (oE a b) 0x1040841041841fdd4414019647d00507500500a47d009075009005d442490441 [(max a b),a,b]
theorem Dp:1+max a b<=1->a=0:=linK1 (oE a b) 0x4102104106104100100100003f7d14019647d00507500500a47d009075009005d441490441 [(max a b),a,b]
theorem Dh:c<=b->a<=c->a<=b:=linK 0x41041fdd40241d402401750050 [a,c,b]
theorem Eh:c<a->a<=b->1<=a/\a<=b:=linK 0x1040041040fe4750050750441790402750050 [a,b,c]
theorem CQ:1<=a->a<=c->c<=b->1<=a/\a<=b:=linK 0x4100104104003f91d40140275009105d402441750402750050 [c,b,a]
theorem Fv:1<=a+1:=linK 0x41fdd491050441 [a]
theorem Fc{a:Int}:(0:Int)<=a->a=((Int.toNat a:Nat):Int):=linK1 (i8 a) 0x1001001040840001001040040fe271056591f4508565648957108155a0556 [(Int.toNat a)] [a]
theorem FH:¬(b<a)->a<=b:=linK 0x1041fdd410066790050 [b,a]
theorem E7:a=b->a+1=b+1:=linK 0x4104187f7d24414014910507d0050 [a,b]
theorem EG:a<b->b<=10000->a<=1000000000:=linK 0x41041fdd44000a30a24b0d005e41005d440047090 [b,a]
theorem Fm:a=b+c->a-b=c:=linK1 (bc a b) 0x4100104100100102184106187f7d00900e591f41240140375040191f4500dd40141f490090050 [a,b,c,(a-b)]
theorem Ex:a+c<=4->c=1+2*b->a+b<=4:=linK 0x104187f75111240140275111241009f493090051050 [c,b,a]
theorem HJ:¬(a+1=a+3):=linK 0x187f99f4910d0491050 [a]
theorem Ir:a<=9->a<=100:=linK 0x1041fdd444190751250 [a]
theorem Hc:a<=400000->a<=500000:=linK 0x4107f75100204a1d0751008281190 [a]
theorem IA:a<=4->a<=100:=linK 0x1041fdd444190751110 [a]
theorem HI:a+1-b<=a+1:=linK1 (bc (a+1) b) 0x4100104007f7524414100a591f49105049005009d49105040191f45009d401491050 [a,b,((a+1)-b)]
theorem Iq:¬(b=a)->¬(a=b):=linK 0x6104107f99f4100667d0050 [b,a]
theorem HM:a=2*b+2->b<=100->a<=10000:=linK 0x10410bf7510011c24017d24424c241005d444190 [b,a]
theorem He:a+(b+1)<=400000->a+1<=400000:=linK 0x1041fdd44020a046491050751008281192491050050 [a,b]
theorem Ia:a+(b+1)<=400000->a+1+b<=400000:=linK 0x4107f751008281192401491050751008281192491050050 [a,b]
theorem Ho:1<=a->a<=b->1<=a/\a<=b+1:=linK 0x4100104103f91d491050050750441750441750050 [a,b]
theorem HN:((a:Nat):Int)<((b:Nat):Int)+1->a<=b:=linK 0x1041fdd4014215d605c401710 [a,b]
theorem Hu:a<=b+1+c->a<=b+(c+1):=linK 0x4107f752491050090050752402491050050 [a,b,c]
theorem Ih:a+(c+1)=b+1->a<=b:=linK 0x1041fdd40241f491050092491050050 [a,c,b]
theorem Im:c+d<=4->d=1+2*b->a<=c+b->a+b<=4:=linK 0x4106107f75111240241d4444900d005f4930900910500dd490090050 [a,c,b,d]
theorem LO:¬(a=a+2):=linK 0x61fe67d2442410 [a]
theorem M1:¬(a=a+1):=linK 0x61fe67d2441410 [a]
theorem LZ:¬(a+2=a+3):=linK 0x187f99f4910d0491090 [a]
theorem Lr:¬(((a:Nat):Int)<0):=linK 0x41fe6856710 [a]
theorem L3:a<a+1:=linK 0x107f792441410 [a]
theorem MX:a<=9->a<=9:=linK 0x4107f751250751250 [a]
theorem LN:a<=500000->a<1000000:=linK 0x4107f7910040843d075100204a1d0 [a]
theorem MK:a<=1000->a<1000000:=linK 0x4107f7910040843d075120e0d0 [a]
theorem LP:a<=1000->a+1<=1000000000:=linK 0x4107f75100028c2892c349105075120e0d0 [a]
theorem L9:a<=1000->0+a<=1000000:=linK 0x4107f7510040843d241175120e0d0 [a]
theorem M3:a=92\/a=41->a<128:=linK 0x4104107f7910084257d124241f44c150 [a]
theorem Lx:1+a<=2->a<=1:=linK 0x1041fdd44141d442490441 [a]
theorem M5:1+a<=1->a=0:=linK 0x4104103f7d141d441490441 [a]
theorem Ls{a:Int}:a<=1000->a<=16777216:=linK 0x4107f81600000000005581620e0d5 [] [a]
theorem MA{a:Int}:(0:Int)<a->¬(a=0):=linK 0x1041fe6896561556 [] [a]
theorem Mo:¬(((a:Nat):Int)+((b:Nat):Int)<((b:Nat):Int)):=linK 0x41fe685c4015dc401710 [a,b]
theorem Zi:a+1-b=Int.toNat (((a:Nat):Int)-(((b:Nat):Int)-1)):=linK2 (bc (a+1) b) (i8 (((a:Nat):Int)-(((b:Nat):Int)-1))) 0x4004004004004084100102104004184004004004084004102100104184007f7d00900e591f4910504900500dd49105040191f4500dd4014910509647d140285661858171005c42489861605c4017107100a061858171005c416 [a,b,(Int.toNat (((a:Nat):Int)-(((b:Nat):Int)-1))),((a+1)-b)]
theorem MF:Int.toNat (max 0 (min ((a:Nat):Int) ((b:Nat):Int)))=min a b:=linK4 (CK ((a:Nat):Int) ((b:Nat):Int)) (yx (0:Int) (min ((a:Nat):Int) ((b:Nat):Int))) (i8 (max 0 (min ((a:Nat):Int) ((b:Nat):Int)))) (oR a b) 0x1000000841000000000021040000040000040040841000001001021000001841000000000061040000040040040040841041001001021000000841000000000021040000040000040040841000001001021000001841000000000061040000041040040040841001001001021000000841000000000021040000040841001840041021040061041000001841000000000061040000040840840840041021021021041000000841000000000021040000040841001841041021040061001000001841000000000061040000040840840841041021021021001fdf40240396489c40154181c41c40192271054181c4017109648965605950648950558150569647d14038565648957100e05569647d005009d4100647d0402750050 [a,b,(min a b),(Int.toNat (max 0 (min ((a:Nat):Int) ((b:Nat):Int))))] [(max 0 (min ((a:Nat):Int) ((b:Nat):Int))),(min ((a:Nat):Int) ((b:Nat):Int))]
theorem Mw:b<=9->a<=b->a<=9:=linK 0x41041fdd44941d449401750050 [a,b]
theorem MR:a<=b->a+1<=b+1:=linK 0x4107f752441401491050750050 [a,b]
theorem LV:a<b->¬(a=b+2):=linK 0x6107f99f491090050790050 [a,b]
theorem HY:a<b->¬(a=b+1):=linK 0x6107f99f491050050790050 [a,b]
theorem Lq:a-b=0->a-b=0:=linK 0x4104187f7d141f450 [(a-b)]
theorem MC:a+b<=90->a<=100:=linK 0x1041fdd444190751285490050 [a,b]
theorem MD:a+b<=17000->a<=20000:=linK 0x1041fdd44008e110751206084490050 [a,b]
theorem Lj:a+b<=17000->a<=19999:=linK 0x1041fdd44f04e110751206084490050 [a,b]
theorem Mz:a+b<=1000000->a+b<=16777216:=linK 0x4107f75100000000005240141d44010210f490050 [a,b]
theorem MZ:a+b+2<=1000->a+1<=1000:=linK 0x1041fdd44838349105075120e0d2442490050 [a,b]
theorem Ll:a+1<=b+1->a<=b-1+1:=linK1 (uG b 1) 0x41041fdd491050090752441402401752441401491050 [a,b,(b-1)]
theorem Mu:a+1<=b->a<=b:=linK 0x1041fdd40141d401491050 [a,b]
theorem MI:a+(b+1)<=1000000->a<1000000:=linK 0x4107f7910040843d07510040843d2491050050 [a,b]
theorem LR:a+(b+1)<=1000000->a+1+b<=1000000:=linK 0x4107f7510040843d24014910507510040843d2491050050 [a,b]
theorem Mb:1<=a->a<=b->a-1<b:=linK1 (bc a 1) 0x1040040041001041fde4014029647d049105009d4110647d1402751050750441750050 [a,b,(a-1)]
theorem MG:¬(((a+b:Nat):Int)<0\/((a+c:Nat):Int)<0):=linK 0x4107f9a585671240242159c490050 [a,b,c]
theorem Mc:b+(c+1)<=400000->a<=b->a<=400000:=linK 0x41041fdd44020a04641d44020a046492441402401750050 [a,b,c]
theorem Ln:a+c+2<=1000->c=1+2*b->a+1+b+2<=1000:=linK 0x41061fdd44838349109240149105009d44838349109241009f493090051050 [c,b,a]
theorem MT:a+1<=c->c<=b->a+1<=b:=linK 0x41041fdd40149105009d412441402750050 [c,b,a]
theorem M4:1<=c->b=1+2*c->a+1+1<=a+b:=linK 0x410a1fdd49040249105244140275005105f493090051050 [b,c,a]
theorem MQ:b+a+(c+d+10)<=15000->a<=20000:=linK 0x1041fdd44008e11005d44824a0d2491292403402490050 [b,a,c,d]
theorem MH:a<=e+d->e<=b+c->a<=b+(c+d):=linK 0x41041fdd4924044024014037524044100dd490090050 [e,b,c,a,d]
theorem WI:¬(a=a+3):=linK 0x61fe67d2443410 [a]
theorem NC:¬(a+3=a+2):=linK 0x107f99f4910904910d0 [a]
theorem XG:¬(a+2=a+1):=linK 0x107f99f491050491090 [a]
theorem Sf:¬(a+1<=0):=linK 0x41fe6751491050 [a]
theorem WV:a<=a+2:=linK 0x107f752442410 [a]
theorem U0:a<=a+1:=linK 0x107f752441410 [a]
theorem Un:a<=a:=linK 0x41fdd410 [a]
theorem QA:a<a+3:=linK 0x107f792443410 [a]
theorem Vc:a+1<=625*a+4368:=linK 0x107f752440041053047090491050 [a]
theorem O7:a+1<=5*a+28:=linK 0x107f75244c053150491050 [a]
theorem OZ:a+1<=25*a+168:=linK 0x41fdd49120a4c9050491050 [a]
theorem Rn:0<=2*a+2:=linK 0x107f7524424c2411 [a]
theorem Ve:(0:Int)<=((a:Nat):Int):=linK 0x107f81c416 [a]
theorem P5:(-1000000000:Int)<=((a:Nat):Int)+1:=linK 0x107f8175817106d600028c2892c3 [a]
theorem PL:((a:Nat):Int)+1-1=((a:Nat):Int):=linK 0x1041fe2710616057581710 [a]
theorem W4:((a+1:Nat):Int)=((a:Nat):Int)+1:=linK 0x1041fe25d605c41c491050 [a]
theorem JO:((a+1:Nat):Int)-1=((a:Nat):Int):=linK 0x1041fe271061605c491050 [a]
theorem La:a<=900->a<=15000:=linK 0x1041fdd44824a0d07511080d0 [a]
theorem Jn:a<=9->a<=1000:=linK 0x4107f75120e0d0751250 [a]
theorem Kq:a<=625->a<=100000:=linK 0x4107f75100a188050751047090 [a]
theorem K7:a<=4->a<=1000000:=linK 0x4107f7510040843d0751110 [a]
theorem I6:a<=2->a<=50:=linK 0x1041fdd4420d0751090 [a]
theorem I8:a<=17000->a<=20000:=linK 0x4107f75100238441d448182110 [a]
theorem Kj:a<=17000->a<=19999:=linK 0x4107f7513c138441d448182110 [a]
theorem Jy:a<=110->a<=900:=linK 0x1041fdd44420341d44e190 [a]
theorem JH:a<=1000000->¬((2^63:Int)<=((a:Nat):Int)):=linK 0x1041fe681c4160000000000000000000000087510040843d0 [a]
theorem Rx:a<=1000000->((a:Nat):Int)<2^63:=linK 0x4107f8560000000000000000000000087107510040843d0 [a]
theorem Lc:a<=1000->a<=1000000000:=linK 0x1041fdd44000a30a24b0d075120e0d0 [a]
theorem Lh:a<=1000->a+1<=1001:=linK 0x1041fdd44938349105075120e0d0 [a]
theorem I5:a<=100->a<=500:=linK 0x1041fdd4443c141d444190 [a]
theorem K8:a<=100->a+1<1000000:=linK 0x4107f7910040843d244141d444190 [a]
theorem Ji:a=98->a<128:=linK 0x4107f79100841f442190 [a]
theorem Jz:a=97->a<128:=linK 0x4107f79100841f441190 [a]
theorem Kw:a=92\/a=40\/a=63\/a=58->a<128:=linK 0x4104104104107f7910084259657d128341f44f0d07d120241f44c150 [a]
theorem J5:a=91\/a=97\/a=98\/a=93->a<128:=linK 0x4104104104107f7910084259657d134541f4421907d104641f44b150 [a]
theorem Li:a=91\/a=94\/a=97\/a=93->a<128:=linK 0x4104104104107f7910084259657d134541f4411907d138541f44b150 [a]
theorem I4:a=65->a<128:=linK 0x4107f79100841f441110 [a]
theorem I9:a=46->a<128:=linK 0x4107f79100841f44e090 [a]
theorem J8:a<1000000->a<=16777216:=linK 0x4107f7510000000000507910040843d0 [a]
theorem KW:a+20<=15000->a<=17000:=linK 0x4107f75120608441d44824a0d2444050 [a]
theorem Jo:a+1<=500000->a<=500000:=linK 0x1041fdd44008128741d440081287491050 [a]
theorem KH:a+1<=100->a<=100:=linK 0x1041fdd444190751106491050 [a]
theorem IW:2*((a:Nat):Int)+2<=1000->2*a+2<=1000:=linK 0x1041fdd44838349109309081620e0d7582642710 [a]
theorem Fq:1<=a->a-1+1=a:=linK1 (bc a 1) 0x1040040040041040840041840fdf4124414019647d049105005d4110647d1401751050750441 [a,(a-1)]
theorem IJ:1<=a->((a:Nat):Int)-1=((a-1:Nat):Int):=linK1 (bc a 1) 0x1040840041840040040040041fe27100585817109647d049105005d4110647d1401751050750441 [a,(a-1)]
theorem IT:0<a->a-1<a:=linK1 (bc a 1) 0x1040040040041fde41006591f41244140175044191f45005d44141e411 [a,(a-1)]
theorem KU{a:Int}:a<=2^40->a<2^63:=linK 0x1041fe1580000000000000000000000215816000000000000000055 [] [a]
theorem Kh{a:Int}:a<=1000->a<=1152921504606846975:=linK 0x4107f8163cf3cf3cf3cf3cf3cf3cf3d581620e0d5 [] [a]
theorem IQ{a:Int}:(0:Int)<=a->a<6->a=0\/a=1\/a=2\/a=3\/a=4\/a=5:=linK 0x1000000001001000000041000000000001001000001040000000000001001000000041000000000001001000041000000000000001001000000041000000000001001000001040000000000001001000000041000000000001001001040000000000000001001000000041000000000001001000001040000000000001001000000041000000000001001000041000000000000001001000000041000000000001001000001040000000000001001000000041000000000001001041000000000000000001001000000041000000000001001000001040000000000001001000000041000000000001001000041000000000000001001000000041000000000001001000001040000000000001001000000041000000000001001001040000000000000001001000000041000000000001001000001040000000000001001000000041000000000001001000041000000000000001001000000041000000000001001000001040000000000001001000000041000000000001001040000000040fe59659658961558961158960d5896095896055896560556856195 [] [a]
theorem Jx{a:Int}:(-2^40:Int)<=a->(-2^63:Int)<=a:=linK 0x1041fe055b58000000000000000000000022055b580000000000000001 [] [a]
theorem IY:¬(2*(a+1)=2*(b+1)+1):=by omega
theorem Jj:a+1+b=a+(b+1):=linK 0x1041fdf492441401412401491050 [a,b]
theorem JT:a+(b+1)=a+1+b:=linK 0x1041fdf490052441412491050050 [a,b]
theorem KQ:((a:Nat):Int)+((b:Nat):Int)=((b+a:Nat):Int):=linK 0x4107f89c4904015dc401710 [a,b]
theorem JV:¬(b=a)->¬(2*(a+1)+1=2*(b+1)+1):=linK 0x610810bf99f4910530924414124414c24910500667d0050 [b,a]
theorem Kk:¬(a=b)->¬(((a:Nat):Int)=((b:Nat):Int)):=linK 0x4106107f9a271005c4267d0050 [a,b]
theorem Jv:b<=a->a=b+(a-b):=linK1 (bc a b) 0x1040840041840040040040041fdf4900904019647d005241009d4014247d1402750401750050 [b,a,(a-b)]
theorem Kd:b<=100000->a<=b->0+a<=1000000:=linK 0x41041fdd44010210f49045d440286201401750050 [a,b]
theorem Js:b=a->a<=b:=linK 0x4187f7504017d0050 [b,a]
theorem JB:b<a->a-(b+1)+1=a-b:=linK2 (bc a (b+1)) (bc a b) 0x1040040840000001001040040841000001001040840040000001001041840040000001001fdf4024910500e591f4014924414100dd40149105091f4500dd4910504019647d005241009d4014247d1402750401790050 [b,a,(a-b),(a-(b+1))]
theorem K4:b+a<=19000->a<=20000:=linK 0x4107f751002384401751203284490050 [b,a]
theorem Ja:b+a<=17000->a<=20000:=linK 0x4107f751002384401751206084490050 [b,a]
theorem K6:b+a<=17000->a<=19998:=linK 0x4107f751381384401751206084490050 [b,a]
theorem J1:b+a+1<=15000->a<=20000:=linK 0x1041fdd44008e11005d44824a0d2441490050 [b,a]
theorem JI:a<=b+4->a<=b+20:=linK 0x1041fdd49110140141d491110050 [a,b]
theorem Rv:a<=b+1->a<=b+1:=linK 0x4107f75244140141d491050050 [a,b]
theorem KV:a<=b->a<=b+2:=linK 0x1041fdd491090050750050 [a,b]
theorem Ky:a<=b->a<b+1:=linK 0x1041fde491050050750050 [a,b]
theorem KP:a<=b->a+(b+1-a)-1=b:=linK2 (bc (b+1) a) (bc (a+((b+1)-a)) 1) 0x1040040040040000040001000001001000001040840840040841840001000001001000001fdf4014039647d24414014904027524414014247d140275049105006591f4900904910500dd49009044191f4500dd441490090750050 [a,b,((b+1)-a),((a+((b+1)-a))-1)]
theorem KY:a<=b->¬(b=a)->a+1<=b:=linK 0x4100100107f75049105005d4100667d0050 [b,a]
theorem Jr:a<=0+b->b<=900->a<=20000:=linK 0x104107f7510023844017524114017511080d0 [b,a]
theorem Kv:a<=0+b->b<=900->a<=1000:=linK 0x41041fdd4483834017524114017511080d0 [b,a]
theorem IM:a=b->b<=1000->a<=10000:=linK 0x104107f7510011c24017d040175120e0d0 [b,a]
theorem KR:a=2*b+2->1<a:=linK 0x1061fde41105f491093090050 [a,b]
theorem KJ:a=2*b+2->0<a:=linK 0x4187f79045f491093090050 [a,b]
theorem K5:a<b->a+1<b+1:=linK 0x4107f792441401491050790050 [a,b]
theorem J6:a<b->b<=1000->a<=1000000000:=linK 0x104107f75100028c2892c340179040175120e0d0 [b,a]
theorem KI:a+b<=900->a<=1000:=linK 0x1041fdd44838341d444203490050 [a,b]
theorem J2:a+b+2<=1000->a<=1000:=linK 0x4107f75120e0d075120e0d2442490050 [a,b]
theorem Jk:a+b+1<=15000->a<=20000:=linK 0x4107f75100238441d44824a0d2441490050 [a,b]
theorem JF:a+(b+1)<=1000000->a+b<=1000000:=linK 0x1041fdd44010210f4900507510040843d2491050050 [a,b]
theorem JZ:a+(b+1)<=100->a+b<=100:=linK 0x1041fdd44419240141d444192491050050 [a,b]
theorem Ke:a+(b*5700+5700)<=400000->a+5700<=400000:=linK 0x4107f751008281192444106050751008281192491104181504106050050 [a,b]
theorem IP:a+(1+b)<=90->a<=100:=linK 0x4107f75110641d44a152490051050 [a,b]
theorem Jq:17<=b->a<=4->a<=b:=linK 0x104107f750050750051041751110 [a,b]
theorem Ju:(a+1-b)*5700<=5*5700->0+(a+1-b)*5700<=400000:=linK 0x1041fdd44020a046494104181411753151104181504106050 [((a+1)-b)]
theorem IS:((a:Nat):Int)<((b:Nat):Int)->a<b:=linK 0x4107f79005085c401710 [a,b]
theorem Jc:a<=a+b+c:=linK 0x41fdd490092401410 [a,b,c]
theorem JC:a+b+c-a=b+c:=linK1 (bc ((a+b)+c) a) 0x1040041001040841061fdf4900900500e591f4900924014124100dd49009240141091f4500dd412402490050 [a,b,c,(((a+b)+c)-a)]
theorem Kz:c<=2->a<=b+c+6->a<=b+20:=linK 0x41041fdd49110140141d442402752446490090050 [a,b,c]
theorem K3:c<=1000000->min (a-b) (c-b)<=16777216:=linK2 (bc c b) (oR (a-b) (c-b)) 0x4100100104100104104100100100100104103f7510000000000500e591f41240440275040491f45009d40442591f4024037500500a47d00500dd4024017510040843d0 [c,(a-b),(c-b),(min (a-b) (c-b)),b]
theorem KS:c+(b*5700+5700)<=400000->a<=c+5700->a+b*5700<=400000:=linK 0x41041fdd44020a04649410418140241d44020a046492444106054104181402401752444106050050 [a,c,b]
theorem I1:b<=c->a<=c->1+max a b<=c+1:=linK1 (oE a b) 0x4100100104004103f7524414014900d106591f4100dd4100a47d00900dd40241d401402750050 [a,c,b,(max a b)]
theorem Ki:b<=a->a<=c+b->a-b+(c+b-a)=c:=linK2 (bc a b) (bc (c+b) a) 0x4100100100004004004004100100104004004004104102102100004084184000106102100004184184003f7d00524034049647d049009011d4100a47d14047500909647d24024014904037524024014247d140375049009005d41009d490090050 [a,c,b,((c+b)-a),(a-b)]
theorem KA:b<=4->a<=c->c<=b->a<=100:=linK 0x1041041fdd44419009d444401750402750050 [c,b,a]
theorem Jh:b+a+(c+5)<=15000->a<=20000:=linK 0x4107f751002384401751209283492445402490050 [b,a,c]
theorem Ka:b+(c+1)<=400000->a<=b->a<=500000:=linK 0x41041fdd44008128741d44020a046492441402401750050 [a,b,c]
theorem IU:a<=b+c->a<=b+(c+5):=linK 0x1041fdd49244540240141d490090050 [a,b,c]
theorem Km:a<=b+c->a+1<=b+(c+1):=linK 0x4107f75249105009005244141d490090050 [a,b,c]
theorem J7:a=b+c->a+1=b+(c+1):=linK 0x4104187f7d249105009005244141f490090050 [a,b,c]
theorem Kt:a<c->c=b+1->b<=a->a=b:=linK 0x4104100100007f7d040179009005f491050402750050 [b,a,c]
theorem Kp:a+c+20<=15000->b<=2->a+b+c<=17000:=linK 0x104107f75120608449009241005d44824a0d2444052402401751090 [b,a,c]
theorem Jb:a+b+20<=20000->c<=15->a+b+c<=20000:=linK 0x104107f75100238449049009005d44008e1124440524024017513d0 [c,a,b]
theorem Lb:a+1<=c->b=c->a<b:=linK 0x104187f7904027500524414027d0050 [b,c,a]
theorem Kb:a+1<=c->b=2*c+2->2*(a+1)<b:=linK 0x104287f7904c249105009d40149105009f491093090050 [b,c,a]
theorem JS:a+1<=c->b=2*c+2->2*(a+1)+1<b:=linK 0x410a1fde4124414c249105009d40149105009f491093090050 [b,c,a]
theorem KC:a+(b+1)<=c->a+b<=c:=linK 0x1041fdd402490050750092491050050 [a,b,c]
theorem Jp:a+(1+max b c)<=90->a<=100:=linK 0x4107f75110641d44a152490051050 [a,(max b c)]
theorem Jg:a+(0+1+1+1+1+b+(0+1+1)+c)<=900->a<=1000:=linK 0x4107f75120e0d07511080d2490092491052441452401491052441491052441450 [a,b,c]
theorem JM:1<=a->b=c->a<=c->a-1<b:=linK1 (bc a 1) 0x4100102104100106107f7900900e591f41244140375044191f4500dd44141d41105f401402750050 [a,c,b,(a-1)]
theorem Ld:1+max c a<=b+1->a<=b:=linK1 (oE c a) 0x4106104102107f7500500e591f40241d40240391f40341d403402752441401490441 [(max c a),b,c,a]
theorem JL:1+max b c<=a->a=a-1+1:=linK1 (bc a 1) 0x4102100106100100100100107f7d24414024019647d00524414027500510647d140275105005d401490441 [(max b c),a,(a-1)]
theorem IL:1+max b c=0->a<=5:=linK 0x1001fdd4454017d1490441 [(max b c),a]
theorem Ks:1+max b c=0->a<=20:=linK 0x4007f7511014017d1490441 [(max b c),a]
theorem J0:1+max a c<=b+1->a<=b:=linK1 (oE a c) 0x4102104106107f7500500a591f40241d40240391f40341d403402752441401490441 [(max a c),b,a,c]
theorem Jl:d<b->b<=c->a<=d->a<b/\b<=c:=linK 0x4100100104007f91d40340279009079009005d403402750050 [a,d,b,c]
theorem KO:c=1+2*d->a<=b+1+d->a<=b+c:=linK 0x41841fdd4900d00507d24c2402441403752402491050050 [a,b,d,c]
theorem I2:c+d+2<=1000->d=1+2*b->a<=c+1+b->a+b+2<=1000:=linK 0x1041841fdd44838349109240241d4483834910924034017d24c2402441403752402491050050 [a,c,b,d]
theorem I0:b<=d+9->a<=c+9->1+max a b<=1+max c d+9:=linK2 (oE a b) (oE c d) 0x4100102100104004184004100106104004004084103f7524494901110524054419647d040575040291f4024057500909647d005011d40140391f4034047500d005d4912500d009d491250050 [a,c,b,d,(max c d),(max a b)]
theorem OE:b<=d->a<=c->a+b<=c+d:=linK 0x41041fdd4900d005240241d403402750050 [a,c,b,d]
theorem J9:a<b->b<=d->d<=c->a<b/\b<=c:=linK 0x4100104104003f91d4014027900900de402403750402750050 [d,c,b,a]
theorem Jt:a+b+(c+1)<=d->a+(b+1)+c<=d:=linK 0x4107f7500d240249244140141d403492441402490050 [a,b,c,d]
theorem I7:1+max c d=0->a<=5*b+28:=linK 0x1001fdd4913014c54024017d1490441 [(max c d),a,b]
theorem JW:c=1+2*d->e<=b+1+d->a<=e+d->a<=b+c:=linK 0x1061041fdd4901100d07d24c24024414047524024910500d005d490090050 [a,e,d,b,c]
theorem Je:c=1+2*f->a<=g->g<=b->d<=i+f->i<=e+f->g<=a+f->b<=g+f->a<=b/\b<=a+c/\d<=e+c:=linK 0x1061000041000061000000041040041000000fe491d4901d015019d4901d00d07504037d24c24024414077500500dd41005d49009011019d49009015011d4900900d005d490090050 [b,g,f,a,i,e,d,c]
theorem Jw:¬(48<=92/\92<=57):=by decide
theorem KD:¬(48<=44/\44<=57):=by decide
theorem JQ:48<=50/\50<=57:=by decide
theorem Lg:3<=0+9:=by decide
theorem XF:(0:Int)<1:=by decide
theorem Yz{b:Int}:(0:Int)<=b+((a:Nat):Int)->-((a:Nat):Int)<=b:=linK 0x1041fe055b710817710556 [a] [b]
theorem Wr{b:Int}:(0:Int)<=b->b<10->a<=Int.natAbs b->a<1920:=linK1 (Iw b) 0x1001001000040040041fde4402074259226d571006159592255c4018155a0556856295750050 [a,(Int.natAbs b)] [b]
theorem PK:¬(a+3=a+1):=linK 0x107f99f4910504910d0 [a]
theorem OX:¬(a+2=1):=linK 0x107f99f441491090 [a]
theorem RU:¬(a+1<a+1):=linK 0x107f99e491050491050 [a]
theorem XI:¬(2*(a+1)+1=2*(a+1)):=linK 0x41fe67d30924414124414c2491050 [a]
theorem WG:¬(1=2*(a+1)+1):=linK 0x61fe67d24414c2491050441 [a]
theorem P6:¬(1=2*(a+1)):=linK 0x187f99f4c2491050441 [a]
theorem Oy:¬(0=2*(a+1)+1):=linK 0x187f99f491053092441411 [a]
theorem Tq:¬(0=2*(a+1)):=linK 0x61fe67d3092441411 [a]
theorem Sz:¬(((a:Nat):Int)<=((a:Nat):Int)-1):=linK 0x41fe6818581710710 [a]
theorem UW:min 40 a<=40:=linK1 (oR 40 a) 0x1041041001fdd44809006591f41005d44809091f44809005d411202 [a,(min 40 a)]
theorem XA:a<=a+3:=linK 0x107f752443410 [a]
theorem QC:a<=a+0*5700:=linK 0x107f7524d1104181410 [a]
theorem YG:a+2+1<=(0+1)*(a+5):=linK 0x107f753052445412441491090 [a]
theorem Np:a+1<=a+3:=linK 0x41fdd4910d0491050 [a]
theorem YL:a+1<a+2:=linK 0x41fde491090491050 [a]
theorem OL:a+1+a+1<=2*a+2:=linK 0x107f7524424c2412441490491050 [a]
theorem V6:Int.toNat (2*((a:Nat):Int)+2)=2*a+2:=linK1 (i8 ((2*((a:Nat):Int))+2)) 0x1001001001041841021fdf4910930904019647d14018565d609909c4248975826427107100605d609909c416 [a,(Int.toNat ((2*((a:Nat):Int))+2))]
theorem Sh:Int.toNat (-1+((a:Nat):Int))=a-1:=linK2 (i8 ((-1)+((a:Nat):Int))) (bc a 1) 0x4004004004004084100102104004184004004004084004102100104184007f7d00500a591f4500a15977106d60648977106d605c4028177106d60569647d049105005d4110647d1401751050 [a,(a-1),(Int.toNat ((-1)+((a:Nat):Int)))]
theorem Qi:Int.toNat (((a:Nat):Int)+1)=a+1:=linK1 (i8 (((a:Nat):Int)+1)) 0x1001001001041841021fdf4910504019647d14018565d605c4248975817107100605d605c416 [a,(Int.toNat (((a:Nat):Int)+1))]
theorem O4:5*a+28<=625*a+4368:=linK 0x41fdd4910010414c11c241244c053150 [a]
theorem T9:5*a+28<=25*a+168:=linK 0x107f75244829324141244c053150 [a]
theorem UC:2+a+1<=(0+1)*(a+5):=linK 0x107f753052445412441490442 [a]
theorem Ws:2*a+2<=5*a+28:=linK 0x107f75244c053150491093090 [a]
theorem RT:2*a+2+1<=5*a+28:=linK 0x41fdd4913014c5412441491093090 [a]
theorem Xv:0<a+1:=linK 0x107f792441411 [a]
theorem TX:0+min 40 a<=1000000:=linK1 (oR 40 a) 0x4104104007f7510040843d240146591f41005d44809091f44809005d411202 [a,(min 40 a)]
theorem Wu:0+a=a:=linK 0x1041fdf412411 [a]
theorem Pg:0+((a:Nat):Int)=0+((a:Nat):Int)*1:=linK 0x1041fe25da05c4165dc416 [a]
theorem O0:(0:Int)<((a:Nat):Int)+1:=linK 0x41fe15d605c416 [a]
theorem ND:(0:Int)<((a+1:Nat):Int):=linK 0x41fe1712441416 [a]
theorem QB:(-1000000000:Int)<=((a:Nat):Int)-1:=linK 0x107f8185817106d600028c2892c3 [a]
theorem SN:((a:Nat):Int)<((a+1:Nat):Int):=linK 0x107f85c491050710 [a]
theorem Ww:((a:Nat):Int)-1<((a:Nat):Int):=linK 0x107f85c418581710 [a]
theorem TA:((a:Nat):Int)-1-((a:Nat):Int)=-1:=linK 0x4107f89b58161c418581710 [a]
theorem Xd:((2*a:Nat):Int)=2*((a:Nat):Int):=linK 0x1041fe2642710713090 [a]
theorem VC:((2*a+1:Nat):Int)=2*((a:Nat):Int)+1:=linK 0x1041fe25d605909c41c491053090 [a]
theorem VG:¬(((a:Nat):Int)-1<0)->((a-1:Nat):Int)=((a:Nat):Int)-1:=linK1 (bc a 1) 0x1040040040041040840041840fe261605c41c4019647d049105005d4110647d14017510509a1598581710 [a,(a-1)]
theorem Vg:a<=900->2+a<=15000:=linK 0x4107f7512092834904427511080d0 [a]
theorem Vo:a<=900->1+a<=15000:=linK 0x4107f7512092834904417511080d0 [a]
theorem QE:a<=7->a<=1000:=linK 0x4107f75120e0d07511d0 [a]
theorem QO:a<=7->a+1<=1000:=linK 0x1041fdd4483834910507511d0 [a]
theorem U9:a<=63->a<=1000000:=linK 0x1041fdd44010210f41d44f0d0 [a]
theorem Nc:a<=500000->a<=1000000:=linK 0x4107f7510040843d075100204a1d0 [a]
theorem ON:a<=500->a<=900:=linK 0x4107f7511080d075110f050 [a]
theorem R2:a<=50->a<=90:=linK 0x4107f75128541d4420d0 [a]
theorem UB:a<=50->a+5<=110:=linK 0x1041fdd44e19244541d4420d0 [a]
theorem Sb:a<=5->a<=25:=linK 0x1041fdd449050751150 [a]
theorem Yk:a<=44->a<=1000:=linK 0x1041fdd44838341d44c090 [a]
theorem RK:a<=44->a<=100:=linK 0x4107f75110641d44c090 [a]
theorem M9:a<=40->a<=1000000:=linK 0x1041fdd44010210f41d448090 [a]
theorem X1:a<=4->a<=999994:=linK 0x4107f7512830843d0751110 [a]
theorem VT:a<=4->a<=1000:=linK 0x4107f75120e0d0751110 [a]
theorem Xu:a<=4->4+a<=1000000:=linK 0x1041fdd44010210f490444751110 [a]
theorem Ue:a<=3->a<=9:=linK 0x4107f7512507510d0 [a]
theorem Ul:a<=25->a<=625:=linK 0x1041fdd4411c241d449050 [a]
theorem Pe:a<=25->a<30:=linK 0x4107f79138141d449050 [a]
theorem RY:a<=20000->a+1<=1000000:=linK 0x4107f7510040843d244141d44008e110 [a]
theorem Sr:a<=20000->0+a<=20000:=linK 0x4107f75100238449045d44008e110 [a]
theorem WW:a<=20->a+5<=50:=linK 0x1041fdd4420d244541d444050 [a]
theorem NZ:a<=17000->a<=19998:=linK 0x4107f75138138441d448182110 [a]
theorem WO:a<=101->0+a<=1000000:=linK 0x1041fdd44010210f49045d445190 [a]
theorem U3:a<=1000000000->(-2^40:Int)<=((a:Nat):Int)/\((a:Nat):Int)<=2^40:=linK 0x1041040fe481600000000000000005c4207106d600000000000000005d44000a30a24b0d0 [a]
theorem RG:a<=1000000->a<=1000000000:=linK 0x1041fdd44000a30a24b0d07510040843d0 [a]
theorem W7:a<=1000000->a<=1000000:=linK 0x4107f7510040843d07510040843d0 [a]
theorem QR:a<=1000000->0+a<=1000000:=linK 0x4107f7510040843d24117510040843d0 [a]
theorem Tu:a<=100000->a<=100000:=linK 0x4107f75100a18805075100a188050 [a]
theorem XN:a<=1000->a<=999999:=linK 0x4107f7513c30843d075120e0d0 [a]
theorem Ql:a<=1000->a<=20000:=linK 0x1041fdd44008e11075120e0d0 [a]
theorem S6:a<=1000->a<=1000000:=linK 0x4107f7510040843d075120e0d0 [a]
theorem TN:a<=1000->a+1<=1000000:=linK 0x1041fdd44010210f49105075120e0d0 [a]
theorem Ra:a<=1000->1+a<=1000000:=linK 0x1041fdd44010210f49044175120e0d0 [a]
theorem VQ:a<=100->a<=100:=linK 0x4107f75110641d444190 [a]
theorem QX:a<=100->a-1<=100:=linK1 (bc a 1) 0x1040041040040fdd44419006591f41244140175044191f45005d44141d444190 [a,(a-1)]
theorem P8:a<=100->a+2<=1000000:=linK 0x4107f7510040843d244241d444190 [a]
theorem VI:a<=100->(0:Int)<=2*((a:Nat):Int)+2/\2*((a:Nat):Int)+2<=1000:=linK 0x1042040fe481620e0d758264271081758264271059d444190 [a]
theorem VK:a<=10->a<=1000000:=linK 0x4107f7510040843d0751290 [a]
theorem Qo:a<=10->a<1000000:=linK 0x4107f7910040843d0751290 [a]
theorem S4:a<=0+7->a<=7:=linK 0x4107f7511d0752447450 [a]
theorem RC:a<=0+3->a<=3:=linK 0x4107f7510d0752443450 [a]
theorem RL:a=92\/a=40->a<128:=linK 0x4104107f7910084257d120241f44c150 [a]
theorem OA:a=92\/a=124->a<128:=linK 0x4104107f7910084257d130741f44c150 [a]
theorem Nz:a=92\/a=123\/a=50\/a=44\/a=92\/a=125->a<128:=linK 0x4104104104104104107f7910084259659657d134741f44c1507d130241f4420d07d12c741f44c150 [a]
theorem X9:a=92\/a=123\/a=49\/a=44\/a=50\/a=92\/a=125->a<128:=linK 0x4104104104104104104107f79100842596596595f44d1d07d130541f4420d07d130241f4410d07d12c741f44c150 [a]
theorem VB:a=63->a<128:=linK 0x4107f79100841f44f0d0 [a]
theorem T3:a=48\/a=49\/a=50\/a=51\/a=52\/a=53\/a=54\/a=55\/a=56\/a=57->48<=a/\a<=57:=linK 0x4104104104104104104104104104104184184184184184184184184184187f91d4490d07504400e59659659659657d124341f4480d07d11c341f4460d07d114341f4440d07d10c341f4420d07d104341f4400d0 [a]
theorem Ox:a=43->a<128:=linK 0x4107f79100841f44b090 [a]
theorem So:a=42\/a=63->a<128:=linK 0x4104107f7910084257d13c341f44a090 [a]
theorem Xl:a=42->a<128:=linK 0x4107f79100841f44a090 [a]
theorem XH:a<a->False:=linK 0x4007f8de410 [a]
theorem TJ:a<128->¬((65535:Int)<0*10+((a:Nat):Int)-48):=linK 0x4107f9a16160035dc41958a58f3cf3de440210 [a]
theorem SX:a<128->(0:Int)<=((a:Nat):Int)/\((a:Nat):Int)<128:=linK 0x4104103f92158021c42071059e440210 [a]
theorem Po:a<10->(0:Int)<=((a:Nat):Int)/\((a:Nat):Int)<10:=linK 0x4104103f92158a71081c416791290 [a]
theorem Xm:a+1<=a->False:=linK 0x1001fe3750491050 [a]
theorem SD:a+1<=500000->a+1<=1000000:=linK 0x4107f7510040843d244141d440081287491050 [a]
theorem Yp:a+1<=400000->¬((400000:Int)<((a:Nat):Int)+1):=linK 0x4107f9a15d605c41600828119d44020a046491050 [a]
theorem UN:a+1<=400000->a+1<=1000000:=linK 0x4107f7510040843d244141d44020a046491050 [a]
theorem NA:a+1<=200->a<=200:=linK 0x1041fdd44831075120c491050 [a]
theorem VF:48<=a->0*10+((a:Nat):Int)-48=((a-48:Nat):Int):=linK1 (bc a 48) 0x4102100106100100100100107f89c4016160035dc41958a9647d04910034017504400e47d140175100341d411003 [a,(a-48)]
theorem TB(h1:48<=a)(h2:a<=57):a=48\/a=49\/a=50\/a=51\/a=52\/a=53\/a=54\/a=55\/a=56\/a=57:=(by decide:∀a:Fin 58,48<=a.val->a.val=48\/a.val=49\/a.val=50\/a.val=51\/a.val=52\/a.val=53\/a.val=54\/a.val=55\/a.val=56\/a.val=57) ⟨a,lt_succ_of_le h2⟩ h1
theorem UE:3<=a->a=a-3+3:=linK1 (bc a 3) 0x1040840041840040040040041fdf4910d00509647d04910d005d4110e47d14017510d0750443 [a,(a-3)]
theorem Uh:3<=a->a=a-2+2:=linK1 (bc a 2) 0x1040840001001040040001001fdf4910900509647d049109005d4110a47d1401751090750443 [a,(a-2)]
theorem Sx:2*((a:Nat):Int)+2<=1000->0+(a+1)<=1000000:=linK 0x1081fdd44010210f49244141181620e0d7582642710 [a]
theorem RX:2*((a:Nat):Int)+2<=1000->((a:Nat):Int)<=1000000000:=linK 0x4207f81600028c2892c371081620e0d7582642710 [a]
theorem S8:2*((a:Nat):Int)+2<=1000->((a:Nat):Int)+1<=1000000000:=linK 0x1081fe058000a30a24b0d758171081620e0d7582642710 [a]
theorem RE(h1:1<=a)(h2:a<=9):a=1\/a=2\/a=3\/a=4\/a=5\/a=6\/a=7\/a=8\/a=9:=(by decide:∀a:Fin 10,1<=a.val->a.val=1\/a.val=2\/a.val=3\/a.val=4\/a.val=5\/a.val=6\/a.val=7\/a.val=8\/a.val=9) ⟨a,lt_succ_of_le h2⟩ h1
theorem Tx:17<=a->0+1+1<=a:=linK 0x4107f75049105244145d411041 [a]
theorem WA:0<a->(0:Int)<=-1+((a:Nat):Int):=linK 0x1041fe05dc41b58159e411 [a]
theorem VA:(a+1)*(a+1)<=1001*1001->(0:Int)<=(((a+1)*(a+1):Nat):Int)/\(((a+1)*(a+1):Nat):Int)<=1002001:=linK 0x4104103f92058104a10f71081c41675324e0d124e0d0 [((a+1)*(a+1))]
theorem X3:((a:Nat):Int)<=2^40->((a:Nat):Int)<2^63:=linK 0x1041fe158000000000000000000000021c420580000000000000001710 [a]
theorem Wt:((a:Nat):Int)=0->a=0:=linK 0x1041061fdf450896710 [a]
theorem TF:((a:Nat):Int)<5->0+a<=100:=linK 0x4107f751106490461585710 [a]
theorem Kr:((a:Nat):Int)<5->((a:Nat):Int)<=1000000000:=linK 0x1041fe058000a30a24b0dc421585710 [a]
theorem U8:((a:Nat):Int)<3->a<=1000:=linK 0x1041fdd448383421583710 [a]
theorem VE:((a:Nat):Int)-1<0->((a-1:Nat):Int)=0:=linK1 (bc a 1) 0x4004004100100004004102103f89671006591f41244140175044191f45005d441421598581710 [a,(a-1)]
theorem Nh:(((a:Nat):Int)+1)*(((a:Nat):Int)+1)<=1002001->(((a:Nat):Int)+1)*(((a:Nat):Int)+1)<=1000000000:=linK 0x1041fe058000a30a24b0d58160412843d5 [] [((((a:Nat):Int)+1)*(((a:Nat):Int)+1))]
theorem Qp{a:Int}{b:Nat}:a-1-((b:Nat):Int)=a-(((b:Nat):Int)+1):=linK 0x1041fe2617581710558710616055 [b] [a]
theorem Vu{a:Int}{b:Nat}:a-((b:Nat):Int)=a+((b:Nat):Int)*-1:=by rw[Int.mul_neg_one,Int.sub_eq_add_neg]
theorem Va{a:Int}{b:Nat}:a+1+((b:Nat):Int)=a+(((b:Nat):Int)+1):=linK 0x1041fe25d75817105577105d6055 [b] [a]
theorem V8{a:Int}{b:Nat}:¬(a<0)->min a ((b:Nat):Int)=max 0 (min a ((b:Nat):Int)):=linK2 (CK a ((b:Nat):Int)) (yx (0:Int) (min a ((b:Nat):Int))) 0x1040001840040000840040001840040000840040840040040000040040840041040000040fe254254196489c41506055c42489554181c4159648965428165419225415428150569a1595 [b] [a,(min a ((b:Nat):Int)),(max 0 (min a ((b:Nat):Int)))]
theorem Vw{a:Int}{b:Nat}:a=((b:Nat):Int)+((0:Nat):Int)-1->a=((b:Nat):Int)-1:=linK 0x1041061fe261605c4158985815dc45c415 [b] [a]
theorem W8{a:Int}{b:Nat}:a<0->max (a+((b:Nat):Int)) 0=max 0 (min (a+((b:Nat):Int)) ((b:Nat):Int)):=linK3 (yx (a+((b:Nat):Int)) (0:Int)) (CK (a+((b:Nat):Int)) ((b:Nat):Int)) (yx (0:Int) (min (a+((b:Nat):Int)) ((b:Nat):Int))) 0x1000001000001000001000001040040841840040040840840000001000001000001000001040040000840040040001840000001000001000001000001041840000040040840040040000001000001000001000001040840000040041840040040fe25425439648977105550e05dc4155a48965438165dc41596489c4150605dc4157109225dc41554181c4177105659225950a05950648950550a05415a1595 [b] [a,(min (a+((b:Nat):Int)) ((b:Nat):Int)),(max 0 (min (a+((b:Nat):Int)) ((b:Nat):Int))),(max (a+((b:Nat):Int)) 0)]
theorem VX{a:Int}{b:Nat}:a<((b:Nat):Int)->a<((b:Nat):Int):=linK 0x4107f85c41585c415 [b] [a]
theorem S0{a:Int}{b:Nat}:-((b:Nat):Int)<=a->a<0->(0:Int)<=a+((b:Nat):Int)/\a+((b:Nat):Int)<((b:Nat):Int):=linK 0x4100104103f9217105dc4158177105568156dc421595 [b] [a]
theorem OR{a:Int}{b:Nat}:(0:Int)<=a+((b:Nat):Int)->¬((0:Int)<=a)->Int.toNat (a+((b:Nat):Int))<b:=linK1 (i8 (a+((b:Nat):Int))) 0x1001001001001001fde41006591f45006159771056489771055c4018177105568177105569a0556 [b,(Int.toNat (a+((b:Nat):Int)))] [a]
theorem Om{a:Int}{b:Nat}:(0:Int)<=a->a<((b:Nat):Int)->Int.toNat a<b:=linK1 (i8 a) 0x1001001001001001fde41006591f45006159592255c4018155a055685c415 [b,(Int.toNat a)] [a]
theorem Th{a:Int}{b:Nat}:(0:Int)<=a->a<((b:Nat):Int)->(0:Int)<=a/\a<((b:Nat):Int):=linK 0x1040041040fe485c4158155a055685c415 [b] [a]
theorem OD{a:Int}{b c:Nat}:a=((b:Nat):Int)+((c+1:Nat):Int)-1->a=((b+c:Nat):Int):=linK 0x1041061fe27124014158985815dc49105005c415 [b,c] [a]
theorem Qt{a:Int}{b c:Nat}:a=((b+c:Nat):Int)->a-1=((b:Nat):Int)+((c:Nat):Int)-1:=linK 0x1041061fe261605771005c418581562712401415 [b,c] [a]
theorem YH{a:Int}{b c:Nat}:(0:Int)<=a->b<c->b=Int.toNat (a+((c:Nat):Int))->a=((b:Nat):Int):=linK1 (i8 (a+((c:Nat):Int))) 0x1001841061000841061001841061000841061fe271056591f4500615977100959225dc40255c4018177100955a05567900907d0050 [b,(Int.toNat (a+((c:Nat):Int))),c] [a]
theorem NL{a:Int}{b c d:Nat}:a=((b:Nat):Int)+((c:Nat):Int)+((d+1:Nat):Int)-1->a=((b+(c+d):Nat):Int):=linK 0x4104187f89c4924024014158985815dc49105009771005c415 [b,c,d] [a]
theorem YK{a:Int}:¬(a<0)->a=((Int.natAbs a:Nat):Int):=linK1 (Iw a) 0x4004004102100004004100103f89c41596489b55c42159592255c4205569a1595 [(Int.natAbs a)] [a]
theorem OG{a:Int}:¬((0:Int)<=a)->a<0:=linK 0x1041fe15959a0556 [] [a]
theorem TC{a:Int}:¬((0:Int)<a)->(0:Int)=((Int.toNat a:Nat):Int):=linK1 (i8 a) 0x4102100106100100100100107f89c4169647d142159592255c4205569a1556 [(Int.toNat a)] [a]
theorem VJ{a:Int}:a<=2^40->a<2^62:=linK 0x1041fe1580000000000000000000000115816000000000000000055 [] [a]
theorem WD{a:Int}:a<10->Int.toNat a<10:=linK1 (i8 a) 0x4100100100107f7912909647d142159592255c420556856295 [(Int.toNat a)] [a]
theorem N4{a:Int}:a<0->-a=((Int.natAbs a:Nat):Int):=linK1 (Iw a) 0x4102100004004100100004007f89c41b5659226d57108565648957108155a1595 [(Int.natAbs a)] [a]
theorem YD{a:Int}:(5:Int)<a->¬(a<2)/\¬(a=2)/\¬(a=3)/\¬(a<6):=linK 0x1041041041041fe49249a15865668960d59a2582566856095855585 [] [a]
theorem Tf{a:Int}:(3:Int)<a->a<6->¬(a<2)/\¬(a=2)/\¬(a=3)/\a<6:=linK 0x4100104100104004103f9249215865668960d59a2582566856095855583856195 [] [a]
theorem NB{a:Int}:(2:Int)<=a->¬(a=1):=linK 0x1041fe6896055815582 [] [a]
theorem Tw{a:Int}:(2:Int)<=a->(0:Int)<a:=linK 0x1041fe1556815582 [] [a]
theorem Qs{a:Int}:(2:Int)<=a->a<=1000->(-9223372036854775808:Int)<=a/\a<9223372036854775808:=linK 0x4100104103f9215800000000000000000000002158156d600000000000000000000000881558281620e0d5 [] [a]
theorem U1{a:Int}:(0:Int)<=a->¬(a<0):=linK 0x1041fe6856560556 [] [a]
theorem WH{a:Int}:(0:Int)<=a->(0:Int)<=a:=linK 0x4107f8155a0556 [] [a]
theorem TK{a:Int}:(0:Int)<=a->((Int.toNat a:Nat):Int)=a:=linK1 (i8 a) 0x1001001040040001001040840fe255c42591f4508565648957108155a0556 [(Int.toNat a)] [a]
theorem Nf{a:Int}:(0:Int)<=a->¬(a=0)->¬(a=1)->(2:Int)<=a:=linK 0x4100004000104000104004103f8155828155a6896566896055 [] [a]
theorem V1{a:Int}:(0:Int)<=a->a<=1000->(-9223372036854775808:Int)<=a/\a<9223372036854775808:=linK 0x1040041040fe485600000000000000000000000856055b58000000000000000000000022055681620e0d5 [] [a]
theorem Tn{a:Int}:(0:Int)<=a->a<8->a=0\/a=1\/a=2\/a=3\/(3:Int)<a/\a<6\/(5:Int)<a/\a<8:=linK 0x1000000001001000000041000000000001001000001040000000000001001000000041000000000001001000041000000000000001001000000041000000000001001000001040000000000001001000000041000000000001001001040000000000000001001000000041000000000001001000001040000000000001001000000041000000000001001000041000000000000001001000000041000000000001001000001040000000000001001000000041000000000001001041000000000000000001001000000041000000000001001000001040000000000001001000000041000000000001001000041000000000000001001000000041000000000001001000001040000000000001001000000041000000000001001001040000000000000001001000000041000000000001001000001040000000000001001000000041000000000001001000041000000000000001001000000041000000000001001000001040000000000001001000000041000000000001001040000000040fe59659659215885615561648561958555838960d5896095896055896560556856215 [] [a]
theorem Wi{a:Int}:(0:Int)<=a->a<4->a=0\/a=1\/a=2\/a=3:=linK 0x1000001001000041000000001001001040000000001001000041000000001001041000000000001001000041000000001001001040000000001001000041000000001001040000040fe59658960d5896095896055896560556856115 [] [a]
theorem Rm{a:Int}:(0:Int)<=a->a<128->(0:Int)<=a/\a<=1114111:=linK 0x1040041040fe48163cf3cf0015605568155a1580215 [] [a]
theorem Nu{a:Int}:(0:Int)<a->a-0=((Int.toNat a:Nat):Int):=linK1 (i8 a) 0x1001001040840001001040040fe271061656591f4508565648957108155a1556 [(Int.toNat a)] [a]
theorem Sp{a:Int}:(0:Int)<a->a<1000->Int.natAbs a<1073741824:=linK1 (Iw a) 0x4004004004004007f7910000000000044259226d57108565648957108155a155685620e0d5 [(Int.natAbs a)] [a]
theorem W6{a:Int}:(-2^40:Int)<=a->(-2^62:Int)<=a:=linK 0x1041fe055b58000000000000000000000012055b580000000000000001 [] [a]
theorem PU{a:Int}:(-2^40:Int)<=a->a<=2^40->(-9223372036854775808:Int)<=a/\a<9223372036854775808:=linK 0x1040041040fe485600000000000000000000000856055b58000000000000000000000022055b580000000000000001816000000000000000055 [] [a]
theorem Pj{a:Int}:(-1000000000:Int)<=a->a<=1000000000->(-2^40:Int)<=a/\a<=2^40:=linK 0x1040041040fe48160000000000000000558156d600000000000000006055b58000a30a24b0e058000a30a24b0d5 [] [a]
theorem S7{c:Int}:c=((b:Nat):Int)+((a:Nat):Int)+((0:Nat):Int)-1->¬(((a:Nat):Int)+((b:Nat):Int)<=c):=linK 0x1041fe68155dc41c4018985815dc45771005c415 [b,a] [c]
theorem Vm{c:Int}:((a:Nat):Int)=max 0 (min c ((b:Nat):Int))->a<=b:=linK2 (CK c ((b:Nat):Int)) (yx (0:Int) (min c ((b:Nat):Int))) 0x4100000104100100104100000104104100107f75005096489c40154181509c40192254254181c401542964896560595064895055815056895710 [a,b] [(max 0 (min c ((b:Nat):Int))),(min c ((b:Nat):Int)),c]
theorem Tc:¬(2*(a+1)+1=2*b):=by omega
theorem YE:¬(2*(a+1)+1=2*(b+1)):=by omega
theorem Vd:a<b+1+a:=linK 0x41fde490491050050 [a,b]
theorem RB:a+b+3=a+3+b:=linK 0x1041fdf490052443412443490050 [a,b]
theorem Yf:a+3+(b+1)=a+3+b+1:=linK 0x1041fdf4910524014910d04924414014910d0 [a,b]
theorem R8:a+2+b+2=a+(b+2+1+1):=linK 0x4107f7d2491052441491090050491092401491090 [a,b]
theorem UJ:a+2+b+1=a+3+b:=linK 0x4107f7d24014910d0491052401491090 [a,b]
theorem Uc:a+1<=a-b+1+b:=linK1 (uG a b) 0x4107f75240249105005244141d490090050 [a,(a-b),b]
theorem Ta:a+1<=a+(b+1):=linK 0x107f752491050050491050 [a,b]
theorem W9:a+1+b+2=a+3+b:=linK 0x4107f7d24014910d0491092401491050 [a,b]
theorem PY:Int.toNat (((a:Nat):Int)-((b:Nat):Int)-1+1)=a-b:=linK2 (i8 (((((a:Nat):Int)-((b:Nat):Int))-1)+1)) (bc a b) 0x4004004004004084100102104004184004004004084004102100104184007f7d00900e591f4500e159758161605871005c42489758161605871005c41c40381758161605871005c4169647d049005009d4100647d1402750050 [a,b,(a-b),(Int.toNat (((((a:Nat):Int)-((b:Nat):Int))-1)+1))]
theorem SI:Int.toNat (((a:Nat):Int)+((b:Nat):Int)*1)=a+b:=linK1 (i8 (((a:Nat):Int)+(((b:Nat):Int)*1))) 0x4004004004106104087f7d24014100a591f4500a159768171005c42489768171005c41c40281768171005c416 [a,b,(Int.toNat (((a:Nat):Int)+(((b:Nat):Int)*1)))]
theorem Nn:1<=a-b+1:=linK 0x41fdd491050441 [(a-b)]
theorem Qb:1<=(a+1)*(b+5)+3:=linK 0x41fdd4910d0441 [((a+1)*(b+5))]
theorem WT:(a+1)*(b+5)+3+1<=(a+1)*(b+5)+4:=linK 0x107f7524444124414910d0 [((a+1)*(b+5))]
theorem Tj:(-1000000000:Int)<=((a:Nat):Int)+((b:Nat):Int)-1:=linK 0x107f8185815dc4017106d600028c2892c3 [a,b]
theorem N3:((a:Nat):Int)-(((b:Nat):Int)+1)=((a:Nat):Int)-((b:Nat):Int)-1:=linK 0x1041fe261605871005c4185d605c401710 [a,b]
theorem Vk:((a:Nat):Int)+((b:Nat):Int)=((a+b:Nat):Int):=linK 0x4107f89c4900505dc401710 [a,b]
theorem RH:((a+1+b:Nat):Int)-1=((b+a:Nat):Int):=linK 0x1041fe2712410058581712401491050 [a,b]
theorem S1:¬(b=a)->¬(2*(a+1)=2*(b+1)):=linK 0x610810bf99f4c24910504c24910500667d0050 [b,a]
theorem VS:¬(b<a)->a+(b-a)=b:=linK1 (bc b a) 0x4100100100104102100106103f7d049009006591f41240140275040191f45009d401426790050 [b,a,(b-a)]
theorem OT:¬(b<a)->¬(b=a)->a+1<=b:=linK 0x1040040041fdd41244140199e4014267d0050 [b,a]
theorem N9:¬(a=b+2)->¬(a=b+2):=linK 0x4106107f99f49109005099f491090050 [a,b]
theorem QF:¬(a=b+1)->¬(a=b+1):=linK 0x4106107f99f49105005099f491050050 [a,b]
theorem VV:¬(a=b)->¬(a=b):=linK 0x4106107f99f4014267d0050 [a,b]
theorem Ym(h1:¬(((b:Nat):Int)<((a:Nat):Int))):Int.toNat 0=a-b:=(sub_eq_zero_of_le (Int.ofNat_le.mp (Int.not_lt.mp h1))).symm
theorem Sl:b<=a->¬(2*(a+1)=2*b):=linK 0x410bf99f4c2413092441401750050 [b,a]
theorem Oj:b<=a->((a:Nat):Int)=((b:Nat):Int)+((a+1-b:Nat):Int)-1:=linK1 (bc (a+1) b) 0x4102100004004100100004007f8985815dc40271071006591f49105005241009d49105005091f45009d412441401750050 [b,a,((a+1)-b)]
theorem Te:b<=a->((a:Nat):Int)-((b:Nat):Int)=((a-b:Nat):Int):=linK1 (bc a b) 0x4102100106100100100100107f89c40261c41c4019647d005241009d4014247d1402750401750050 [b,a,(a-b)]
theorem Vf:b<=a->a<=b->a=b:=linK 0x4100104103f7d0050750401750050 [a,b]
theorem PI:b<=625*1+4368->a<=b->a<=5700:=linK 0x104107f75110418141d4910010414c11c2441401750050 [a,b]
theorem SM:b<=625*(1+1)+4368->a<=b->a<=5700:=linK 0x41041fdd444106050752440041053047092441441401750050 [a,b]
theorem Pb:b<=500->a<=b+1->a<=16777216+1:=linK 0x41041fdd49105100000000005075110f05005d491050050 [a,b]
theorem Rj:b<=50->a<=50->a+b<=110:=linK 0x41041fdd44e19240141d4420d005d4420d0 [a,b]
theorem Qr:b<=50->a<=50->a+b+10<=110:=linK 0x104107f75138649129240141d4420d005d4420d0 [a,b]
theorem Xg:b<=5->a<=5->a+b<=25:=linK 0x41041fdd44905240141d445401751150 [a,b]
theorem WQ:b<=4->min a b<=4:=linK1 (oR a b) 0x1040041041041fdd4444029647d040275005091f401402750401751110 [b,a,(min a b)]
theorem Vs:b<=4->a<=b->a<=1000000000:=linK 0x104107f75100028c2892c341d444401750050 [a,b]
theorem VL:b<=4->a<=b->a<=100:=linK 0x104107f75110641d444401750050 [a,b]
theorem Rc:b<=25->a<=25->a+b<=625:=linK 0x104107f75104709240141d44905005d449050 [a,b]
theorem Ol:b<=20->a<=20->a+b<=50:=linK 0x41041fdd4420d240141d44405005d444050 [a,b]
theorem QQ:b<=20->a<=20->a+b+10<=50:=linK 0x104107f75108349129240141d44405005d444050 [a,b]
theorem Yl:b<=2->5*(a+5)+b<=5*a+28:=linK 0x4107f75244c053150052413152445401751090 [b,a]
theorem R3:b<=2->a<=b+9->a<=37+1:=linK 0x104107f75244144509075109005d491250050 [a,b]
theorem OU:b<=2->a<=b+9->a<=37:=linK 0x41041fdd44509075109005d491250050 [a,b]
theorem Ya:b<=18->a<=b->a<=999996:=linK 0x104107f7513030843d0751081401750050 [a,b]
theorem Pn:b<=18->a<=b->a<=999994:=linK 0x104107f7512830843d0751081401750050 [a,b]
theorem N2:b<=18->a<=b->4+a<=1000000:=linK 0x41041fdd44010210f490444751081401750050 [a,b]
theorem SP:b<=18->a<=b->2+a<=1000000:=linK 0x41041fdd44010210f490442751081401750050 [a,b]
theorem Wo:b<=1000000->a<=b->a-1<=1000000000:=linK1 (bc a 1) 0x1040041041001000fdd44000a30a24b0d00a591f41244140275044191f45009d44141d44010210f401750050 [a,b,(a-1)]
theorem UT:b<=1000->a<=b->a<=1000:=linK 0x41041fdd44838341d448383401750050 [a,b]
theorem Qx:b=a+4\/b=a+2\/b=a+3\/b=a\/b=a+1->a<=b:=linK 0x4184184184184187f7504019659657d244140141f40141f4910d00507d244240141f491110050 [b,a]
theorem UI:b=a+3->a<=b:=linK 0x1061fdd41005f4910d0050 [b,a]
theorem U5:b=a+2->a<=b:=linK 0x1061fdd41005f491090050 [b,a]
theorem OC:b=a+1->a<=b:=linK 0x1061fdd41005f491050050 [b,a]
theorem Vi:b=a->¬(a<b):=linK 0x1041fe67904017d0050 [b,a]
theorem Wx:b<a->a-b+1=a-b-1+2:=linK2 (bc a b) (bc (a-b) 1) 0x4100002100100006100000104000004000004100000100102100104000104000004000007f7d24424034910500a591f40149040275005091f45009d41006591f4024910500dd40244191f4500dd441402790050 [b,a,(a-b),((a-b)-1)]
theorem Sj:b<a->(0:Int)<((a:Nat):Int)-((b:Nat):Int):=linK 0x4107f858710710056790050 [b,a]
theorem TL:b<a->((a:Nat):Int)-1-((b+1:Nat):Int)=((a-1-b:Nat):Int)-1:=linK2 (bc a 1) (bc (a-1) b) 0x4102102100102106100106102100106106100100100100100000104100100104100000107f8985817100d871244141858171006591f40149105009d40144191f45009d4414019647d00924100dd4024247d1403750402790050 [b,a,(a-1),((a-1)-b)]
theorem TH:b<a->((a-1-b:Nat):Int)=((a:Nat):Int)-1-((b:Nat):Int):=linK2 (bc a 1) (bc (a-1) b) 0x4100100100100000104100100104100000104102102100102106100106102100106106103f89871061605c4017100e591f40149105009d40144191f45009d4414019647d00924100dd4024247d1403750402790050 [b,a,(a-1),((a-1)-b)]
theorem Yb:b+a<=17000->a<=19999:=linK 0x4107f7513c1384401751206084490050 [b,a]
theorem PV:b+a<=17000->a<=19997:=linK 0x4107f751341384401751206084490050 [b,a]
theorem QD:b+a<=17000->a<=19996:=linK 0x4107f751301384401751206084490050 [b,a]
theorem WJ:b+a<=17000->a<=19995:=linK 0x4107f7512c1384401751206084490050 [b,a]
theorem PX:b+a<=17000->a<=19994:=linK 0x4107f751281384401751206084490050 [b,a]
theorem Wd:b+a<=17000->a<=19993:=linK 0x4107f751241384401751206084490050 [b,a]
theorem OB:b+a<=17000->a<=18999:=linK 0x4107f7511c3284401751206084490050 [b,a]
theorem Wk:b+a<=17000->a<=18997:=linK 0x4107f751143284401751206084490050 [b,a]
theorem Sm:b+a<=100000->a<=100000:=linK 0x4107f75100a18805005d440286201490050 [b,a]
theorem Ud:b+a+20<=15000->a<=20000:=linK 0x4107f751002384401751209283491101490050 [b,a]
theorem Um:b+3<a->¬(a=b+2):=linK 0x1041fe67d244241005e4014910d0 [b,a]
theorem N5:b+1<=400000->a<=b->a<=400000:=linK 0x104107f751008281190751008281192441401750050 [a,b]
theorem WR:b+1<=200->a<=b->a+1<=1000000:=linK 0x104107f7510040843d244141d448312441401750050 [a,b]
theorem Yw:b+1<=200->a<=b->1+a<=1000000:=linK 0x104107f7510040843d241105d448312441401750050 [a,b]
theorem XJ:b+1<=200->a<=b->0+a<=1000000:=linK 0x41041fdd44010210f49045d448312441401750050 [a,b]
theorem Qj:b+1+1<=a+1->((a:Nat):Int)-1=((a-1:Nat):Int):=linK1 (bc a 1) 0x4102100106100100100100107f89c40261605c4019647d00524414027500510647d140275105005d491050052441491050 [b,a,(a-1)]
theorem Pd:b+(0+1+1+a+(0+1+1))<=900->a<=900:=linK 0x4107f7511080d005d444203492491052441452401491052441450 [b,a]
theorem NT:a<=b\/b+3<a->¬(a=b+3):=linK 0x4106107f99f4910d005095e412443401750050 [a,b]
theorem Rp:a<=b\/b+3<a->¬(a=b+2):=linK 0x4106107f99f49109005095e412443401750050 [a,b]
theorem Rz:a<=b\/b+3<a->¬(a=b+1):=linK 0x4106107f99f49105005095e412443401750050 [a,b]
theorem XO:a<=b\/b+2<a->¬(a=b+2):=linK 0x4106107f99f49109005095e412442401750050 [a,b]
theorem Vb:a<=b\/b+2<a->¬(a=b+1):=linK 0x4106107f99f49105005095e412442401750050 [a,b]
theorem X7:a<=b-1->a<=b:=linK1 (bc b 1) 0x1040041040041fdd40242591f40249105005d40244191f45005d441402750050 [a,(b-1),b]
theorem Nl:a<=b+9->1+a<=1+b+9:=linK 0x4107f75244949005105241105d491250050 [a,b]
theorem Sn:a<=b->a<=b+3:=linK 0x1041fdd4910d0050750050 [a,b]
theorem IV:a<=b->a-b=0:=linK1 (bc a b) 0x4100104100100106100102103f7d14029647d049005009d4100647d1402750050750050 [a,b,(a-b)]
theorem Pu:a<=b->1+a<=b+1:=linK 0x4107f752441401490441750050 [a,b]
theorem WZ:a<=b->((a:Nat):Int)-((b:Nat):Int)<=0:=linK 0x4107f81661c401710750050 [a,b]
theorem Rt:a<=5*(b+1)+28->a+1<=25*b+168:=linK 0x1041fdd49120a4c905005244141d4913014c5491050050 [a,b]
theorem W0:a<=4->a-b+1<=200:=linK1 (bc a b) 0x1040041040040fdd4483124414029647d049005009d4100647d1402750050751110 [a,b,(a-b)]
theorem SH:a<=4->b<=7->a+2+1+1+1+1+b<=1000000:=linK 0x41041fdd44010210f49049105244149105244149109005d4444017511d0 [b,a]
theorem Ri:a<=25*(b+1)+168->a+1<=625*b+4368:=linK 0x1041fdd4910010414c11c2401491050752448293241491050050 [a,b]
theorem Ot:a<=1000000->a+b*0<=16777216:=linK 0x4107f7510000000000525100507510040843d0 [a,b]
theorem Ng:a<=0+b->a<=b:=linK 0x4107f750050752401450 [a,b]
theorem Wj:a<=0+b->b<=900->a<=999:=linK 0x41041fdd4473834017524114017511080d0 [b,a]
theorem XW:a<=0+b->b<=900->a<=998:=linK 0x41041fdd4463834017524114017511080d0 [b,a]
theorem TQ:a<=0+b->b<=900->a<=19999:=linK 0x104107f7513c13844017524114017511080d0 [b,a]
theorem Pk:a=b+1->a<=b+20:=linK 0x1041fdd49110140141f491050050 [a,b]
theorem Yq:a=b->a<=b+20:=linK 0x4107f7524440500507d0050 [a,b]
theorem VY:a=b->b<=1000->a<=1000:=linK 0x41041fdd4483834017d040175120e0d0 [b,a]
theorem S9:a=b->b<=100->a<=500:=linK 0x104107f75110f05005f41005d444190 [b,a]
theorem Ro:a=b->b<=100->a<=1000000:=linK 0x104107f7510040843d005f41005d444190 [b,a]
theorem SY:a=92\/a=48+b->b<=9->a<128:=linK 0x1041041040fde4402100657d24110034017d1305401751250 [b,a]
theorem Ys:a=0->a<=b:=linK 0x1041fdd40141f450 [a,b]
theorem N1:a<b->¬(a=b+3):=linK 0x6107f99f4910d0050790050 [a,b]
theorem X6:a<b->a<b+3:=linK 0x1041fde4910d0050790050 [a,b]
theorem SS:a<b->a<b+1:=linK 0x1041fde491050050790050 [a,b]
theorem Yd:a<b->a+1<=b:=linK 0x1041fdd401491050790050 [a,b]
theorem Pl:a<b->2*(a+1)+1<2*b+2:=linK 0x1042fde4910930900524414c2491050790050 [a,b]
theorem OH:a<b->((a:Nat):Int)<((b:Nat):Int):=linK 0x4107f85c401710790050 [a,b]
theorem NS:a<b->b<=1000000->a<=1000000000:=linK 0x104107f75100028c2892c34017904017510040843d0 [b,a]
theorem RJ:a<b->b<=100->a+1<=100:=linK 0x104107f75110649105005e41005d444190 [b,a]
theorem U7:a-b=0->¬(a<b)->a=b:=linK1 (uG a b) 0x4104100100007f7d005075240140241f4500a6790050 [a,b,(a-b)]
theorem Uk:a-1<b->a<=b:=linK1 (uG a 1) 0x104107f75005009d491050402790050 [(a-1),b,a]
theorem Nv:a+b<=19000->a<=20000:=linK 0x1041fdd44008e110751203284490050 [a,b]
theorem Yh:a+b<=19000->a+b+1<=20000:=linK 0x1041fdd44008e112441490050751203284490050 [a,b]
theorem X2:a+b<=17000->a<=19998:=linK 0x1041fdd44e04e110751206084490050 [a,b]
theorem S3:a+b<=17000->a<=19997:=linK 0x1041fdd44d04e110751206084490050 [a,b]
theorem YB:a+b<=17000->a<=19996:=linK 0x1041fdd44c04e110751206084490050 [a,b]
theorem PM:a+b<=17000->a<=19995:=linK 0x1041fdd44b04e110751206084490050 [a,b]
theorem UQ:a+b<=17000->a+2+(b+3)<=19000:=linK 0x4107f751203284492443401491090751206084490050 [a,b]
theorem SK:a+b<=17000->a+1+(b+1)<=19000:=linK 0x4107f751203284492441401491050751206084490050 [a,b]
theorem Rd:a+b<=100000->a<=100000:=linK 0x1041fdd44028620141d440286201490050 [a,b]
theorem XZ:a+b<a->False:=linK 0x1001fe3790490050 [a,b]
theorem V5:a+b+2<=1000->a+1+1<=1000:=linK 0x4107f75120e0d244149105075120e0d2442490050 [a,b]
theorem NG:a+b+20<=15000->a+b+20<=20000:=linK 0x4107f751002384491101490050751209283491101490050 [a,b]
theorem VD:a+b+1<=1000000->a<1000000:=linK 0x4107f7910040843d07510040843d2441490050 [a,b]
theorem R1:a+b+1<=1000000->a+b<=1000000:=linK 0x1041fdd44010210f4900507510040843d2441490050 [a,b]
theorem XD:a+b+1<=1000000->a+1+b<=1000000:=linK 0x4107f7510040843d24014910507510040843d2441490050 [a,b]
theorem Wb:a+5700<=400000->b<=5700->a+b<=400000:=linK 0x41041fdd44020a04649040175100828119244410605005d444106050 [b,a]
theorem Qh:a+3<=b->a+1<=b:=linK 0x4107f75005244141d4014910d0 [a,b]
theorem Xb:a+3<b->a<b:=linK 0x1041fde40141e4014910d0 [a,b]
theorem Si:a+2*(b+1)<=900->a<=1000:=linK 0x4107f75120e0d07511080d24c2491050050 [a,b]
theorem Vq:a+2*(b+1)<=900->a+1<=1000:=linK 0x1041fdd4483834910507511080d24c2491050050 [a,b]
theorem Oo:a+2*(b+1)<=900->a+1+1+2*b<=900:=linK 0x1041fdd4442034930900524414910507511080d24c2491050050 [a,b]
theorem Xy:a+1<=b->a<=b+1:=linK 0x4107f75244140141d401491050 [a,b]
theorem TM:a+1<=b->b-a<=0->False:=linK1 (uG b a) 0x1001041fe375240141009d40249105005d450 [(b-a),a,b]
theorem OP:a+(b+5)<=15000->a+b<=15000:=linK 0x1041fdd44824a0d240141d44824a0d2491150050 [a,b]
theorem Yo:a+(b+1)<=900->a<=1000:=linK 0x4107f75120e0d07511080d2491050050 [a,b]
theorem Uw:a+(b+1)<=900->a+1+b<=900:=linK 0x4107f7511080d24014910507511080d2491050050 [a,b]
theorem RV:a+(b+1)<=20000->a<=20000:=linK 0x4107f75100238441d44008e112491050050 [a,b]
theorem TU:a+(b+1)<=20000->a+1+b<=20000:=linK 0x4107f75100238449005244141d44008e112491050050 [a,b]
theorem R9:a+(b+1)<=100000->a<1000000:=linK 0x4107f7910040843d075100a188052491050050 [a,b]
theorem OQ:a+(b+1)<=100000->a+1+b<=100000:=linK 0x4107f75100a18805240149105075100a188052491050050 [a,b]
theorem WC:a+(b+1)<=100->a<1000000:=linK 0x1041fde44010210f41d444192491050050 [a,b]
theorem O8:a+(b+1)<=100->a+1+b<=100:=linK 0x4107f75110649005244141d444192491050050 [a,b]
theorem OS:a+(1+b)<=90->a+1+b<=90:=linK 0x4107f75128549005244141d44a152490051050 [a,b]
theorem Oc:a+(0+1+1+b+(0+1+1))<=900->a<=1000:=linK 0x1041fdd44838341d444203492491052441452401491052441450 [a,b]
theorem V2:1+b<=a->a=a-1+1:=linK1 (bc a 1) 0x4102100106100100100100107f7d24414024019647d00524414027500510647d140275105005d401490441 [b,a,(a-1)]
theorem Yj:1+b=0->a<=5:=linK 0x1001fdd4454017d1490441 [b,a]
theorem Tp:1+b=0->a<=20:=linK 0x4007f7511014017d1490441 [b,a]
theorem SA:1+a<=b+1->a<=b:=linK 0x4107f750050752441401490441 [a,b]
theorem Yy:0<b->a=b->(0:Int)<((a:Nat):Int):=linK 0x104187f85c4167900517d0050 [a,b]
theorem NV:(b+1+1)*(a+5)=(b+1)*(a+5)+(a+5)->a+((b+1)*(a+5)+4)+1<=(b+1+1)*(a+5):=linK 0x1061fdd4124414924444014027d2491150090050 [(((b+1)+1)*(a+5)),((b+1)*(a+5)),a]
theorem NP:(a+1+1)*(b+5)=(a+1)*(b+5)+(b+5)->(a+1)*(b+5)+4+b+1<=(a+1+1)*(b+5):=linK 0x1061fdd4124414900924444017d2491150090050 [(((a+1)+1)*(b+5)),((a+1)*(b+5)),b]
theorem Pq:((b:Nat):Int)<5->a<=7->a+1+1+b<=900:=linK 0x41041fdd44420349005244149105085615c4017511d0 [a,b]
theorem Xj:((b:Nat):Int)<5->a<=7->a+1+1+b<=1000:=linK 0x41041fdd44838349005244149105085615c4017511d0 [a,b]
theorem QS:((b:Nat):Int)<5->a=b->a<=4:=linK 0x104107f75111085615c4017d0050 [a,b]
theorem WE:((b:Nat):Int)<5->a=b->a<=1000000/\a<=1000000:=linK 0x1041041041fe47510040843d07510040843d085615c4017d0050 [a,b]
theorem Sk:((b:Nat):Int)<5->a=b->a<=1000:=linK 0x104107f75120e0d085615c4017d0050 [a,b]
theorem T1:((b:Nat):Int)<5->a=b->((a:Nat):Int)+1<=1000000000:=linK 0x41041fe058000a30a24b0d758171085615c4017d0050 [a,b]
theorem Qq:((a:Nat):Int)=((b:Nat):Int)->a=b:=linK 0x4104187f7d005089c401710 [a,b]
theorem R6:((a:Nat):Int)+1<=((b:Nat):Int)->a<b:=linK 0x1041fde401420710057581710 [a,b]
theorem QT:((a:Nat):Int)+1<=((b:Nat):Int)->b<=1000000->a<=1000000000:=linK 0x41041fdd44000a30a24b0d00607105d605c4017510040843d0 [b,a]
theorem Qv{a b:Int}:¬(b<a)->(0:Int)=((Int.toNat (a-b):Nat):Int):=linK1 (i8 (a-b)) 0x4102100106100100100100107f89c4169647d142159855506489855505c4206155415a6855055 [(Int.toNat (a-b))] [b,a]
theorem T5{a b:Int}:b<a->a-b-1+1=((Int.toNat (a-b):Nat):Int):=linK1 (i8 (a-b)) 0x4004004102100004004100103f89c41758161605855506591f450856615541922615541710818555056855055 [(Int.toNat (a-b))] [b,a]
theorem Nj{a b:Int}:(-2^40:Int)<=b->(-2^40:Int)<=a->b<=2^40->a<=2^40->(((((-2^63:Int)<=a/\a<2^63)/\(-2^63:Int)<=b/\b<2^63)/\(-2^63:Int)<=-1/\(-1:Int)<2^63)/\(-2^63:Int)<=((Int.toNat (a-b):Nat):Int)/\((Int.toNat (a-b):Nat):Int)<2^63)/\(((Int.toNat (a-b):Nat):Int)=0\/(-2^63:Int)<=b+(-1+1)/\b+(-1+1)<2^63):=linK1 (i8 (a-b)) 0x4004000000100004100000004004100004000004000100000004000000100004100000004004100004000004000100000100100000004004100004102100000004184000000100000000004000000000100000000004000000000100000004004100000004104000100004000100000100000000104000000004100000100004000004003f9259215800000000000000000000002175d605b5815418175d605b5815416d600000000000000000000000889671092485600000000000000000000000871081c41b58000000000000000000000022492158000000000000000000000021b58181b5816d600000000000000000000000892485600000000000000000000000854181505b58000000000000000000000022485600000000000000000000000856055b58000000000000000000000022591f45085661505592261505571081854155681505b5800000000000000018156d6000000000000000060580000000000000001541816000000000000000055 [(Int.toNat (a-b))] [a,b]
theorem Qm:a<=a+(b-c):=linK 0x107f752401410 [a,(b-c)]
theorem RA:a+b+c=a+(b+c):=linK 0x1041fdf492402401412402490050 [a,b,c]
theorem VZ:a+4+b+2+c=a+(b+(c+1+1)+1+1+1+1):=linK 0x1041fdf492441491052441491052491052441402401412402491092401491110 [a,b,c]
theorem RP:a+4+b+2+c+2=a+(b+(c+2+1+1)+1+1+1+1):=linK 0x1041fdf492441491052441491052491052441491090090050491092402491092401491110 [a,b,c]
theorem O2:Int.toNat (((a+b:Nat):Int)-((a+c:Nat):Int))=b-c:=linK2 (i8 ((((a+b):Nat):Int)-(((a+c):Nat):Int))) (bc b c) 0x4004004004004084100102104004184004004004084004102100104184007f7d009012591f4501215987124014037124100e48987124014037124100dc4048187124014037124100d69647d049005009d4100647d1402750050 [b,c,(b-c),a,(Int.toNat ((((a+b):Nat):Int)-(((a+c):Nat):Int)))]
theorem Og:((a:Nat):Int)+((b:Nat):Int)<=((b+(a+c):Nat):Int):=linK 0x41fe07124900904015dc401710 [a,b,c]
theorem RR:((a+(b+c):Nat):Int)-1=((a:Nat):Int)+((b:Nat):Int)+((c:Nat):Int)-1:=linK 0x1041fe261605771009771005c418581712490090050 [a,b,c]
theorem X0:c<=b+a->a-(b+a-c)=c-b:=linK3 (bc (b+a) c) (bc a ((b+a)-c)) (bc c b) 0x4102100102100102100106100100000106100100000102100106100102100106100106100100000106100100000102100100102100100100006100100100106100100100002100100100102100104100006100100100106100104100002100103f7d00d016591f49009005241011d49009005091f45011d4124024019647d00924044057500901247d14057501100a591f41240140375040191f4500dd40141d490090050 [c,b,a,(c-b),((b+a)-c),(a-((b+a)-c))]
theorem R5:c<=b->((a+b:Nat):Int)=((a:Nat):Int)+((c:Nat):Int)+((b+1-c:Nat):Int)-1:=linK1 (bc (b+1) c) 0x1040840001001040040001001fe26160577100977107100dc4900500e591f49105005241009d49105005091f45009d412441401750050 [c,b,((b+1)-c),a]
theorem Qu:c<=b->a<=c+1->a<=b+1:=linK 0x41041fdd49105009075009005d491050050 [a,c,b]
theorem Qc:c<=5700->a<=b+c->a<=b+5700:=linK 0x41041fdd49110418140141d44410605009d490090050 [a,b,c]
theorem UH:c<=5*b+28->a<=5*c+28->a<=25*b+168:=linK 0x104507f75244829324140241d4913014c540240175244c053150050 [a,c,b]
theorem NF:c<=4->a<=c->a+1-b<=5:=linK1 (bc (a+1) b) 0x1040041041001000fdd4454039647d24414124024037524414100a47d140375009244141d444401750050 [a,c,b,((a+1)-b)]
theorem OK:c<=4->a<=b+c->a-b<=4:=linK1 (bc a b) 0x1040041041001000fdd4444039647d04900500dd4100647d140375005075111009d490090050 [a,b,c,(a-b)]
theorem Od:c<=4->a<=b->b<=c->a+(b+1-a)<=100:=linK1 (bc (b+1) a) 0x1040041001001000040fdd4441924034029647d24414124024037524414100a47d140375009244141d444401750402750050 [b,c,a,((b+1)-a)]
theorem Vp:c<=25*b+168->a<=25*c+168->a<=625*b+4368:=linK 0x41641fdd4910010414c11c240241d49120a4c905009005d49120a4c9050050 [a,c,b]
theorem VU:c<=18->b<=c->a<=c->a+b<=1000000:=linK 0x4108107f7510040843d240241d44205005d401402750050 [a,c,b]
theorem Ov:c<=18->b<=c->a<=c->a+2+1+1+1+1+b<=1000000:=linK 0x1042041fdd44010210f49009244149105244149105244241d44205005d401402750050 [a,c,b]
theorem P7:c<=18->b<=c->a<=c->a+(b+1+1)<=999994:=linK 0x4108107f7512830843d249105244140241d44205005d401402750050 [a,c,b]
theorem NI:c<=100->a<=c->min (a-1) b+1<=1000000:=linK2 (bc a 1) (oR (a-1) b) 0x1040041041041001001041040041040001001001000fdd44010210f49105012591f41244140275044191f45009d44142591f4034047500900e47d009011d403402751106401750050 [a,c,(a-1),b,(min (a-1) b)]
theorem Yx:c=b+3->a<=b\/c<a->a<=b\/b+3<a:=linK 0x1001841040001fe57904910d005d40141f4910d00500a5790402750050 [a,b,c]
theorem T7:c=b+2->a<=b\/c<a->a<=b\/b+2<a:=linK 0x1001841040001fe579049109005d40141f4910900500a5790402750050 [a,b,c]
theorem Uu:c=a+b->a+b<=c:=linK 0x4187f75049009005f490090050 [c,a,b]
theorem V3:c=a+b->a+b=c:=linK 0x4184107f7d049009005f490090050 [c,a,b]
theorem O1:c<b->a<=c->a<b:=linK 0x41041fde40241e402401750050 [a,c,b]
theorem RQ:c<b->a=c+1\/a<=b->a<=b:=linK 0x1040041041fdd40241e40240195d40241f491050050 [a,c,b]
theorem Nt:c-a=b->c<=b->a=0\/b=0:=linK1 (bc c a) 0x4100006104004006100004184100004084100100000000004006100004184100004084103f95f45005f4500e591f41240340275040391f45009d40341f401402750050 [c,b,(c-a),a]
theorem UR:c+a<=b->a<=b-c:=linK1 (uG b c) 0x41041fdd4034017524100d009d402490050 [c,a,b,(b-c)]
theorem Tz:c+a<c+b->a<b:=linK 0x4107f79009005e490090490050 [c,a,b]
theorem Pc:c+a+b<=20000->a+b<=100000:=linK 0x1041fdd44028620149009005d44008e112402490050 [c,a,b]
theorem Xa:c+a+(b+1)<=18000->a+b<=19000:=linK 0x1041fdd4480ca112402401751005184492441402490050 [c,a,b]
theorem JJ:c+1<=b+(c+1-a)->b<=c->a<=b:=linK1 (bc (c+1) a) 0x4100104000004107f7504039647d24414014900d009d4910500500e47d14027500d2441401752402412441401750050 [b,c,((c+1)-a),a]
theorem Sw:c+1<=b->a=c+1->1<=a/\a<=b:=linK 0x4104104087f91d40241d41105d40249105005f491050050 [a,c,b]
theorem N6:c+1+1<=b+1->((a+b:Nat):Int)-1=((a+(b-1):Nat):Int):=linK1 (bc b 1) 0x4102100106100100100100107f89c4900900d85817124014039647d00524414027500510647d140275105005d491050052441491050 [c,b,(b-1),a]
theorem O5:b<=c->a+b<=a+c:=linK 0x4107f752401402490402750050 [b,c,a]
theorem Vz:b<=c->a+b+(c+1-b)<=a+c+1:=linK1 (bc (c+1) b) 0x1040040001001fdd4910524014034900924100e591f49105005241009d49105005091f45009d412441401750050 [b,c,((c+1)-b),a]
theorem Qy:b<=4->a<=c->c<=b->((a:Nat):Int)-1<=1000000000:=linK 0x1041041fe058000a30a24b0d858171009d444401750402750050 [c,b,a]
theorem TS:b<=4->a<=b-c+1->a<=5:=linK1 (bc b c) 0x1040041041001001fdd44542591f4024900d005d40240391f45005d40340275111009d491050050 [a,(b-c),b,c]
theorem Xz:b<=1000->c<=4->a<=b+c->((a:Nat):Int)<=1000000000:=linK 0x1041041fe058000a30a24b0dc41d44838340175111009d490090050 [a,b,c]
theorem XM:b=c->c<=100->min (a-1) b+1+(b-a)<=1000000:=linK2 (oR (a-1) b) (bc b a) 0x4100100108204004004104104100108204104004107f7510040843d240349105016591f4014057501100647d011015d4014049647d00524024037500500a47d140375009005f41005d444190 [c,b,a,(b-a),(a-1),(min (a-1) b)]
theorem Ye:b=c->a<=c->a<=b:=linK 0x41841fdd40241f401402750050 [a,c,b]
theorem Xn:b=2*c+2->a<=c->2*a<b:=linK 0x10610bf7900930907d24424c2401402750050 [a,c,b]
theorem XX:b<c->c<=a->¬(a=b):=linK 0x104107f99f402401790402750050 [c,a,b]
theorem QV:b+c<=4->a<=b->a<10:=linK 0x104107f791290751112402401750050 [a,b,c]
theorem PR:b+c<=4->a=b->a<=1000000:=linK 0x104107f7510040843d07511124024017d0050 [a,b,c]
theorem Uy:b+c<=4->a<b->a<=1000000000:=linK 0x41041fdd44000a30a24b0d0751112402401790050 [a,b,c]
theorem Xx:b+c+a<=20000->0+a<=1000000:=linK 0x4107f7510040843d240245d44008e112402490050 [b,c,a]
theorem OO:b+a+c<=15000->a<=20000:=linK 0x1041fdd44008e11005d44824a0d2402490050 [b,a,c]
theorem O9:b+a+(c+5)<=15000->a<=19998:=linK 0x4107f751381384401751209283492445402490050 [b,a,c]
theorem RZ:b+3<=c->c<a->¬(a=b+3):=linK 0x104107f99f4910d009005d412443402790050 [c,a,b]
theorem PC:b+3<=c->c<a->¬(a=b+2):=linK 0x104107f99f49109009005d412443402790050 [c,a,b]
theorem X5:b+1<=a+1+c->c<b->1<=a:=linK 0x104107f75009105d490491050092441401790050 [c,b,a]
theorem Of:b+(0+1+1+c+(0+1+1))<=900->a<=c->a<=1000:=linK 0x104107f75120e0d07511080d2492441491051490052441491051402750050 [a,c,b]
theorem Qz:b+(0+1+1+1+1+c+(0+1+1)+a+(0+1+1))<=900->a<=900:=linK 0x1041fdd4442034027511080d2492441491051490092491052441452401491052441491052441450 [b,c,a]
theorem VO:b+(0+1+1+1+1+a+(0+1+1)+c+(0+1+1))<=900->a<=900:=linK 0x1041fdd4442034017511080d2492441491051490092491052441452401491052441491052441450 [b,a,c]
theorem PB:a<=c+b->a-b<=c:=linK1 (bc a b) 0x4100104100103f7500500e591f41240240375040291f4500dd40241d490090050 [a,c,b,(a-b)]
theorem Ua:a<=c->a-b<=c-b:=linK2 (bc a b) (bc c b) 0x4100102104100106104100106100100102103f7500d012591f41240240475040291f45011d40242591f4014900900dd40140291f4500dd402401750050 [a,c,b,(c-b),(a-b)]
theorem Xo:a<=c->c<=b->a<=b+1:=linK 0x104107f752441401402750402750050 [c,b,a]
theorem RO:a<=c->c<=a+b->a+(b-(a+b-c))=c:=linK2 (bc (a+b) c) (bc b ((a+b)-c)) 0x4102100100004000004100106100100004000004100100102100004004184000100102100104004184007f7d049011006591f4900900524100dd49009005091f4500dd4124024019647d00924034047500900e47d14047500d009d41005d490090050 [c,a,b,((a+b)-c),(b-((a+b)-c))]
theorem Wa:a<=b+c->min (a-b) c=a-b:=linK2 (bc a b) (oR (a-b) c) 0x1040001040040000040040001040040000040040040841040000840040040840040000840fdf4034049647d04900500dd4100647d14037500509647d009011d40340291f4034047500900dd490090050 [a,b,c,(a-b),(min (a-b) c)]
theorem YC:a<=b+5700->a<=b+(c*5700+5700):=linK 0x4107f752491104181504106050090050752444106050050 [a,b,c]
theorem Vn:a<=b+(0+1)+c->a+1<=b+(c+5):=linK 0x1041fdd492445402401491050752402492441450050 [a,b,c]
theorem SV:a<=b->a<=b-c+c:=linK1 (uG b c) 0x41041fdd4900d0090752403402401750050 [a,b,(b-c),c]
theorem YF:a<=b->a+1<=b+c+1:=linK 0x1041fdd491052402401491050750050 [a,b,c]
theorem X8:a<=5*(c+1)+28->b<=5*c+28->a+b+1<=25*c+168:=linK 0x41041fdd49120a4c905005244149040275244c05315244140140275244c053150050 [b,c,a]
theorem Na:a<=25*(c+1)+168->b<=25*c+168->a+b+1<=625*c+4368:=linK 0x104107f75244004105304709005244149040275244829324149105005009d49120a4c9050050 [b,c,a]
theorem Px:a=c->¬(b<c)->a<=b:=linK 0x104107f7504027d00500a6790050 [b,c,a]
theorem PJ:a=b\/a<=c->c<=100->b<=100->a<=100:=linK 0x1041040041001fdd4441900a575005009f41009d44419005d444190 [b,c,a]
theorem Pz:a=b->a<=b+c:=linK 0x1041fdd4900900507d0050 [a,b,c]
theorem UM:a<min b c->a<b:=linK1 (oR b c) 0x1041041040041fde40242591f4034017500900e47d009005d403402790050 [a,(min b c),b,c]
theorem Oe:a<c+1->b=2*c+2->2*a<b:=linK 0x410a1fde41309009e49105005009f491093090050 [b,c,a]
theorem NY:a<c+1->b=2*c+2->2*a+1<b:=linK 0x104287f79049105309009e49105005009f491093090050 [b,c,a]
theorem NO:a<c->c<=b->¬(a=b):=linK 0x184107f99f401402790402750050 [c,b,a]
theorem QZ:a<c->c<=b->a<b:=linK 0x41041fde401402790402750050 [c,b,a]
theorem Nq:a<c->c=b+1->¬(a<b)->a=b:=linK 0x1041040040001fdf40141e40241f4910500500a6790050 [a,b,c]
theorem PH:a<c->b<=a->a-b<c-b:=linK2 (bc a b) (bc c b) 0x4100102104000000100104100102104100000100107f7900d012591f40149040475005091f45011d41006591f40249040375009091f4500dd41009e402401750050 [b,a,c,(c-b),(a-b)]
theorem XS:a<b+c->c<=1000000->a-b<=1000000000:=linK1 (bc a b) 0x4100104104004003f75100028c2892c34039647d00524024037500500a47d140375009005e4904024017510040843d0 [c,a,b,(a-b)]
theorem UK:a-b<=c+1->a-(b+1)<=c:=linK2 (bc a b) (bc a (b+1)) 0x1040840041040000040001001000040000040fdd4014049647d009240341d40240391f4507500d00a591f40249244140340475009244140391f45011d4910500d009d491050050 [(a-b),c,a,b,(a-(b+1))]
theorem Sa:a-1+1<=b+c->a+1<=b+(c+1):=linK1 (uG a 1) 0x41041fdd4924414024014910500dd491050403752402401491050 [(a-1),b,c,a]
theorem QY:a+c<=4->c=1+2*b->a+1+b<=4:=linK 0x41061fdd44449005244140275111241009f493090051050 [c,b,a]
theorem Sy:a+b<=c->a+(b-1)<=c:=linK1 (bc b 1) 0x1040041040041fdd4024900d09647d00524414037500510647d140375105005d402490050 [a,b,c,(b-1)]
theorem Rh:a+b+20<=15000->c<=2->a+(b+8)+c<=18000:=linK 0x41041fdd44014611241249121009005d44824a0d2444052402401751090 [c,a,b]
theorem Xp:a+b+20<=15000->c<=2->a+(b+4)+c<=18000:=linK 0x41041fdd44014611241249111009005d44824a0d2444052402401751090 [c,a,b]
theorem WU:a+b+(c+5)<=15000->a<=20000:=linK 0x1041fdd44008e110751209283492445402490050 [a,b,c]
theorem SE:a+b+(c+5)<=15000->a+b+3<=20000:=linK 0x1041fdd44008e112443490050751209283492445402490050 [a,b,c]
theorem Wz:a+b+(c+5)<=15000->a+1+(b+1)+c<=15000:=linK 0x1041fdd44824a0d2402492441401491050751209283492445402490050 [a,b,c]
theorem YI:a+b+(c+1)<=18000->a+1+b+c<=18000:=linK 0x4107f751005184490092401491050751005184492441402490050 [a,b,c]
theorem P0:a+b+(c+1)<=18000->a+(b+c)<=19000:=linK 0x1041fdd4480ca112490090050751005184492441402490050 [a,b,c]
theorem XP:a+8+10*c<b->a<b:=linK 0x4107f7900907900924ca401491210 [a,c,b]
theorem Vh:a+8+10*b<c->a+5+10*b<c:=linK 0x4107f7900924ca4014911507900924ca401491210 [a,b,c]
theorem Vt:a+8+10*b<c->a+1+5+10*b<c:=linK 0x1041fde4024932900524454910507900924ca401491210 [a,b,c]
theorem Td:a+5+10*(c+1)<b->a<b:=linK 0x1041fde40241e402493292441401491150 [a,c,b]
theorem YA:a+3<=c->c<=b->a<=b:=linK 0x104107f75005009d412443402750050 [c,b,a]
theorem XR:a+3<=c->c<b->a<b:=linK 0x104107f79005009d412443402790050 [c,b,a]
theorem Yi:a+3<c->b=c->a+3<b:=linK 0x41061fde4124434027900524434027d0050 [b,c,a]
theorem Nd:a+30+40*c<b->a+20<b:=linK 0x4107f7900924440507900924c809005244e050 [a,c,b]
theorem Ob:a+30+40*b<c->a+25+40*b<c:=linK 0x4107f7900924c80900524490507900924c809005244e050 [a,b,c]
theorem Ru:a+30+40*b<c->a+1+25+40*b<c:=linK 0x1041fde4024932024014912414910507900924c809005244e050 [a,b,c]
theorem OW:a+2<c->b=c->a+2<b:=linK 0x41061fde4124424027900524424027d0050 [b,c,a]
theorem Yn:a+1<=c->c<=b->¬(a=b):=linK 0x61041fe67d005009d412441402750050 [c,b,a]
theorem Rl:a+1<=c->b=a+1->a<b/\b<=c:=linK 0x4104104087f91d40241e41005d40249105005f491050050 [b,a,c]
theorem Us:a+1<=b+1+c->a+1<=b+(c+1):=linK 0x4107f75249105009005244141d490092441401491050 [a,b,c]
theorem OI:a+1<c->b=c->a+1<b:=linK 0x41061fde4124414027900524414027d0050 [b,c,a]
theorem WL:a+1<b->b<=c->a<b/\b<=c:=linK 0x4100104103f91d40141e41009e412441402750050 [b,c,a]
theorem QI:a+(c+1)*5700<=400000->b<=5700->a+b<=400000:=linK 0x104107f75100828119241005d44020a04649410418149105009005d444106050 [b,a,c]
theorem XC:a+(b+c+10)<=15000->a<=20000:=linK 0x1041fdd44008e11075120928349244a490090050 [a,b,c]
theorem Rr:a+(b+c+10)<=15000->a+1+b<=15000:=linK 0x1041fdd44824a0d240149105075120928349244a490090050 [a,b,c]
theorem NK:a+(b+c)<=900->a+b<=900:=linK 0x1041fdd4442034900507511080d2490090050 [a,b,c]
theorem Yu:a+(b+c)<=15000->a+b<=15000:=linK 0x1041fdd44824a0d240141d44824a0d2490090050 [a,b,c]
theorem N8:a+(b+1)=c+1->a+1+b=c+1:=linK 0x4104187f7d244140249005244141f491050092491050050 [a,b,c]
theorem WN:a+(1+max c b)<=90->a+b<=90:=linK1 (oE c b) 0x4106104102107f7512854900d09647d009005d40240391f4034017500d009d44a152490051050 [a,(max c b),c,b]
theorem NX:a+(1+max c b)<=90->a+1+b<=90:=linK1 (oE c b) 0x1041841040841fdd44a1524034910509647d009005d40240391f4034017500d009d44a152490051050 [a,(max c b),c,b]
theorem UD:a+(1+max b c)<=90->a+b<=90:=linK1 (oE b c) 0x4102104106107f7512854900909647d009005d40240391f4034017500d009d44a152490051050 [a,(max b c),b,c]
theorem Vj:a+(1+max b c)<=90->a+1+b<=90:=linK1 (oE b c) 0x1040841041841fdd44a1524024910509647d009005d40240391f4034017500d009d44a152490051050 [a,(max b c),b,c]
theorem Vl:a+(0+1+1+1+1+b+(0+1+1)+c+(0+1+1))<=900->a<=1000:=linK 0x4107f75120e0d07511080d2492441491051490092491052441452401491052441491052441450 [a,b,c]
theorem Qg:9<=a->b<=4->a=a-(b-c+1)-4+(b-c+1)+3+1:=linK3 (bc b c) (bc a ((b-c)+1)) (bc (a-((b-c)+1)) 4) 0x1040000840840001000021061000000000041000001000040021000040000840840000001021040040000000041000000001040000040040000040040001001000001041000000041000000001040000041040000040040000001021040040000000041000000001040000040fdf4910524434924414044034019647d049015011d4101647d14047501509647d005249105011009d4014910501247d14027524414044019647d00924444037500911247d140375111009d401449751110 [b,a,(a-((b-c)+1)),((a-((b-c)+1))-4),(b-c),c]
theorem Wn:2*c+8<=b->a<=c->0+1+1+a+(0+1+1)<=b:=linK 0x104107f7500924910524414524124414910517500924484c2401750050 [a,c,b]
theorem QU:1<=c->b=1+2*c->a+1+1+1<=a+b:=linK 0x104287f75241009244149105244140275005105f493090051050 [b,c,a]
theorem Xk:17<=c->a<=4->b<=7->0+1+1+1+1+a+(0+1+1)+b<=c:=linK 0x4104107f75009241249105244145240149105244149105244145d40244105d4444017511d0 [b,a,c]
theorem SW:1+c=0->a<=5*b+28:=linK 0x1001fdd4913014c54024017d1490441 [c,a,b]
theorem P9:(a-b+1)*(c+5)<=5*(c+5)->(a-b+1)*(c+5)<=5*(c+5)+0:=linK 0x4107f75245315244540141d4c5491150050 [(((a-b)+1)*(c+5)),c]
theorem TP:(0:Int)<=((a:Nat):Int)/\a=Int.toNat ((a:Nat):Int)/\((a:Nat):Int)<((c:Nat):Int)\/((a:Nat):Int)<0/\-((c:Nat):Int)<=((a:Nat):Int)/\a=Int.toNat (((a:Nat):Int)+((c:Nat):Int))->b=c->a<b:=linK 0x4108102104000187f79040296491f40440281c4026dc4018567100a492171005c4027d00d00a07100967d0050 [b,c,a,(Int.toNat ((a:Nat):Int)),(Int.toNat (((a:Nat):Int)+((c:Nat):Int)))]
theorem Yg:(0:Int)<=((a:Nat):Int)/\a=Int.toNat ((a:Nat):Int)/\((a:Nat):Int)<((c:Nat):Int)\/((a:Nat):Int)<0/\-((c:Nat):Int)<=((a:Nat):Int)/\a=Int.toNat (((a:Nat):Int)+((c:Nat):Int))->b=c->((a:Nat):Int)<((b:Nat):Int):=linK 0x4108102104000187f85c41c40296491f40440281c4026dc4018567100a492171005c4027d00d00a07100967d0050 [b,c,a,(Int.toNat ((a:Nat):Int)),(Int.toNat (((a:Nat):Int)+((c:Nat):Int)))]
theorem NM:((a:Nat):Int)<((c:Nat):Int)->c=b->a<b:=linK 0x41041fde40140285c41c4027d0050 [c,b,a]
theorem Ui(h1:(((a:Nat):Int)+1)*(((a:Nat):Int)+1)<=1002001)(h2:b=c)(h3:a<=1000)(h4:c<=40):(((a:Nat):Int)+1)*(((a:Nat):Int)+1)*37+23*(((a:Nat):Int)+1)+7*((b:Nat):Int)<=1000000000:=by omega
theorem Ub:¬(d<a)->min (a-b) c<=d-b:=linK3 (bc a b) (oR (a-b) c) (bc d b) 0x4100104102104100104106104100100102104100100106104100104106100100104102100100100106100100100102103f7500d01a591f40149009011d40140291f45011d4024019647d015019d40440591f40440675015012591f41240240375040291f4500dd402426790050 [d,a,b,(d-b),(a-b),c,(min (a-b) c)]
theorem OF:d<=c->((a:Nat):Int)+((b+c:Nat):Int)-((b+d:Nat):Int)=((a+(c-d):Nat):Int):=linK1 (bc c d) 0x1040840041840040040040041fe271240240361c4904045dc49005011c4039647d005241009d4014247d1402750401750050 [d,c,(c-d),a,b]
theorem Pp:d<=c->a<=d+b->a+1<=b+c+1:=linK 0x41041fdd4910524034024910507500d005d490090050 [a,d,b,c]
theorem Uq:d<=c->a<=b+d->a<=b+c:=linK 0x41041fdd4900d00507500d009d490090050 [a,b,d,c]
theorem VN:d<=b+5700->a<=d+c*5700->a<=b+(c*5700+5700):=linK 0x41041fdd49244410605410418140240341d491104181403401752504106050090050 [a,d,c,b]
theorem T6:d<=b->a<=d\/c<a->a<=b\/c<a:=linK 0x1001001040041fe57904027500d07500d0065790402750050 [a,d,c,b]
theorem SO:d=a+b->d<=c->a+b<=c:=linK 0x41841fdd4014900d009f4900d0090750050 [d,c,a,b]
theorem Pw:d+5+10*(b+1)<c->a=d+1->a+8+10*b<c:=linK 0x41041fde40349329009244841e40349329244140249115005f491050050 [a,d,b,c]
theorem Wq:d+3<=b->a<=d\/c<a->a<=b\/c<a:=linK 0x4004004100107f95e41009d40341d4034910d0065790402750050 [a,d,c,b]
theorem VW:d+25+40*(b+1)<c->a=d+3->a+30+40*b<c:=linK 0x41041fde40349320240249138141e40349320249105009244905005f4910d0050 [a,d,b,c]
theorem XY:c<=d->a<=b\/d<a->a<=b\/c<a:=linK 0x1001041040001fe57904037500507500900e5790402750050 [a,b,d,c]
theorem Wl:c<=d->a<=b\/d<a->a<=b+3\/c<a:=linK 0x4004104100007f95e4100dd4910d00507500900e5790402750050 [a,b,d,c]
theorem NN:c=a+d->¬(b=d)->¬(a+b=c):=linK 0x1041061841fe67d00924100df4900500d00a67d0050 [b,d,c,a]
theorem VH:c=1+2*d->a<=b+d->a+(0+1)<=b+c:=linK 0x41841fdd4900d005249105141f4930900910500dd490090050 [a,b,d,c]
theorem PW:c<b->a<d->d<=c->¬(a=b+3):=linK 0x6104107f99f4910d00d009e403401790402750050 [d,c,a,b]
theorem S5:c<b->a<d->d<=c->¬(a=b+2):=linK 0x6104107f99f4910900d009e403401790402750050 [d,c,a,b]
theorem VR:c<b->a<d->d<=c->¬(a=b+1):=linK 0x6104107f99f4910500d009e403401790402750050 [d,c,a,b]
theorem WY:c<b->a<d->d<=c->¬(a=b):=linK 0x1841041fe67d00d009e403401790402750050 [d,c,a,b]
theorem OM:c-d<=4->a=c-d->a-b+1<=5:=linK1 (bc a b) 0x1040041041001000fdd4454910500e591f41240240375040291f4500dd40241d4444017d0050 [a,(c-d),b,(a-b)]
theorem Vr:c+d<=100000->b<=d->a<=c->a+b<=1000000:=linK 0x4104107f7510040843d240241d4402862014900d005d403402750050 [a,c,b,d]
theorem Xf:c+d=b->a=c+d->a=b:=linK 0x1041041861fdf40341f40349009005f490090050 [a,c,d,b]
theorem UL:c+(d+b+10)<=15000->a<=c+(0+1)+d->a+1+b<=15000:=linK 0x104107f7512092834900d244141d44824a0d2491292403402401752402492441450050 [a,c,d,b]
theorem UY:c+(d+b)<=15000->a<=c+d->a+b<=15000:=linK 0x41041fdd44824a0d240341d44824a0d24900d009005d490090050 [a,c,d,b]
theorem Vx:c+(b+1)*5700<=400000->d<=5700->a<=c+d->a+b*5700<=400000:=linK 0x1041041fdd44020a04649410418140341d44020a0464941041814910500d005d44410605009d490090050 [a,c,d,b]
theorem PT:b<=4->a<=c->d<=b->c<=d->a<=100:=linK 0x104104107f75110640375111009d4100dd402401750050 [c,d,b,a]
theorem W2:b+c<=4->c=1+2*d->a<=b+d->a<1000000:=linK 0x1041841fde44010210f41d4444900d005f4930900910500dd490090050 [a,b,d,c]
theorem XB:b+c+d<=20000->a=d->a<=1000000:=linK 0x104107f7510040843d07510023844900524034027d0050 [a,d,b,c]
theorem XQ:b+c+d<=20000->a=c->a<=1000000:=linK 0x104107f7510040843d07510023844900d24014027d0050 [a,c,b,d]
theorem WX:b+c+d<=20000->a=b->a<=1000000:=linK 0x104107f7510040843d07510023844900d24024017d0050 [a,b,c,d]
theorem Tv:b+c+(d+5)<=15000->a<=b+(0+1)+d->a<=20000:=linK 0x104107f75100238441d44824a0d2491150092403401752402492441450050 [a,b,d,c]
theorem QN:b+a+(c+d+10)<=15000->a<=19998:=linK 0x1041fdd44e04e11005d44824a0d2491292403402490050 [b,a,c,d]
theorem Ur:b+a+(c+d+10)<=15000->a<=19997:=linK 0x1041fdd44d04e11005d44824a0d2491292403402490050 [b,a,c,d]
theorem O6:b+a+(c+d+10)<=15000->a<=19995:=linK 0x1041fdd44b04e11005d44824a0d2491292403402490050 [b,a,c,d]
theorem Xc:b+a+(c+d+10)<=15000->a<=19994:=linK 0x1041fdd44a04e11005d44824a0d2491292403402490050 [b,a,c,d]
theorem X4:b+3<=c->c<=d->a<=b\/d<a->¬(a=b+3):=linK 0x4104106100007f99f4910d00507500d24434017500900e5790402750050 [a,b,d,c]
theorem Oh:b+3<=c->c<=d->a<=b\/d<a->¬(a=b+2):=linK 0x4104106100007f99f4910900507500d24434017500900e5790402750050 [a,b,d,c]
theorem TZ:b+3<=c->c<=d->a<=b\/d<a->¬(a=b+1):=linK 0x4104106100007f99f4910500507500d24434017500900e5790402750050 [a,b,d,c]
theorem Xq:b+(c+d+10)<=15000->a<=b+(0+1)+c->a<=20000:=linK 0x104107f75100238441d44824a0d2491292403402401752402492441450050 [a,b,c,d]
theorem UA:b+(0+1+1+1+1+c+(0+1+1)+d+(0+1+1))<=900->a<=d->a<=1000:=linK 0x41041fdd44838341d4442034924910524414524014924414910514900d2441491052441491051402750050 [a,d,b,c]
theorem WK:b+(0+1+1+1+1+c+(0+1+1)+d+(0+1+1))<=900->a<=c->a<=1000:=linK 0x41041fdd44838341d444203492491052441452403492441491051490052441491052441491051402750050 [a,c,b,d]
theorem QW:a<=d->b<=c*d->a+b<=c*d+d:=linK 0x41041fdd4900d005241009d403402750050 [b,(c*d),a,d]
theorem TG:a<=b->a<=b+(c-d):=linK 0x1041fdd490090050750050 [a,b,(c-d)]
theorem T8:a<=100->d<=100->min (min (b-c) (d-c)) (d-a)=min (b-c) (d-c)->a+min (b-c) (d-c)<=100:=linK2 (min_le_right (min (b-c) (d-c)) (d-a)) (bc d a) 0x4104004006104100104087f7511064900500dd40442591f4024900d011d40240391f45011d4034027511064037511064027d0050 [(min (min (b-c) (d-c)) (d-a)),(min (b-c) (d-c)),d,a,(d-a)]
theorem S2:a=c+d->Int.toNat (((a:Nat):Int)-(((b:Nat):Int)+((c:Nat):Int)-1))=d+1-b:=linK2 (i8 (((a:Nat):Int)-((((b:Nat):Int)+((c:Nat):Int))-1))) (bc (d+1) b) 0x4004004084100102100100102104100106104004004084102100100102100184106100103f7d011016591f45016159861605771005c4037109226185815dc4017100dc41c40581861605771005c4037105a591f49105009240340475244140240391f45011d40349105009f490090050 [a,c,d,b,((d+1)-b),(Int.toNat (((a:Nat):Int)-((((b:Nat):Int)+((c:Nat):Int))-1)))]
theorem V9:a=c+d->¬(c+d=b)->¬(a=b):=linK 0x1061061041fe67d00900df49005040399f402490050 [c,d,b,a]
theorem TR:a<d->d=b+c+5->¬(a<b+c)->a=b+c\/a=b+c+1\/a=b+c+2\/a=b+c+3\/a=b+c+4:=linK 0x4000000104100000004100000000000104100000104000000000000104100000004100000000000104100004100000000000000104100000004100000000000104100000104000000000000104100000004100000000000104100104000000000000000104100000004100000000000104100000104000000000000104100000004100000000000104100004100000000000000104100000004100000000000104100000104000000000000104100000004100000000000104100100000000007f9659657d24444900900507d24434900900507d24424900900507d24414900900507d240240141e40341f49115240240140399e490090050 [a,b,c,d]
theorem Sd:a<d->d=b+c+2->¬(a<b+c)->a=b+c\/a=b+c+1:=linK 0x1001041001040000001041001000001fe57d24414900900507d240240141e40341f49109240240140399e490090050 [a,b,c,d]
theorem Tt:a<d->b<=a->d<=b+c->a-b<c:=linK1 (bc a b) 0x4100104004100104107f79009012591f40349005011d40340191f45011d4014037904037500d005d490090050 [d,b,c,a,(a-b)]
theorem RS:a<c->b=2*d+2->d=c->2*(a+1)<b:=linK 0x410a18bf7900930924414037900500df4910930904027d0050 [d,c,b,a]
theorem KN:a-b<d->c=d->a<b+c:=linK1 (uG a b) 0x4104187f7924101100dd4901100900de4014027d0050 [c,d,(a-b),a,b]
theorem Pt:a+b+d<=15000->c<=d->a+b+c<=20000:=linK 0x41041fdd44008e112412403402751209283490052403402750050 [c,d,a,b]
theorem Nw:a+b+(c+d+10)<=15000->a<=20000:=linK 0x4107f75100238441d44824a0d2491292403402490050 [a,b,c,d]
theorem Yt:a+b+(c+d+10)<=15000->a<=19999:=linK 0x4107f7513c138441d44824a0d2491292403402490050 [a,b,c,d]
theorem Ou:a+b+(c+d+10)<=15000->a+b+7<=20000:=linK 0x4107f7510023844911d240141d44824a0d2491292403402490050 [a,b,c,d]
theorem Tb:a+b+(c+d+10)<=15000->a+b+1<=20000:=linK 0x4107f75100238449105240141d44824a0d2491292403402490050 [a,b,c,d]
theorem Wv:a+b+(c+d+10)<=15000->a+1+(b+4)+c<=15000:=linK 0x4107f75120928349009249111005244141d44824a0d2491292403402490050 [a,b,c,d]
theorem UP:a+b+(c+1)<=d+1->a+b+c<=d+1:=linK 0x1041fdd4910500d2402490050752441403492441402490050 [a,b,c,d]
theorem NW:a+b+(c+1)<=d+1->a+(b+c)<=d:=linK 0x4107f7500d2490090050752441403492441402490050 [a,b,c,d]
theorem SJ:a+(d+c)<=900->b<=d->a+b+c<=900:=linK 0x41041fdd4442034900d241009d444203492403401402750050 [b,d,a,c]
theorem Ny:a+(c*d+d)<=500000->b<=d->a+b<=1000000:=linK 0x104107f7510040843d241009d440081287492401403402750050 [b,d,a,(c*d)]
theorem QL:a+(c*d+d)<=500000->b<=d->a+b+c*d<=500000:=linK 0x41041fdd4400812874900d241009d440081287492401403402750050 [b,d,a,(c*d)]
theorem Py:2*d+8<=c->b<=d->a<=d->a+b<=c:=linK 0x4104107f7500d240241d40349121309005d401402750050 [a,d,b,c]
theorem V0:2*d+8<=c->b<=d->a<=d->0+1+1+1+1+a+(0+1+1)+b+(0+1+1)<=c:=linK 0x4104107f7500d249105244145240249244149105149049105244149105244145d40349121309005d401402750050 [a,d,b,c]
theorem PS:1<=b->a<=c->b<=d->a+b<=c+d/\1<=a+b:=linK 0x1041000040041fe475241009105d4900500d241009d41105d403402750050 [b,d,a,c]
theorem Ni:((d:Nat):Int)+((a+b:Nat):Int)-((a+c:Nat):Int)=((d+(b-c):Nat):Int)->(-1000000000:Int)<=((a+b:Nat):Int)-((a+c:Nat):Int):=linK 0x4187f8187124034017124024016d600028c2892c389c49011061c4900d0057712402401710 [d,a,b,c,(b-c)]
theorem TY:((c:Nat):Int)<5->b=c->a=d+1+1+c+1->d<=7->a+2*(b+1)<=900:=linK 0x104308107f7511080d24c24910500d006158571009f4024037d24414900924414910504017511d0 [d,a,c,b]
theorem YJ:e<=d->¬(b+(d-e)<=a)->((a:Nat):Int)<((b:Nat):Int)+((c+d:Nat):Int)-((c+e:Nat):Int):=linK1 (bc d e) 0x4100100104004107f8587124034055dc49011015c41c4029647d01124034017501100e47d14017500d011d40440399d402490050 [b,(d-e),a,e,d,c]
theorem RF:d+b<=e->a<=b->e<=d+c->a+0+(b-a)<=c:=linK1 (bc b a) 0x4100104004100104107f7500924054914039647d01124034057501100e47d14057500d011d4124044017501100dd490090050 [e,d,c,a,b,(b-a)]
theorem QK:d+b+(e+c+10)<=15000->a<=d+(0+1)+e->a+1+(b+1)+c<=15000:=linK 0x41041fdd44824a0d240449244140349105075120928349244a490110092403401752402492441450050 [a,d,e,b,c]
theorem PZ:d+b+(e+c)<=15000->a<=d+e->a+b+c<=15000:=linK 0x41041fdd44824a0d24044900d07512092834924044024900d005d490090050 [a,d,e,b,c]
theorem Sv:d+a<=e->e<=d+c->min (a-b) (c-b)=a-b:=linK3 (bc a b) (bc c b) (oR (a-b) (c-b)) 0x4100000004100004000000004000100000004100004000000004000100000004100004000000004000100000004100004000000004000100102102104104000000084000100106102104104000000084000100106102100004000000084000100102102100004000000084003f7d01101a591f4034901d011d40340791f45011d4074039647d00924074057500901e47d14057501d00a591f4054067501101647d011019d4054047504900d005d490090050 [e,d,c,a,(a-b),(c-b),(min (a-b) (c-b)),b]
theorem W3:c=d+a->e<=4->c<=d+e->a+1-b<=5:=linK1 (bc (a+1) b) 0x4100184104100100003f75115016591f4910500d240440575244140340491f45015d4044910500df4900d005075111009d490090050 [c,d,e,a,b,((a+1)-b)]
theorem Xr:c=b+d->b<=1000->e<=4->a<=d->c<=b+e->((a:Nat):Int)+((b:Nat):Int)-1<=1000000000:=linK 0x1061041041fe058000a30a24b0d85815dc4017100df49011005075120e0d005d4444027501100dd490090050 [c,b,e,a,d]
theorem V4:c<min (b-d) e->a=d+c->a+1<=b:=linK2 (bc b d) (oR (b-d) e) 0x1040041041041001001041000041041000001001040fdd4064910509647d01924014047501900647d14047500501a591f4054037501101647d01100dd4054047900d009f490090050 [a,d,c,(min (b-d) e),(b-d),e,b]
theorem PQ:c<d->a<e->b=d->e<=c->a<b:=linK 0x41041841fde4024047900d005e41011f403402750050 [e,c,b,d,a]
theorem To:c+d=e->a=c->b=e->a<=b:=linK 0x1041061fdd41009f4014901100df4034027d0050 [b,e,a,c,d]
theorem Wg:c+d=e->a<c+d->b=e->a<b:=linK 0x4104187f7904027d00524044037924044034027d0050 [b,e,a,c,d]
theorem WS:b=e+d->c=a-e->a-b<=c-d:=linK3 (bc a e) (bc a b) (bc c d) 0x1040840040861841021001061861040000041840001000001021000041840040861841061001061861040000041840001000001021000fdd4054079647d01924034017501900e47d14017500d01a591f4064900901dd40640291f4501dd4024069647d049011015d4101247d14057501107d24044034027d0050 [c,(a-e),b,e,d,(c-d),a,(a-b)]
theorem P4:b+c+(d+e+10)<=15000->a<=b+(0+1)+d->a<=20000:=linK 0x41041fdd44008e11075120928349244a490110092403401752402492441450050 [a,b,d,c,e]
theorem QM:b+c+(d+e+10)<=15000->a<=b+(0+1)+d->a<=19999:=linK 0x41041fdd44f04e11075120928349244a490110092403401752402492441450050 [a,b,d,c,e]
theorem QJ:b+(d-e)<=a->¬(((a:Nat):Int)<((b:Nat):Int)+((c+d:Nat):Int)-((c+e:Nat):Int)):=linK1 (uG d e) 0x104107f9a161c49011015771240340571071009d4901100500dd402490050 [b,(d-e),a,d,e,c]
theorem W5:b+(c+d+10)<=15000->a<=e+(0+1)+d->e<=b+(0+1)+c->a<=20000:=linK 0x1041041fdd44008e1100dd44824a0d2491292404402401752404492441450403752402492441450050 [e,b,c,a,d]
theorem U4:a<=e+d->e<=b+c->a<=b+(c+d+10):=linK 0x104107f7524912924044024014037524044100dd490090050 [e,b,c,a,d]
theorem Pm:a<=e+c->e<=b+d->a+1<=b+(c+d+1):=linK 0x41041fdd4924414900901100524414037524044100dd490090050 [e,b,d,a,c]
theorem Vy:a<=e+(0+1)+d->e<=b+(0+1)+c->a<=b+(c+d+10):=linK 0x104107f752491292404402401403752404492441450403752402492441450050 [e,b,c,a,d]
theorem Xt:a<=e+(0+1)+d->e<=b+(0+1)+c->a+(0+1)<=b+(c+d+10):=linK 0x41041fdd49244a490110090052491051403752404492441450403752402492441450050 [e,b,c,a,d]
theorem US(h1:a<=0+(c+1-d)*5700)(h2:e<=4)(h3:b<=c)(h4:c<=e):a+b*5700<=400000:=by omega
theorem SF:a=d+e->a+(b-c)=d+(e+(b-c)):=linK 0x4104187f7d24900d009005240341f490090050 [a,d,e,(b-c)]
theorem N0:a+b<=d->e<=1000->d<=a+e->((a+b:Nat):Int)-((a+c:Nat):Int)<=1000000000:=linK 0x4104107f81600028c2892c361c49011005c4900d005d41240340175120e0d009d490090050 [d,a,e,b,c]
theorem Nr:a+b+(d+e)<=15000->c<=e->a+(b+c)+d<=15000:=linK 0x41041fdd44824a0d24044924100d009d44824a0d2490050112403402750050 [c,e,a,b,d]
theorem SR:f+(b-c)<=d->e+b<=d->f-e=a->a+(b-c)<=d-e:=linK3 (bc b c) (bc f e) (bc d e) 0x1040000040841021040000041841021040040040840061040040041840061040000040841021040000041841021040040041840021040040040840021fdd40749019006591f40349021019d40340891f45019d4084039647d015240241d40540291f45075009016591f4044900901dd40440291f4501dd4024047501124064057501124034027d0050 [(f-e),a,e,b,d,f,(b-c),(d-e),c]
theorem RM:e+d=f->a=e->c=f->a+b-c=b-d:=linK2 (bc (a+b) c) (bc b d) 0x4100102104184100106104184100106100000100102100000102100186104106100100000106100186104102100100003f7d01901e591f4901500924101dd49015009091f4501dd4124054029647d01524044067501501247d140675011015f4014901100df4034027d0050 [c,f,a,e,d,b,(b-d),((a+b)-c)]
theorem Qk:d+e=f->b=d->a=f->e<=c->a<=b+c:=linK 0x41861041fdd49005011009f4034904057d015011f403402750050 [e,c,a,f,b,d]
theorem U2:d+e+f<=20000->c=f->a=d->b=e->a+b+c<=20000:=linK 0x41041041fdd44008e1124044904027510023844901524014037d015011f4034027d0050 [b,e,a,d,c,f]
theorem Se:b+c+(d+e+10)<=15000->a<=f+(0+1)+e->f<=b+(0+1)+d->a<=20000:=linK 0x4104107f75100238440375120928349244a490110092405401752404492441450403752402492441450050 [f,b,d,a,e,c]
theorem Nk:g-d=f->g<=c->¬(g+(a-b)<=c)->¬(min (a-b) (min (c-d) e-f)=a-b):=linK5 (bc g d) (bc c d) (bc (min (c-d) e) f) (min_le_left (c-d) e) (min_le_right (a-b) (min (c-d) e-f)) 0x1840840040041041001840000000040040041841840040041041041840000000040040041841840040041041001840000000040040041840840040041041041840000000040040041fe67d005016591f41240940375040991f4500dd40942591f40249025021d40240991f45021d4094029647d01d24044067501d01247d14067501101dd40840775019015f40440375009099d402490050 [g,(a-b),c,(g-d),f,(min (a-b) ((min (c-d) e)-f)),((min (c-d) e)-f),(min (c-d) e),(c-d),d]
theorem R0:e+(b-c)<=f->e=g+a->f<=g+d->a+0+(b-c)<=d:=linK 0x4106107f7500924054914047504901500df4901100500dd490090050 [f,g,d,e,a,(b-c)]
theorem SG:e+(a-b)<=f->g+a<=f->e-g=d->f<=g+c->min (a-b) (c-d)=a-b:=linK4 (bc a b) (bc e g) (bc c d) (oR (a-b) (c-d)) 0x1040000000001040000001000000000001000000040000000001040000001000000000001000000040000000001040000001000000000001000000040000000001040000001000000000001000000040000000001040000001000000000001000000040000000001040000001000000000001000000040000000001040000001000000000001000000040000000001040000001000000000001000000040000040840841021041000000000021000000040000041840841021041000000000021000000040040040840840061041000000000021000000040040041840840061041000000000021000000040000040840841021041000000000021000000040000041840841021041000000000021000000040040001840840000001000000000021000000040040000840840000001000000000021000000fdf4074099647d015240a4077501502a47d140775029016591f4064900500dd40640191f4500dd4014069647d00924044087500901247d14087501100a591f4084097501d02247d01d025d4084077504901d019d4124054017d01100dd490090050 [f,g,c,(e-g),d,a,e,(a-b),(c-d),(min (a-b) (c-d)),b]
theorem RI:¬(1=2*0):=by decide
theorem Uz:¬((1:Int)<0):=by decide
theorem UG:Int.natAbs (-1)<1073741824:=by decide
theorem Rq:9<=0+9:=by decide
theorem Pf:48<=49/\49<=57:=by decide
theorem Ow:0<=1000000000:=by decide
theorem R4:(0:Int)<8:=by decide
theorem U6:(0:Int)<6:=by decide
theorem Oz:(0:Int)<2^62:=by decide
theorem PE:(-2^62:Int)<=0:=by decide
theorem Ts:(-1:Int)<0:=by decide
end
end
set_option genCtorIdx false in inductive V where
 |none
 |bool (b:Bool)
 |int (i:Int)
 |str (s:List Nat)
 |aj (l:List V)
 |lst (l:List V)
 |obj (c:Nat) (fs:List (Nat×V))
 |loc (n:Nat)
noncomputable def V.ctorIdx(x:V):Nat:=V.casesOn x 0 (fun y_=>1) (fun y_=>2) (fun y_=>3) (fun y_=>4) (fun y_=>5) (fun y_ y_=>6) (fun y_=>7)
set_option genCtorIdx false in inductive O where
 |list (l:List V)
 |dict (l:List (Int×V))
 |inst (c:Nat) (fs:List (Nat×V))
 |dead
noncomputable def O.ctorIdx(x:O):Nat:=O.casesOn x (fun y_=>0) (fun y_=>1) (fun y_ y_=>2) 3
noncomputable abbrev St:=List O
noncomputable abbrev Fr:=List (Option V)
set_option genCtorIdx false in inductive Cw (u:Unit) where|add|sub|mul|fdiv|mod
abbrev rg:=Cw ()
noncomputable def Cw.ctorIdx{u:Unit}(x:Cw u):Nat:=Cw.casesOn x 0 1 2 3 4
set_option genCtorIdx false in inductive Cq (u:Unit) where|eq|ne|lt|le|gt|ge|is|tI|isin|pq
abbrev oH:=Cq ()
noncomputable def Cq.ctorIdx{u:Unit}(x:Cq u):Nat:=Cq.casesOn x 0 1 2 3 4 5 6 7 8 9
set_option genCtorIdx false in inductive HQ (u:Unit) where|len|ord|chr|abs|list|tuple|any|str
abbrev B1:=HQ ()
noncomputable def HQ.ctorIdx{u:Unit}(x:HQ u):Nat:=HQ.casesOn x 0 1 2 3 4 5 6 7
set_option genCtorIdx false in mutual
inductive X where
 |cst (v:V)
 |gc (g:Nat)
 |var (i:Nat)
 |neg (a:X)
 |nt (a:X)
 |bo (ZE:Bool) (es:Xs)
 |cmp (o:oH) (a b:X)
 |iI (o p:oH) (a b c:X)
 |bin (o:rg) (a b:X)
 |eG (c a b:X)
 |aj (es:Xs)
 |lst (es:Xs)
 |dS (es:Xs)
 |qB
 |qT (a:X)
 |bad
 |rep (a n:X)
 |sub (a i:X)
 |dV (a lo hi:X)
 |attr (a:X) (k:Nat)
 |call (f:Nat) (es:Xs)
 |new (c:Nat) (es:Xs)
 |aC (a:X) (k:Nat) (es:Xs)
 |b1 (b:B1) (a:X)
 |max2 (a b:X)
 |app (a v:X)
 |pop (a:X)
 |sQ (a k d:X)
 |lower (a:X)
 |join (a:X)
 |comp (elt:X) (tg:List Nat) (many:Bool) (src:Src) (cond:X)
inductive Xs where
 |nil
 |cons (a:X) (r:Xs)
inductive Src where
 |seq (a:X)
 |qQ (a:X)
 |nW (a b c:X)
 |rev (a:X)
 |zip (a b:X)
end
noncomputable def X.ctorIdx(x:X):Nat:=X.casesOn x (fun y_=>0) (fun y_=>1) (fun y_=>2) (fun y_=>3) (fun y_=>4) (fun y_ y_=>5) (fun y_ y_ y_=>6) (fun y_ y_ y_ y_ y_=>7) (fun y_ y_ y_=>8) (fun y_ y_ y_=>9) (fun y_=>10) (fun y_=>11) (fun y_=>12) 13 (fun y_=>14) 15 (fun y_ y_=>16) (fun y_ y_=>17) (fun y_ y_ y_=>18) (fun y_ y_=>19) (fun y_ y_=>20) (fun y_ y_=>21) (fun y_ y_ y_=>22) (fun y_ y_=>23) (fun y_ y_=>24) (fun y_ y_=>25) (fun y_=>26) (fun y_ y_ y_=>27) (fun y_=>28) (fun y_=>29) (fun y_ y_ y_ y_ y_=>30)
noncomputable def Xs.ctorIdx(x:Xs):Nat:=Xs.casesOn x 0 (fun y_ y_=>1)
noncomputable def Src.ctorIdx(x:Src):Nat:=Src.casesOn x (fun y_=>0) (fun y_=>1) (fun y_ y_ y_=>2) (fun y_=>3) (fun y_ y_=>4)
set_option genCtorIdx false in inductive Tg where
 |var (i:Nat)
 |attr (a:X) (k:Nat)
 |item (a i:X)
noncomputable def Tg.ctorIdx(x:Tg):Nat:=Tg.casesOn x (fun y_=>0) (fun y_ y_=>1) (fun y_ y_=>2)
set_option genCtorIdx false in mutual
inductive S where
 |asg (t:Tg) (e:X)
 |sL (i:Nat) (elt:X) (tg:List Nat) (many:Bool) (src:Src) (cond:X)
 |bO (sw:Bool) (ts:List Tg) (e:X)
 |ex (e:X)
 |ret (e:X)
 |ifs (c:X) (a b:Ss)
 |cL (c:X) (b:Ss)
 |dN (tg:List Nat) (many:Bool) (src:Src) (b:Ss)
 |brk
 |cont
 |stuck
inductive Ss where
 |nil
 |cons (a:S) (r:Ss)
end
noncomputable def S.ctorIdx(x:S):Nat:=S.casesOn x (fun y_ y_=>0) (fun y_ y_ y_ y_ y_ y_=>1) (fun y_ y_ y_=>2) (fun y_=>3) (fun y_=>4) (fun y_ y_ y_=>5) (fun y_ y_=>6) (fun y_ y_ y_ y_=>7) 8 9 10
noncomputable def Ss.ctorIdx(x:Ss):Nat:=Ss.casesOn x 0 (fun y_ y_=>1)
set_option genCtorIdx false in inductive Fl where
 |next|brk|cont
 |ret (v:V)
noncomputable def Fl.ctorIdx(x:Fl):Nat:=Fl.casesOn x 0 1 2 (fun y_=>3)
noncomputable def lim:Nat:=1000000
mutual
noncomputable def V.beq:V->V->Bool
 |.none,.none=>true
 |.bool a,.bool b=>a==b
 |.int a,.int b=>a==b
 |.str a,.str b=>a==b
 |.aj a,.aj b=>V.pW a b
 |.lst a,.lst b=>V.pW a b
 |_,_=>false
noncomputable def V.pW:List V->List V->Bool
 |[],[]=>true
 |a::r,b::t=>V.beq a b&&V.pW r t
 |_,_=>false
end
noncomputable def V.flat:V->Bool
 |.none=>true
 |.int _=>true
 |.str s=>s.all (· <128)
 |_=>false
noncomputable def V.plain1:V->Bool
 |.aj l=>l.all V.flat
 |.lst l=>l.all V.flat
 |v=>v.flat
noncomputable def V.plain2:V->Bool
 |.aj l=>l.all V.plain1
 |.lst l=>l.all V.plain1
 |v=>v.flat
noncomputable def items(σ:St):V->Option (List V)
 |.aj l=>some l
 |.lst l=>some l
 |.loc n=>match σ[n]? with
  |some (.list l)=>some l
  |_=>none
 |_=>none
noncomputable def eqv(σ:St)(a b:V):Option Bool:=match a,b with
 |.bool x,.bool y=>some (x==y)
 |.str x,.str y=>some (x==y)
 |.int x,.int y=>some (x==y)
 |.loc n,.lst []=>match σ[n]? with
  |some (.list l)=>some l.isEmpty
  |_=>none
 |.lst l,.lst []=>some l.isEmpty
 |a,b=>if V.plain2 a&&V.plain2 b then some (V.beq a b)else none
noncomputable def field(k:Nat):List (Nat×V)->Option V
 |[]=>none
 |(j,v)::r=>if j=k then some v else field k r
theorem m9(k j:Nat)(v:V)(r:List (Nat×V)):field k ((j,v)::r)=if j=k then some v else field k r:=rfl
noncomputable def setField(k:Nat)(v:V):List (Nat×V)->List (Nat×V)
 |[]=>[(k,v)]
 |(j,x)::r=>if j=k then(j,v)::r else(j,x)::setField k v r
theorem qe(k j:Nat)(v x:V)(r:List (Nat×V)):setField k v ((j,x)::r)=if j=k then(j,v)::r else(j,x)::setField k v r:=rfl
noncomputable def bx(k:Int):List (Int×V)->Option V
 |[]=>none
 |(j,v)::r=>if j=k then some v else bx k r
theorem r7(k j:Int)(v:V)(r:List (Int×V)):bx k ((j,v)::r)=if j=k then some v else bx k r:=rfl
noncomputable def dput(k:Int)(v:V):List (Int×V)->List (Int×V)
 |[]=>[(k,v)]
 |(j,x)::r=>if j=k then(j,v)::r else(j,x)::dput k v r
theorem Hw(k j:Int)(v x:V)(r:List (Int×V)):dput k v ((j,x)::r)=if j=k then(j,v)::r else(j,x)::dput k v r:=rfl
noncomputable def small(i:Int):Bool:=decide (-(2 ^ 40)<=i)&&decide (i<=2 ^ 40)
noncomputable def aw(i:Int)(n:Nat):Option Nat:=if small i then(if 0<=i then(if i<n then some i.toNat else none)else(if 0<=i+n then some (i+n).toNat else none))else none
noncomputable def clip(i:Int)(n:Nat):Nat:=(max 0 (min (if i<0 then i+n else i) n)).toNat
noncomputable def JU{α:Type}(l:List α)(lo hi:V):Option (List α):=match lo,hi with
 |.none,.none=>some l
 |.none,.int b=>some (l.take (clip b l.length))
 |.int a,.none=>some (l.drop (clip a l.length))
 |.int a,.int b=>some ((l.drop (clip a l.length)).take (clip b l.length-clip a l.length))
 |_,_=>none
noncomputable def cut{α:Type}(l:List α)(lo hi:V):Option (List α):=if l.length<=lim then JU l lo hi else none
noncomputable def cN(σ:St):V->Option (List V)
 |.aj _=>none
 |v=>items σ v
noncomputable def vQ(σ:St)(x y:V):Option V:=match cN σ x,cN σ y with
 |some l,some r=>if l.length+r.length<=lim then some (.lst (l++r))else none
 |_,_=>none
noncomputable def binop(o:rg)(σ:St)(a b:V):Option V:=match o,a,b with
 |.add,.int x,.int y=>some (.int (x+y))
 |.sub,.int x,.int y=>some (.int (x-y))
 |.mul,.int x,.int y=>if small x&&small y then some (.int (x*y))else none
 |.fdiv,.int x,.int y=>if small x&&decide (0<y)&&decide (y<1000)then some (.int (Int.fdiv x y))else none
 |.mod,.int x,.int y=>if y != 0 then some (.int (Int.fmod x y))else none
 |.add,.str x,.str y=>if x.length+y.length<=lim then some (.str (x++y))else none
 |.add,.aj x,.aj y=>if x.length+y.length<=lim then some (.aj (x++y))else none
 |.mul,.aj [x],.int n=>if 0<=n/\n<=1000 then some (.aj (List.replicate n.toNat x))else none
 |.mul,.lst [x],.int n=>if 0<=n/\n<=1000 then some (.lst (List.replicate n.toNat x))else none
 |.add,x,y=>vQ σ x y
 |_,_,_=>none
noncomputable def isNone:V->Option Bool
 |.none=>some true
 |.loc _=>none
 |_=>some false
noncomputable def member(σ:St)(x y:V):Option Bool:=match x,y with
 |.str [c],.str l=>some (l.contains c)
 |.str s,.aj l=>if l.all (fun v=>match v with|.str _=>true|_=>false)then some (l.any (fun v=>match v with|.str t=>s==t|_=>false))else none
 |.int i,.lst l=>if l.all (fun v=>match v with|.int _=>true|_=>false)then some (l.any (fun v=>match v with|.int j=>i==j|_=>false))else none
 |_,_=>none
noncomputable def eg(o:oH)(σ:St)(a b:V):Option Bool:=match o with
 |.eq=>eqv σ a b
 |.ne=>(eqv σ a b).map (!·)
 |.lt=>match a,b with|.int x,.int y=>some (decide (x<y))|_,_=>none
 |.le=>match a,b with|.int x,.int y=>some (decide (x<=y))|_,_=>none
 |.gt=>match a,b with|.int x,.int y=>some (decide (y<x))|_,_=>none
 |.ge=>match a,b with|.int x,.int y=>some (decide (y<=x))|_,_=>none
 |.is=>match b with|.none=>isNone a|_=>none
 |.tI=>match b with|.none=>(isNone a).map (!·)|_=>none
 |.isin=>member σ a b
 |.pq=>(member σ a b).map (!·)
noncomputable def kL(σ:St)(a i:V):Option V:=match a,i with
 |.str s,.int k=>match aw k s.length with
  |some j=>(s[j]?).map fun c=>.str [c]
  |none=>none
 |.loc n,.int k=>match σ[n]? with
  |some (.list l)=>(aw k l.length).bind fun j=>l[j]?
  |some (.dict l)=>bx k l
  |_=>none
 |.aj l,.int k=>(aw k l.length).bind fun j=>l[j]?
 |.lst l,.int k=>(aw k l.length).bind fun j=>l[j]?
 |_,_=>none
noncomputable def fp(a lo hi:V):Option V:=match a with
 |.str s=>(cut s lo hi).map .str
 |.aj l=>(cut l lo hi).map .aj
 |.lst l=>(cut l lo hi).map .lst
 |_=>none
structure Fn where
 slots:Nat
 params:Nat
 dflt:List V:=[]
 body:Ss
structure Prog where
 fn:Nat->Fn
 init:Nat->Nat
 aC:Nat->Nat->Option Nat
 const:Nat->V
noncomputable def fR(σ:St):V->Option (Nat×List (Nat×V))
 |.obj c fs=>some (c,fs)
 |.loc n=>match σ[n]? with
  |some (.inst c fs)=>some (c,fs)
  |_=>none
 |_=>none
noncomputable def nA(P:Prog)(σ:St)(a:V)(k:Nat):Option V:=match fR σ a with
 |some (c,fs)=>match P.aC c k with
  |none=>field k fs
  |some _=>none
 |none=>none
noncomputable def lk(P:Prog)(σ:St)(a:V)(k:Nat):Option Nat:=match fR σ a with
 |some (c,fs)=>match field k fs with
  |none=>P.aC c k
  |some _=>none
 |none=>none
theorem yC{P:Prog}{σ:St}{a:V}{k f:Nat}(e:lk P σ a k=some f):∃c fs,fR σ a=some (c,fs)/\P.aC c k=some f:=by
 haveI go:∀y,fR σ a=y->(match y with|some (c,fs)=>(match field k fs with|none=>P.aC c k|some y_=>none)|none=>none)=some f->∃c fs,fR σ a=some (c,fs)/\P.aC c k=some f:=fun y q e=>by
  cases y with
  |none=>exact nn e
  |some p=>
   refine⟨p.1,p.2,q,?_⟩;revert e;show(match field k p.2 with|none=>P.aC p.1 k|some y_=>none)=some f->_
   cases field k p.2 with
   |none=>exact id
   |some y_=>exact nn
 exact go _ rfl e
noncomputable def lowers(c:Nat):Nat:=if 65<=c/\c<=90 then c+32 else c
noncomputable def gU(b:B1)(σ:St)(a:V):Option V:=match b with
 |.len=>match a with
  |.str s=>if s.length<=lim then some (.int s.length)else none
  |v=>(items σ v).bind fun l=>if l.length<=lim then some (.int l.length)else none
 |.ord=>match a with|.str [c]=>some (.int c)|_=>none
 |.chr=>match a with|.int i=>if 0<=i/\i<128 then some (.str [i.toNat])else none|_=>none
 |.abs=>match a with|.int i=>some (.int i.natAbs)|_=>none
 |.list=>(cN σ a).bind fun l=>if l.length<=lim then some (.lst l)else none
 |.tuple=>(cN σ a).bind fun l=>if l.length<=lim then some (.aj l)else none
 |.any=>match a with
  |.lst l=>if l.all (fun v=>match v with|.bool _=>true|_=>false)then some (.bool (l.any (fun v=>match v with|.bool b=>b|_=>false)))else none
  |_=>none
 |.str=>match a with|.int i=>if 0<=i/\i<10 then some (.str [48+i.toNat])else none|_=>none
noncomputable def gG(l:List V):Option (List Nat):=match l with
 |[]=>some []
 |.str s::r=>(gG r).map (s++·)
 |_=>none
theorem listAt{α:Type}{y:Option O}{f:List V->Option α}{r:α}(e:(match y with|some (.list l)=>f l|_=>none)=some r):∃l,y=some (.list l)/\f l=some r:=by
 cases y with
 |none=>exact nn e
 |some o=>cases o with
  |list l=>exact⟨l,rfl,e⟩
  |_=>exact nn e
theorem HE{α:Type}{y:Option O}{f:Nat->List (Nat×V)->Option α}{r:α}(e:(match y with|some (.inst c fs)=>f c fs|_=>none)=some r):∃c fs,y=some (.inst c fs)/\f c fs=some r:=by
 cases y with
 |none=>exact nn e
 |some o=>cases o with
  |inst c fs=>exact⟨c,fs,rfl,e⟩
  |_=>exact nn e
noncomputable def wj(σ:St)(a:V):Option (V×St):=match a with
 |.loc n=>match σ[n]? with
  |some (.list l)=>some (.lst l,σ.set n .dead)
  |some (.inst c fs)=>some (.obj c fs,σ.set n .dead)
  |_=>none
 |_=>none
noncomputable def gC:List Nat->List V->Fr->Option Fr
 |[],[],fr=>some fr
 |i::r,v::t,fr=>gC r t (fr.set i (some v))
 |_,_,_=>none
theorem Dj(i:Nat)(r:List Nat)(v:V)(t:List V)(fr:Fr):gC (i::r) (v::t) fr=gC r t (fr.set i (some v)):=rfl
noncomputable def eD(tg:List Nat)(many:Bool)(v:V)(fr:Fr):Option Fr:=if many then
  match v with
  |.aj l=>gC tg l fr
  |_=>none
 else gC tg [v] fr
noncomputable def up(a:Int):Nat->List V
 |0=>[]
 |n+1=>.int a::up (a+1) n
theorem FE(a:Int)(n:Nat):up a (n+1)=.int a::up (a+1) n:=rfl
noncomputable def down(a:Int):Nat->List V
 |0=>[]
 |n+1=>.int a::down (a-1) n
theorem we(a:Int)(n:Nat):down a (n+1)=.int a::down (a-1) n:=rfl
noncomputable def jS:List Nat->List Nat->List V
 |a::r,b::t=>.aj [.str [a],.str [b]]::jS r t
 |_,_=>[]
noncomputable def signs:List Nat->List V
 |[]=>[]
 |a::r=>.str [a]::signs r
theorem Fx(a:Nat)(r:List Nat):signs (a::r)=.str [a]::signs r:=rfl
set_option genCtorIdx false in inductive It where
 |vals (l:List V)
 |live (n:Nat)
noncomputable def It.ctorIdx(x:It):Nat:=It.casesOn x (fun y_=>0) (fun y_=>1)
noncomputable def wL(σ:St):V->Option It
 |.aj l=>some (.vals l)
 |.lst l=>some (.vals l)
 |.str s=>if s.all (· <128)then some (.vals (signs s))else none
 |.loc n=>match σ[n]? with
  |some (.list _)=>some (.live n)
  |_=>none
 |_=>none
noncomputable def frame(f:Fn)(args:List V):Option Fr:=if args.length+f.dflt.length=f.params then some ((args++f.dflt).map some++List.replicate (f.slots-f.params) none)else none
inductive eF(a b c:Prop):Prop where
 |mk (h1:a) (h2:b) (h3:c)
inductive kE(a b c d:Prop):Prop where
 |mk (h1:a) (h2:b) (h3:c) (h4:d)
inductive yi(a b c d e:Prop):Prop where
 |mk (h1:a) (h2:b) (h3:c) (h4:d) (h5:e)
inductive zj(a b c d e f:Prop):Prop where
 |mk (h1:a) (h2:b) (h3:c) (h4:d) (h5:e) (h6:f)
inductive GQ(a b c d e f g:Prop):Prop where
 |mk (h1:a) (h2:b) (h3:c) (h4:d) (h5:e) (h6:f) (h7:g)
inductive AI(a b c d e f g h i j:Prop):Prop where
 |mk (h1:a) (h2:b) (h3:c) (h4:d) (h5:e) (h6:f) (h7:g) (h8:h) (h9:i) (H0:j)
inductive gW{α β:Type}(p:α->β->Prop):Prop where
 |mk (x0:α) (x1:β) (h:p x0 x1)
inductive mQ{α β γ:Type}(p:α->β->γ->Prop):Prop where
 |mk (x0:α) (x1:β) (x2:γ) (h:p x0 x1 x2)
inductive qX{α β γ δ:Type}(p:α->β->γ->δ->Prop):Prop where
 |mk (x0:α) (x1:β) (x2:γ) (x3:δ) (h:p x0 x1 x2 x3)
inductive RN{α β γ δ ε:Type}(p:α->β->γ->δ->ε->Prop):Prop where
 |mk (x0:α) (x1:β) (x2:γ) (x3:δ) (x4:ε) (h:p x0 x1 x2 x3 x4)
inductive Ug{α β γ δ ε ζ:Type}(p:α->β->γ->δ->ε->ζ->Prop):Prop where
 |mk (x0:α) (x1:β) (x2:γ) (x3:δ) (x4:ε) (x5:ζ) (h:p x0 x1 x2 x3 x4 x5)
inductive Ex9{α β γ δ ε ζ η θ ι:Type}(p:α->β->γ->δ->ε->ζ->η->θ->ι->Prop):Prop where
 |mk (x0:α) (x1:β) (x2:γ) (x3:δ) (x4:ε) (x5:ζ) (x6:η) (x7:θ) (x8:ι) (h:p x0 x1 x2 x3 x4 x5 x6 x7 x8)
theorem jH{c:Prop}[Decidable c]{α:Type}{x r:α}(e:(if c then some x else none)=some r):c/\x=r:=by
 by_cases h:c
 ·rw[if_pos h]at e;exact⟨h,oj e⟩
 ·rw[if_neg h]at e;exact nn e
section
open PySem PySem.W PySem.Calls PyProof.Rows
section
noncomputable abbrev bZ:=List (Option (Addr×Addr))
def ff(ρ:bZ)(a:Addr):Prop:=∃(n:Nat) (p:Addr×Addr),ρ[n]?=some (some p)/\p.2=a
structure Tab where
 cls:Nat->Addr
 fk:Nat->Str
 n:Nat
 nc:Nat
def ow(T:Tab)(c:Nat)(fs:List (Nat×V)):Prop:=c<T.nc/\(fs.map (·.1)).Nodup/\(∀k∈fs.map (·.1),k<T.n)/\fs.length<=100
section
variable (T:Tab) (π:Addr->Prop) (ρ:bZ) (h:Heap)
mutual
noncomputable def Rel:V->Value->Prop
 |.none,v=>v=.none
 |.bool b,v=>v=.bool b
 |.int i,v=>∃t,v=.int i t
 |.str s,v=>∃t,v=.str ⟨s.toArray⟩ t
 |.aj l,v=>mQ fun a vs n=>kE (v=.ref a) (¬(π a\/ff ρ a)) (IsT h a (List.toArray vs) n) (bj l vs)
 |.lst l,v=>mQ fun a vs n=>kE (v=.ref a) (¬(π a\/ff ρ a)) (IsL h a (List.toArray vs) n) (bj l vs)
 |.obj c fs,v=>qX fun a d es n=>GQ (v=.ref a) (¬(π a\/ff ρ a)) (¬(π d\/ff ρ d)) (h.get? a=some (instObj (T.cls c) d)) (h.get? d=some (dictOf es n)) (ow T c fs) (hJ fs es)
 |.loc n,v=>∃a,v=.ref a/\n<ρ.length/\∀p,ρ[n]?=some (some p)->a=p.1
noncomputable def bj:List V->List Value->Prop
 |[],vs=>vs=[]
 |x::r,vs=>gW fun v t=>eF (vs=v::t) (Rel x v) (bj r t)
noncomputable def hJ:List (Nat×V)->List DictEntry->Prop
 |[],es=>es=[]
 |(k,x)::r,es=>gW fun e t=>kE (es=e::t) ((∃tk,e.key=.str (T.fk k) tk)) (Rel x e.val) (hJ r t)
end
noncomputable def qy(p:Addr×Addr):O->Prop
 |.list l=>p.1=p.2/\∃vs n,IsL h p.2 (List.toArray vs) n/\bj T π ρ h l vs
 |.dict l=>p.1=p.2/\p.2≠sysModules/\(l=[]->h.get? p.2=some {cls:=.type "dict",data:=.dict #[]})/\∃f,h.IntMap p.2 f/\h.DictLe p.2 l.length/\∀k,match bx k l with
  |some x=>∃v,f k=some v/\Rel T π ρ h x v
  |none=>f k=none
 |.inst c fs=>¬(π p.1\/ff ρ p.1)/\h.get? p.1=some (instObj (T.cls c) p.2)/\gW fun es n=>eF (h.get? p.2=some (dictOf es n)) (ow T c fs) (hJ T π ρ h fs es)
 |.dead=>True
structure aZ(σ:St):Prop where
 len:ρ.length=σ.length
 objs:∀(n:Nat) o,σ[n]?=some o->o≠.dead->∃p,ρ[n]?=some (some p)/\qy T π ρ h p o
 dead:∀(n:Nat),σ[n]?=some .dead->ρ[n]?=some none
 inj:∀(n m:Nat) p q,ρ[n]?=some (some p)->ρ[m]?=some (some q)->p.2=q.2->n=m
 a8:∀a,π a->¬ff ρ a
 there:∀a,π a->∃o,h.get? a=some o
end
variable {T:Tab} {π de:Addr->Prop} {ρ aA:bZ} {h h':Heap} {σ:St}
theorem cD{n:Nat}{v:Value}{p:Addr×Addr}(r:Rel T π ρ h (.loc n) v)(e:ρ[n]?=some (some p)):v=.ref p.1:=by obtain⟨a,rfl,_,q⟩:=r;exact Rw (q _ e) rfl
structure Keeps(π de:Addr->Prop)(ρ aA:bZ)(h h':Heap):Prop where
 fixed:∀a o,h.get? a=some o->¬(π a\/ff ρ a)->¬(de a\/ff aA a)
 keep:∀a o,h.get? a=some o->¬(π a\/ff ρ a)->h'.get? a=some o
 len:ρ.length<=aA.length
 old:∀(n:Nat) p,n<ρ.length->aA[n]?=some (some p)->ρ[n]?=some (some p)
mutual
theorem Rel.mono(k:Keeps π de ρ aA h h'):∀(x:V) (v:Value),Rel T π ρ h x v->Rel T de aA h' x v
 |.none=>@fun _ r=>r
 |.bool _=>@fun _ r=>r
 |.int _=>@fun _ r=>r
 |.str _=>@fun _ r=>r
 |.aj l=>by intro _ gY;obtain⟨a,vs,n,e,f,o,r⟩:=gY;exact⟨a,vs,n,e,k.fixed _ _ o f,k.keep _ _ o f,bj.mono k l vs r⟩
 |.lst l=>by intro _ gY;obtain⟨a,vs,n,e,f,o,r⟩:=gY;exact⟨a,vs,n,e,k.fixed _ _ o f,k.keep _ _ o f,bj.mono k l vs r⟩
 |.obj _ fs=>by intro _ gY;obtain⟨a,d,es,n,e,f,g,o,q,ko,r⟩:=gY;exact⟨a,d,es,n,e,k.fixed _ _ o f,k.fixed _ _ q g,k.keep _ _ o f,k.keep _ _ q g,ko,hJ.mono k fs es r⟩
 |.loc _=>by intro _ gY;obtain⟨a,e,l,r⟩:=gY;exact⟨a,e,lt_of_lt_of_le l k.len,fun p hp=>r p (k.old _ _ l hp)⟩
theorem bj.mono(k:Keeps π de ρ aA h h'):∀(x:List V) (v:List Value),bj T π ρ h x v->bj T de aA h' x v
 |[]=>@fun _ r=>r
 |x::l=>by intro _ gY;obtain⟨v,t,e,r,q⟩:=gY;exact⟨v,t,e,Rel.mono k x v r,bj.mono k l t q⟩
theorem hJ.mono(k:Keeps π de ρ aA h h'):∀(x:List (Nat×V)) (v:List DictEntry),hJ T π ρ h x v->hJ T de aA h' x v
 |[]=>@fun _ r=>r
 |(_,x)::l=>by intro _ gY;obtain⟨e,t,q,kk,r,s⟩:=gY;exact⟨e,t,q,kk,Rel.mono k x _ r,hJ.mono k l t s⟩
end
structure aK(χ:Addr->Prop)(ρ:bZ)(h:Heap)(aA:bZ)(h':Heap):Prop where
 len:ρ.length<=aA.length
 old:∀(n:Nat) p,n<ρ.length->aA[n]?=some (some p)->ρ[n]?=some (some p)
 new:∀(n:Nat) p,ρ.length<=n->aA[n]?=some (some p)->h.get? p.2=none
 i5:∀a o,h.get? a=some o->∃o',h'.get? a=some o'
 keep:∀a o,h.get? a=some o->¬ff ρ a->¬χ a->h'.get? a=some o
noncomputable abbrev bG:Addr->Prop:=fun y_=>False
theorem aK.mut{χ:Addr->Prop}(g:aK χ ρ h aA h'){a:Addr}{o:Obj}(l:h.get? a=some o)(m:ff aA a):ff ρ a:=by
 obtain⟨n,p,e,rfl⟩:=m;by_cases q:n<ρ.length
 ·exact⟨n,p,g.old n p q e,rfl⟩
 ·haveI:=g.new n p (le_of_not_lt q) e;replace this:=l▸this;cases this
theorem aK.refl(χ:Addr->Prop)(ρ:bZ)(h:Heap):aK χ ρ h ρ h:=⟨le_refl _,fun y_ y_ y_ e=>e,fun n p l e=>((Q7 ((List.getElem?_eq_some_iff.mp e).1) l).elim),fun y_ o e=>⟨o,e⟩,fun y_ y_ e y_ y_=>e⟩
theorem aK.lH{χ:Addr->Prop}(g:aK χ ρ h aA h'){a:Addr}(e:h'.get? a=none):h.get? a=none:=by
 cases q:h.get? a with
 |none=>rfl
 |some o=>exact(g.i5 a o q).elim fun o' x=>(nn (e▸x))
theorem aK.trans{χ:Addr->Prop}{aE:bZ}{ay:Heap}(g:aK χ ρ h aE ay)(k:aK χ aE ay aA h'):aK χ ρ h aA h' where
 len:=le_trans g.len k.len
 old:=fun n p l e=>g.old n p l (k.old n p (lt_of_lt_of_le l g.len) e)
 new:=fun n p l e=>by
  by_cases q:n<aE.length
  ·exact g.new n p l (k.old n p q e)
  ·exact g.lH (k.new n p (le_of_not_lt q) e)
 i5:=fun a o e=>(g.i5 a o e).elim fun E3 qJ=>(k.i5 a E3 qJ)
 keep:=fun a o e m x=>k.keep a o (g.keep a o e m x) (fun z=>m (g.mut e z)) x
theorem aK.weak{χ FT:Addr->Prop}(g:aK χ ρ h aA h')(w:∀a,χ a->FT a):aK FT ρ h aA h':=⟨g.len,g.old,g.new,g.i5,fun a o e m x=>g.keep a o e m fun z=>x (w a z)⟩
theorem aK.up{χ:Addr->Prop}(k:∀b o,h.get? b=some o->h'.get? b=some o):aK χ ρ h ρ h':=⟨le_refl _,fun y_ y_ y_ e=>e,fun n p l e=>((Q7 ((List.getElem?_eq_some_iff.mp e).1) l).elim),fun a o e=>⟨o,k a o e⟩,fun a o e y_ y_=>k a o e⟩
theorem aK.keeps{χ:Addr->Prop}(g:aK χ ρ h aA h')(w:∀a,χ a->π a):Keeps π π ρ aA h h' where
 fixed:=fun a o e f z=>f (z.elim .inl fun m=>.inr (g.mut e m))
 keep:=fun a o e f=>g.keep a o e (fun m=>f (.inr m)) fun x=>f (.inl (w a x))
 len:=g.len
 old:=g.old
theorem Keeps.up(k:∀b o,h.get? b=some o->h'.get? b=some o):Keeps π π ρ ρ h h':=⟨fun y_ y_ y_ f=>f,fun a o e y_=>k a o e,le_refl _,fun y_ y_ y_ e=>e⟩
theorem Keeps.less(w:∀a,de a->π a):Keeps π de ρ ρ h h:=⟨fun y_ y_ y_ f z=>f (z.elim (fun x=>.inl (w _ x)) .inr),fun y_ y_ e y_=>e,le_refl _,fun y_ y_ y_ e=>e⟩
theorem Keeps.more(w:∀a,de a->π a\/h.get? a=none)(k:∀b o,h.get? b=some o->h'.get? b=some o):Keeps π de ρ ρ h h':=⟨fun a o e f z=>z.elim (fun x=>(w a x).elim (fun y=>f (.inl y)) fun y=>(by replace y:=e▸y;cases y)) fun m=>f (.inr m),fun a o e y_=>k a o e,le_refl _,fun y_ y_ y_ e=>e⟩
theorem qy.mono(k:Keeps π de ρ aA h h')(p:Addr×Addr)(hk:∀o,h.get? p.2=some o->h'.get? p.2=some o):∀(o:O),qy T π ρ h p o->qy T de aA h' p o
 |.list l=>@fun Gu=>by refine cps fun G kG=>?_;obtain⟨e,vs,n,o,r⟩:=Gu;exact kG ⟨e,vs,n,hk _ o,bj.mono k l vs r⟩
 |.dict l=>@fun Gu=>by
  refine cps fun G kG=>?_;obtain⟨e,nm,em,f,⟨ob,es,ep,ho,r⟩,le,r'⟩:=Gu
  exact kG ⟨e,nm,fun z=>hk _ (em z),f,⟨ob,es,ep,hk _ ho,r⟩,(le.of_same ho (hk _ ho)),fun i=>by
   haveI:=r' i;revert this
   cases bx i l with
   |none=>exact id
   |some x=>exact fun hV=>by obtain⟨v,e,q⟩:=hV;exact⟨v,e,q.mono k⟩⟩
 |.inst c fs=>@fun Gu=>by refine cps fun G kG=>?_;obtain⟨f,o,es,n,q,ko,r⟩:=Gu;exact kG ⟨k.fixed _ _ o f,k.keep _ _ o f,es,n,hk _ q,ko,hJ.mono k fs es r⟩
 |.dead=>@fun _=>trivial
theorem qy.there{p:Addr×Addr}:∀{o:O},o≠.dead->qy T π ρ h p o->∃ob,h.get? p.2=some ob
 |.list _=>by intro _ gY;refine cps fun G kG=>?_;obtain⟨_,_,_,o,_⟩:=gY;exact kG ⟨_,o⟩
 |.dict _=>by intro _ gY;refine cps fun G kG=>?_;obtain⟨_,_,_,_,⟨_,_,_,o,_⟩,_⟩:=gY;exact kG ⟨_,o⟩
 |.inst _ _=>by intro _ gY;obtain⟨_,_,⟨o,_,_⟩⟩:=gY.2.2;exact⟨_,o⟩
 |.dead=>@fun e _=>absurd rfl e
theorem aZ.mut(S:aZ T π ρ h σ){a:Addr}(m:ff ρ a):∃ob,h.get? a=some ob:=by
 obtain⟨n,p,e,rfl⟩:=m;have l:n<σ.length:=by haveI:=(List.getElem?_eq_some_iff.mp e).1;rw[S.len]at this;exact this
 haveI ho:σ[n]?=some σ[n]:=getElem?_eq_getElem l;by_cases q:σ[n]=.dead
 ·haveI ho:=q▸ho;haveI e:=(S.dead n ho)▸e;exact nomatch e
 ·obtain⟨p',e',r⟩:=S.objs n _ ho q;replace e':=e▸e';cases e';exact r.there q
theorem aZ.Hb(S:aZ T π ρ h σ){a:Addr}(m:ff ρ a):a<h.objs.size:=let⟨_,e⟩:=S.mut m;Heap.lt_size e
theorem aZ.keeps(S:aZ T π ρ h σ)(k:Keeps π de ρ ρ h h')(hk:∀a o,ff ρ a->h.get? a=some o->h'.get? a=some o)(pr:∀a,de a->¬ff ρ a)(th:∀a,de a->∃o,h'.get? a=some o):aZ T de ρ h' σ:=⟨S.len,fun n o e d=>by obtain⟨p,e',r⟩:=S.objs n o e d;exact⟨p,e',r.mono k p fun ob ho=>hk _ ob ⟨n,p,e',rfl⟩ ho⟩,S.dead,S.inj,pr,th⟩
theorem aZ.up(S:aZ T π ρ h σ)(k:∀b o,h.get? b=some o->h'.get? b=some o):aZ T π ρ h' σ:=S.keeps (.up k) (fun a o y_ e=>k a o e) S.a8 fun a x=>let⟨o,e⟩:=S.there a x;⟨o,k a o e⟩
theorem aZ.less(S:aZ T π ρ h σ)(w:∀a,de a->π a):aZ T de ρ h σ:=S.keeps (.less w) (fun y_ y_ y_ e=>e) (fun a x=>S.a8 a (w a x)) fun a x=>S.there a (w a x)
theorem aZ.set(S:aZ T π ρ h σ){n:Nat}{p:Addr×Addr}{o':O}(e:ρ[n]?=some (some p))(hs:Heap.SameBut p.2 h h')(nd:o'≠.dead)(r:qy T π ρ h' p o'):aZ T π ρ h' (σ.set n o') where
 len:=Rw length_set S.len
 objs:=fun m o eo d=>by
  by_cases q:n=m
  ·subst q;haveI l:n<σ.length:=Lw S.len ((List.getElem?_eq_some_iff.mp e).1);rw[getElem?_set_self l]at eo;replace eo:=oj eo;subst eo;exact⟨p,e,r⟩
  ·rw[getElem?_set_ne q]at eo;obtain⟨p',e',r'⟩:=S.objs m o eo d;refine⟨p',e',r'.mono ⟨fun y_ y_ y_ f=>f,fun a ob ha f=>?_,le_refl _,fun y_ y_ y_ e=>e⟩ p' fun ob ho=>(hs.2 _ (fun z=>q (S.inj m n p' p e' e z).symm)).trans ho⟩;exact(hs.2 a fun z=>f (.inr (z▸⟨n,p,e,rfl⟩))).trans ha
 dead:=fun m eo=>by
  by_cases q:n=m
  ·subst q;have l:n<σ.length:=Lw S.len ((List.getElem?_eq_some_iff.mp e).1);rw[getElem?_set_self l]at eo;exact absurd (oj eo) nd
  ·rw[getElem?_set_ne q]at eo;exact S.dead m eo
 inj:=S.inj
 a8:=S.a8
 there:=fun a x=>(S.there a x).elim fun o e'=>⟨o,(hs.2 a fun z=>S.a8 a x (z▸⟨n,p,e,rfl⟩)).trans e'⟩
theorem aK.set{χ:Addr->Prop}{n:Nat}{p:Addr×Addr}{ob:Obj}(e:ρ[n]?=some (some p))(hs:Heap.SameBut p.2 h h')(ho:h'.get? p.2=some ob):aK χ ρ h ρ h':=⟨le_refl _,fun y_ y_ y_ e=>e,fun n p l e=>((Q7 ((List.getElem?_eq_some_iff.mp e).1) l).elim),fun a o e=>(by
  by_cases z:a=p.2
  ·subst z;exact⟨ob,ho⟩
  ·exact⟨o,(hs.2 a z).trans e⟩),fun a o e' m y_=>(hs.2 a fun z=>m (z▸⟨n,p,e,rfl⟩)).trans e'⟩
theorem Keeps.set{n:Nat}{p:Addr×Addr}(e:ρ[n]?=some (some p))(hs:Heap.SameBut p.2 h h'):Keeps π π ρ ρ h h':=⟨fun y_ y_ y_ f=>f,fun a y_ e' f=>(hs.2 a fun z=>f (.inr (z▸⟨n,p,e,rfl⟩))).trans e',le_refl _,fun y_ y_ y_ e=>e⟩
theorem Keeps.add(p:Addr×Addr)(hf:h.get? p.2=none)(k:∀b o,h.get? b=some o->h'.get? b=some o):Keeps π π ρ (ρ++[some p]) h h' where
 fixed:=fun a o e f z=>z.elim (fun x=>f (.inl x)) fun hV=>by
  obtain⟨n,q,en,ea⟩:=hV;by_cases l:n<ρ.length
  ·rw[getElem?_append_left l]at en;exact f (.inr ⟨n,q,en,ea⟩)
  ·rw[getElem?_append_right (le_of_not_lt l)]at en;haveI:=List.mem_of_getElem? en;simp only[mem_singleton,Option.some.injEq]at this;obtain rfl:=Eq.symm this;subst ea;replace hf:=e▸hf;cases hf
 keep:=fun a o e y_=>k a o e
 len:=by simp
 old:=fun n q l e=>((getElem?_append_left l)▸e)
theorem aZ.add(S:aZ T π ρ h σ){p:Addr×Addr}{o':O}(hf:h.get? p.2=none)(hp:¬π p.2)(k:∀b o,h.get? b=some o->h'.get? b=some o)(nd:o'≠.dead)
  (r:qy T π (ρ++[some p]) h' p o'):aZ T π (ρ++[some p]) h' (σ++[o']) where
 len:=by simp[S.len]
 objs:=fun n o e d=>by
  by_cases l:n<σ.length
  ·rw[getElem?_append_left l]at e;obtain⟨q,e',r'⟩:=S.objs n o e d;exact⟨q,Rw (getElem?_append_left (S.len▸l)) e',r'.mono (.add p hf k) q fun ob ho=>k _ ob ho⟩
  ·rw[getElem?_append_right (le_of_not_lt l)]at e;have h0:n-σ.length=0:=by haveI:=(List.getElem?_eq_some_iff.mp e).1;simp at this;exact Lq this
   replace e:=h0▸e;replace e:=oj e;subst e;refine⟨p,?_,r⟩;exact Rw (getElem?_append_right (Rw S.len (le_of_not_lt l))) (Rw S.len (Rw h0 rfl))
 dead:=fun n e=>by
  by_cases l:n<σ.length
  ·rw[getElem?_append_left l]at e;exact Rw (getElem?_append_left (S.len▸l)) (S.dead n e)
  ·rw[getElem?_append_right (le_of_not_lt l)]at e;haveI h0:n-σ.length=0:=by haveI:=(List.getElem?_eq_some_iff.mp e).1;simp at this;exact Lq this
   haveI e:=h0▸e;exact absurd (oj e) nd
 inj:=fun n m a b ea eb q=>by
  have one:∀(n:Nat) (a:Addr×Addr),(ρ++[some p])[n]?=some (some a)->(n<ρ.length/\ρ[n]?=some (some a))\/(n=ρ.length/\a=p):=fun n a e=>by
   by_cases l:n<ρ.length
   ·haveI e:=(getElem?_append_left l)▸e;exact .inl ⟨l,e⟩
   ·replace e:=(getElem?_append_right (le_of_not_lt l))▸e;have h0:n-ρ.length=0:=by haveI:=(List.getElem?_eq_some_iff.mp e).1;simp at this;exact Lq this
    replace e:=h0▸e;cases e;exact .inr ⟨U7 h0 l,rfl⟩
  have jW:∀(n:Nat) (a:Addr×Addr),ρ[n]?=some (some a)->a.2≠p.2:=fun n a e z=>(S.mut ⟨n,a,e,rfl⟩).elim fun ob ho=>(nn (hf▸(z▸ho)));rcases one n a ea with⟨l,qJ⟩|⟨rfl,rfl⟩<;>rcases one m b eb with⟨l',BW⟩|⟨rfl,rfl⟩
  ·exact S.inj n m a b qJ BW q
  ·exact absurd q (jW n a qJ)
  ·exact absurd q.symm (jW m b BW)
  ·rfl
 a8:=fun a x ⟨n,q,en,ea⟩=>by
  by_cases l:n<ρ.length
  ·rw[getElem?_append_left l]at en;exact S.a8 a x ⟨n,q,en,ea⟩
  ·rw[getElem?_append_right (le_of_not_lt l)]at en;haveI:=List.mem_of_getElem? en;simp only[mem_singleton,Option.some.injEq]at this;obtain rfl:=Eq.symm this;subst ea;exact hp x
 there:=fun a x=>(S.there a x).elim fun o e=>⟨o,k a o e⟩
theorem aK.add{χ:Addr->Prop}(p:Addr×Addr)(hp:h.get? p.2=none)(k:∀b o,h.get? b=some o->h'.get? b=some o):aK χ ρ h (ρ++[some p]) h' where
 len:=by simp
 old:=fun n q l e=>by rw[getElem?_append_left l]at e;exact e
 new:=fun n q l e=>by rw[getElem?_append_right l]at e;haveI:=List.mem_of_getElem? e;simp only[mem_singleton,Option.some.injEq]at this;obtain rfl:=Eq.symm this;exact hp
 i5:=fun a o e=>⟨o,k a o e⟩
 keep:=fun a o e y_ y_=>k a o e
theorem ff.ua{n:Nat}{a:Addr}(m:ff (ρ.set n none) a):ff ρ a:=by
 obtain⟨k,p,e,rfl⟩:=m;by_cases q:n=k
 ·subst q;by_cases l:n<ρ.length
  ·replace e:=(getElem?_set_self l)▸e;cases e
  ·rw[getElem?_eq_none (by simpa using le_of_not_lt l)]at e;exact nn e
 ·exact⟨k,p,((getElem?_set_ne q)▸e),rfl⟩
theorem Keeps.kill(n:Nat):Keeps π π ρ (ρ.set n none) h h where
 fixed:=fun y_ y_ y_ f z=>f (z.imp id ff.ua)
 keep:=fun y_ y_ e y_=>e
 len:=by simp
 old:=fun m p y_ e=>by
  by_cases q:n=m
  ·subst q;by_cases l:n<ρ.length
   ·replace e:=(getElem?_set_self l)▸e;cases e
   ·rw[getElem?_eq_none (by simpa using le_of_not_lt l)]at e;exact nn e
  ·exact((getElem?_set_ne q)▸e)
theorem aK.kill{χ:Addr->Prop}(n:Nat):aK χ ρ h (ρ.set n none) h where
 len:=by simp
 old:=(Keeps.kill (π:=bG) (h:=h) n).old
 new:=fun m p l e=>by rw[getElem?_eq_none (by simpa using l)]at e;exact nn e
 i5:=fun y_ o e=>⟨o,e⟩
 keep:=fun y_ y_ e y_ y_=>e
theorem aZ.kill(S:aZ T π ρ h σ)(n:Nat):aZ T π (ρ.set n none) h (σ.set n .dead) where
 len:=by simp[S.len]
 objs:=fun m o e d=>by
  by_cases q:n=m
  ·subst q;by_cases l:n<σ.length
   ·rw[getElem?_set_self l]at e;exact absurd (oj e).symm d
   ·rw[getElem?_eq_none (by simpa using le_of_not_lt l)]at e;exact nn e
  ·rw[getElem?_set_ne q]at e;obtain⟨p,e',r⟩:=S.objs m o e d;exact⟨p,Rw (getElem?_set_ne q) e',r.mono (.kill n) p fun y_ ho=>ho⟩
 dead:=fun m e=>by
  by_cases q:n=m
  ·subst q;haveI l:n<σ.length:=by simpa using((List.getElem?_eq_some_iff.mp e).1)
   exact Rw (getElem?_set_self (S.len▸l)) rfl
  ·rw[getElem?_set_ne q]at e ⊢;exact S.dead m e
 inj:=fun a b p q ea eb=>S.inj a b p q
  ((Keeps.kill (π:=bG) (h:=h) n).old a p (by simpa using((List.getElem?_eq_some_iff.mp ea).1)) ea)
  ((Keeps.kill (π:=bG) (h:=h) n).old b q (by simpa using((List.getElem?_eq_some_iff.mp eb).1)) eb)
 a8:=fun a x m=>S.a8 a x m.ua
 there:=S.there
theorem l7(S:aZ T π ρ h σ){n:Nat}{p:Addr×Addr}(e:ρ[n]?=some (some p)):¬ff (ρ.set n none) p.2:=fun hV=>by
 obtain⟨m,q,em,eq⟩:=hV;by_cases z:n=m
 ·subst z;haveI em:=(getElem?_set_self (List.getElem?_eq_some_iff.mp e).1)▸em;exact nomatch em
 ·exact z (S.inj m n q p ((getElem?_set_ne z)▸em) e eq).symm
end
section
noncomputable abbrev aU:Value->Shared->Prop:=fun y_ y_=>False
structure Up(h h':Heap):Prop where
 keep:∀b o,h.get? b=some o->h'.get? b=some o
theorem Up.refl(h:Heap):Up h h:=⟨fun y_ y_ e=>e⟩
theorem Up.trans{h ay aY:Heap}(a:Up h ay)(b:Up ay aY):Up h aY:=⟨fun x o e=>b.keep x o (a.keep x o e)⟩
theorem Up.push(h:Heap)(o:Obj):Up h (h.push o):=⟨fun y_ y_ e=>Heap.get?_push_of_some _ e⟩
theorem Up.grow{h h':Heap}(u:Up h h')(χ:Addr->Prop)(ρ:bZ):aK χ ρ h ρ h':=.up u.keep
structure kg(A:Around):Prop where
 handled:A.handled=none
 units:A.units+20<cLine
 depth:A.depth<recursionLimit
section
variable {T:Tab} {π:Addr->Prop} {ρ:bZ} {σ:St} {af:Program} {w:World} {A:Around} {s:Shared}
def bu(T:Tab)(π:Addr->Prop)(ρ:bZ)(af:Program)(w:World)(A:Around)(s:Shared)(t:Sem Value)(r:V):Prop:=∀Q:Value->Shared->Prop,(∀r' h' tk',Rel T π ρ h' r r'->Up s.heap h'->Q r' {s with heap:=h',toks:=tk'})->wpAny (model af w) A t Q aU s
theorem cM{S:aZ T π ρ s.heap σ}:¬(π s.heap.objs.size\/ff ρ s.heap.objs.size):=fun z=>
 z.elim (fun x=>(S.there _ x).elim fun _ e=>(lt_irrefl _ (Heap.lt_size e))) fun m=>lt_irrefl _ (S.Hb m)
theorem cm(h:Heap):h.get? h.objs.size=none:=by
 cases e:h.get? h.objs.size with
 |none=>rfl
 |some o=>exact absurd (Heap.lt_size e) (lt_irrefl _)
theorem aQ:∀{l:List V} {vs:List Value} {h:Heap},bj T π ρ h l vs->vs.length=l.length
 |[]=>by intro r;cases r;rfl
 |_::l=>by intro kW;obtain⟨v,t,e,_,r⟩:=kW;subst e;simp[aQ r]
theorem dH:∀{l m:List V} {vs ws:List Value} {h:Heap},bj T π ρ h l vs->bj T π ρ h m ws->bj T π ρ h (l++m) (vs++ws)
 |[],_,_,_,_,r,q=>by cases r;exact q
 |_::l,m,_,ws,_,⟨v,t,e,a,r⟩,q=>by subst e;exact⟨v,t++ws,rfl,a,dH r q⟩
theorem ez:∀{l:List V} {vs:List Value} {h:Heap} {j:Nat} {x:V},bj T π ρ h l vs->l[j]?=some x->∃v,vs[j]?=some v/\Rel T π ρ h x v
 |[],_,_,_=>@fun _ e=>nn e
 |y::l,_,_,0=>by intro Au q;obtain⟨v,t,e,a,r⟩:=Au;subst e;replace q:=oj q;subst q;exact⟨v,rfl,a⟩
 |y::l,_,_,j+1=>by intro Au q;obtain⟨v,t,e,a,r⟩:=Au;subst e;exact ez (j:=j) r q
theorem tC:∀{l:List V} {vs:List Value} {h:Heap} {j:Nat} {v:Value},bj T π ρ h l vs->vs[j]?=some v->∃x,l[j]?=some x/\Rel T π ρ h x v
 |[],_,_,_=>by intro r e;cases r;exact nn e
 |y::l,_,_,0=>by intro Au q;obtain⟨v,t,e,a,r⟩:=Au;subst e;replace q:=oj q;subst q;exact⟨y,rfl,a⟩
 |y::l,_,_,j+1=>by intro Au q;obtain⟨v,t,e,a,r⟩:=Au;subst e;exact tC (j:=j) r q
theorem js{h:Heap}:∀{l:List V} {vs:List Value} (n:Nat),bj T π ρ h l vs->bj T π ρ h (l.take n) (vs.take n):=by
 intro l vs n
 induction n generalizing l vs with
 |zero=>exact fun _=>rfl
 |succ n ih=>cases l with
  |nil=>intro r;cases r;rfl
  |cons x l=>intro r;obtain⟨v,t,e,a,r⟩:=r;subst e;exact⟨v,t.take n,rfl,a,ih r⟩
theorem jA:∀{l:List V} {vs:List Value} {h:Heap} (n:Nat),bj T π ρ h l vs->bj T π ρ h (l.drop n) (vs.drop n)
 |_,_,_,0=>@fun r=>r
 |[],_,_,n+1=>by intro r;cases r;rfl
 |_::l,_,_,n+1=>by intro GW;obtain⟨v,t,e,a,r⟩:=GW;subst e;exact jA n r
theorem lq{x:V}{v:Value}{h:Heap}(r:Rel T π ρ h x v):∀n:Nat,bj T π ρ h (List.replicate n x) (List.replicate n v)
 |0=>rfl
 |n+1=>⟨v,_,rfl,r,lq r n⟩
theorem uX:∀{l:List V} {vs:List Value} {h:Heap} {x:V} {v:Value} (n:Nat),bj T π ρ h l vs->Rel T π ρ h x v->bj T π ρ h (l.set n x) (vs.set n v)
 |[],_,_,_,_,n=>by intro r q;cases r;exact rfl
 |_::l,_,_,_,v,0=>by intro Mx q;obtain⟨_,t,e,a,r⟩:=Mx;subst e;exact⟨v,t,rfl,q,r⟩
 |_::l,_,_,_,v,n+1=>by intro Mx q;obtain⟨u,t,e,a,r⟩:=Mx;subst e;exact⟨u,t.set n v,rfl,a,uX n r q⟩
theorem tT{l:List V}{vs:List Value}{h:Heap}(r:bj T π ρ h l vs):bj T π ρ h l.dropLast vs.dropLast:=Rw dropLast_eq_take (Rw dropLast_eq_take (Rw (aQ r) (js _ r)))
theorem vo:∀{l:List V} {vs:List Value} {h:Heap},bj T π ρ h l vs->bj T π ρ h l.reverse vs.reverse
 |[],_,_,r=>by cases r;rfl
 |_::l,_,_,⟨v,t,e,a,r⟩=>by subst e;simp only[reverse_cons];exact dH (vo r) ⟨v,[],rfl,a,rfl⟩
theorem mF{vs:List Value}{Q:Value->Shared->Prop}{E:Value->Shared->Prop}(h:Q (.ref s.heap.objs.size) {s with heap:=s.heap.push {cls:=.type "tuple",data:=.seq vs.toArray}})(hl:vs.length<=lim):wpAny (model af w) A (newTuple vs) Q E s:=wpAny_newObj_type h (by show vs.toArray.size<=sizeLine;refine Rw size_toArray (Rw sizeLine_eq (?_));unfold lim at hl;exact Q4 hl)
theorem lG{vs:List Value}{Q:Value->Shared->Prop}{E:Value->Shared->Prop}(h:Q (.ref s.heap.objs.size) {s with heap:=s.heap.push {cls:=.type "list",data:=.seq vs.toArray}})(hl:vs.length<=lim):wpAny (model af w) A (newList vs) Q E s:=wpAny_newObj_type h (by show vs.toArray.size<=sizeLine;refine Rw size_toArray (Rw sizeLine_eq (?_));unfold lim at hl;exact Q4 hl)
theorem Er(S:aZ T π ρ s.heap σ){l:List V}{vs:List Value}(r:bj T π ρ s.heap l vs)(hl:l.length<=lim):bu T π ρ af w A s (newTuple vs) (.aj l):=fun Q k=>
 mF (k _ _ s.toks ⟨_,vs,0,rfl,cM (S:=S),Heap.get?_push_size _ rfl,r.mono (.up (Up.push _ _).keep) _ _⟩ (.push _ _)) (aQ r▸hl)
theorem H5(S:aZ T π ρ s.heap σ){l:List V}{vs:List Value}(r:bj T π ρ s.heap l vs)(hl:l.length<=lim):bu T π ρ af w A s (newList vs) (.lst l):=fun Q k=>
 lG (k _ _ s.toks ⟨_,vs,0,rfl,cM (S:=S),Heap.get?_push_size _ rfl,r.mono (.up (Up.push _ _).keep) _ _⟩ (.push _ _)) (aQ r▸hl)
end
end
section
theorem ite_no{α:Type}{M:Model}{A:Around}{E:Value->Shared->Prop}{s:Shared}{c:Bool}{a b:Sem α}{Q:α->Shared->Prop}(e:c=false)(h:wpAny M A b Q E s):wpAny M A (if c=true then a else b) Q E s:=by subst e;exact h
section
open PySem.AutoSeq1
theorem qY(l:Addr)(v:Value)(n:Nat)(u:Tok):Meets (Builtin.«tuple.__mul__» ⟨[.ref l,.int 0 u],[]⟩) (fun y_ R s=>IsT s.heap l #[v] n/\R (.ok (.ret (Value.ref s.heap.objs.size))) {s with heap:=s.heap.push {cls:=.type "tuple",data:=.seq #[]}}):=.of_wp fun af w A R s h=>by haveI hl:=h.1;wp_walk using wpAny_loadPart' hl;exact⟨_,rfl,h.2⟩
theorem tO(l:Addr)(v:Value)(n:Nat)(u:Tok):Meets (Builtin.«tuple.__mul__» ⟨[.ref l,.int 1 u],[]⟩) (fun y_ R s=>IsT s.heap l #[v] n/\R (.ok (.ret (Value.ref l))) s):=.of_wp fun af w A R s h=>by haveI hl:=h.1;wp_walk using wpAny_loadPart' hl;exact⟨_,rfl,h.2⟩
theorem pH(v:Value)(k:Nat):(List.replicate k #[v]).foldl (· ++·) #[]=(List.replicate k v).toArray:=by
 haveI:∀(k:Nat) (a:Array Value),(List.replicate k #[v]).foldl (· ++·) a=a++(List.replicate k v).toArray:=by
  intro k
  induction k with
  |zero=>intro a;rfl
  |succ k ih=>intro a;rw[replicate_succ,foldl_cons,ih,replicate_succ];apply Array.ext';simp
 rw[this];simp
theorem qO(l:Addr)(v:Value)(n:Nat)(x:Int)(u:Tok)(h1:2<=x)(h2:x<=1000):Meets (Builtin.«tuple.__mul__» ⟨[.ref l,.int x u],[]⟩) (fun y_ R s=>IsT s.heap l #[v] n/\R (.ok (.ret (Value.ref s.heap.objs.size))) {s with heap:=s.heap.push {cls:=.type "tuple",data:=.seq (List.replicate x.toNat v).toArray}}):=.of_wp fun af w A R s h=>by
  haveI hl:=h.1;haveI h:=h.2;haveI e0:(decide (x< -(2 ^ 63))||decide (x>=2 ^ 63))=false:=by simp;exact Qs h1 h2
  haveI e1:((#[v]:Array Value).isEmpty||x==1)=false:=by simp;exact NB h1
  haveI e2:(decide (x<=0)||(#[v]:Array Value).isEmpty)=false:=by simp;exact Tw h1
  haveI e3:¬(((#[v]:Array Value).size:Int)*x>(2 ^ 63-1) / 8):=by simp;exact Kh h2
  haveI e4:Builtin.Tuple.tupleTooMany (((#[v]:Array Value).size:Int)*x)=false:=by unfold Builtin.Tuple.tupleTooMany;refine Rw sizeLine_eq (?_);simp;exact Ls h2
  haveI e5:¬((List.replicate x.toNat #[v]).foldl (· ++·) #[]:Array Value).size>sizeLine:=by rw[pH,sizeLine_eq];simp;exact Ls h2
  haveI h:=(Eq.symm (pH v x.toNat))▸h
  wp_walk using wpAny_loadPart' hl
  refine ite_no e0 ?_
  wp_walk using wpAny_loadPart' hl
  refine ite_no e1 ?_
  wp_walk using wpAny_loadPart' hl
  refine ite_no e2 ?_
  wp_walk using wpAny_loadPart' hl
  refine wpAny_ite (Rw (if_neg e3) (?_))
  wp_walk using wpAny_loadPart' hl
  refine ite_no e4 ?_
  wp_walk using wpAny_loadPart' hl
  first
   |exact⟨_,rfl,h⟩
   |(refine wpAny_ite_false (decide_eq_false e5) ?_;wp_walk;exact⟨_,rfl,h⟩)
end
section
variable {af:Program} {w:World} {A:Around} {E:Value->Shared->Prop} {s:Shared} {Q:Value->Shared->Prop} {l:Addr} {v:Value} {n:Nat} {x:Int} {u:Tok}
theorem rK(hl:IsL s.heap l #[v] n)(h0:0<=x)(h1:x<=1000)
  (h:Q (.ref s.heap.objs.size) {s with heap:=s.heap.push {cls:=.type "list",data:=.seq (List.replicate x.toNat v).toArray}}):wpAny (model af w) A (binaryOp .Mult (.ref l) (.int x u)) Q E s:=by
 refine wpAny_binaryOp_repeat_ref (by decide) ⟨_,hl,rfl⟩ (fun s'=>typeIs_int s' x u) noFill_list_mul F.fills_int_mul F.slot_int_rmul repeat_list F.slot_int_index.lookup
  (call_meets F.slot_int_rmul (typeIs_int s x u) F.entry_int_rmul (F.args_int_rmul_2 _ _) (int___rmul___int_list x u l #[v] n)
   ⟨hl,rfl,⟨_,hl,rfl⟩,call_meets F.slot_list_mul ⟨_,hl,rfl⟩ F.entry_list_mul (F.args_list_mul_2 _ _)
    (AutoListH.list___mul___list_int_3 l #[v] n x u (by simp[Builtin.List.listFitsIndex];exact V1 h0 h1) (by simp;exact Kh h1) (by simp[Builtin.List.listTooLong];exact Ls h1))
    ⟨hl,?_⟩⟩)
 haveI:(List.replicate (if(#[v]:Array Value).isEmpty=true then 0 else x.toNat) #[v]).foldl (fun x1 x2=>x1++x2) #[]=(List.replicate x.toNat v).toArray:=pH v x.toNat;exact Rw this h
theorem q9(a:Int)(t:Tok)(l:Addr)(items:Array Value)(n:Nat):Meets (Builtin.«int.__rmul__» ⟨[.int a t,.ref l],[]⟩) (fun y_ R s=>IsT s.heap l items n/\R (.ok (.ret Value.notImplemented)) s):=.of_wp fun af w A R s h=>by haveI hl:=h.1;wp_walk;exact⟨_,rfl,h.2⟩
theorem og:fillsNumberSlot (.type "tuple") "mul"=pure false:=PySem.fillsNumberSlot_seq F.slot_tuple_mul.lookup (by decide+kernel) F.slot_tuple_rmul.lookup (by decide+kernel)
theorem uF:seqRepeat? (.type "tuple")=pure (some (.builtin "tuple.__mul__")):=by unfold seqRepeat?;exact Rw (PySem.seqSlot_of (T:="tuple") (id:="tuple.__mul__") F.slot_tuple_mul.lookup (by decide+kernel)) (Rw (PySem.seqSlot_of (T:="tuple") F.slot_tuple_rmul.lookup (by decide+kernel)) rfl)
theorem mL{M:PySem.Spec}(hl:IsT s.heap l #[v] n)(hm:Meets (Builtin.«tuple.__mul__» ⟨[.ref l,.int x u],[]⟩) M)
  (h:M A (wants Q E) s):wpAny (model af w) A (binaryOp .Mult (.ref l) (.int x u)) Q E s:=wpAny_binaryOp_repeat_ref (by decide) ⟨_,hl,rfl⟩ (fun s'=>typeIs_int s' x u) og F.fills_int_mul F.slot_int_rmul uF F.slot_int_index.lookup
  (call_meets F.slot_int_rmul (typeIs_int s x u) F.entry_int_rmul (F.args_int_rmul_2 _ _) (q9 x u l #[v] n)
   ⟨hl,rfl,⟨_,hl,rfl⟩,call_meets F.slot_tuple_mul ⟨_,hl,rfl⟩ F.entry_tuple_mul (F.args_tuple_mul_2 _ _) hm h⟩)
end
end
section
noncomputable def rg.op:rg->Operator
 |.add=>.Add|.sub=>.Sub|.mul=>.Mult|.fdiv=>.FloorDiv|.mod=>.Mod
noncomputable def oH.op:oH->CmpOp
 |.eq=>.Eq|.ne=>.NotEq|.lt=>.Lt|.le=>.LtE|.gt=>.Gt|.ge=>.GtE|.is=>.Is|.tI=>.IsNot|.isin=>.In|.pq=>.NotIn
section
variable {T:Tab} {π:Addr->Prop} {ρ:bZ} {σ:St} {af:Program} {w:World} {A:Around} {s:Shared}
theorem sig_list(S:aZ T π ρ s.heap σ){n:Nat}{l:List V}(e:σ[n]?=some (.list l)):mQ fun a vs k=>eF (ρ[n]?=some (some (a,a))) (IsL s.heap a (List.toArray vs) k) (bj T π ρ s.heap l vs):=by refine cps fun G kG=>?_;obtain⟨⟨p,q⟩,ep,z,vs,k,hl,r⟩:=S.objs n _ e (by intro z;cases z);refine kG ?_;simp only at z;subst z;exact⟨_,vs,k,ep,hl,r⟩
theorem dZ(S:aZ T π ρ s.heap σ){x:V}{x':Value}{l:List V}(r:Rel T π ρ s.heap x x')(e:cN σ x=some l):mQ fun a vs n=>eF (x'=.ref a) (IsL s.heap a (List.toArray vs) n) (bj T π ρ s.heap l vs):=by
 cases x with
 |aj m=>exact nn e
 |lst m=>replace e:=oj e;subst e;obtain⟨a,vs,n,e,_,o,r⟩:=r;exact⟨a,vs,n,e,o,r⟩
 |loc n=>
  cases q:σ[n]? with
  |none=>haveI e:=q▸((show cN σ (.loc n)=(match σ[n]? with|some (.list l)=>some l|_=>none)from rfl)▸e);exact nn e
  |some o=>
   haveI e:=q▸((show cN σ (.loc n)=(match σ[n]? with|some (.list l)=>some l|_=>none)from rfl)▸e)
   cases o with
   |list l'=>replace e:=oj e;subst e;obtain⟨a,vs,k,ep,hl,rr⟩:=sig_list S q;exact⟨a,vs,k,cD r ep,hl,rr⟩
   |_=>exact nn e
 |_=>exact nn e
theorem fH{x:Int}(h:small x=true):-(2 ^ 40)<=x/\x<=2 ^ 40:=by simp only[small,Bool.and_eq_true,decide_eq_true_eq]at h;exact h
theorem fw{r:V}{t:Sem Value}{v:Value}(rv:Rel T π ρ s.heap r v)(h:∀Q:Value->Shared->Prop,Q v s->wpAny (model af w) A t Q aU s):bu T π ρ af w A s t r:=fun Q k=>h Q (k v s.heap s.toks rv (.refl _))
theorem bE{r:V}{t:Sem Value}{v:Value}{n:Nat}(rv:Rel T π ρ s.heap r v)(h:∀Q:Value->Shared->Prop,Q v {s with toks:=n}->wpAny (model af w) A t Q aU s):bu T π ρ af w A s t r:=fun Q k=>h Q (k v s.heap n rv (.refl _))
theorem fm{r:V}{t:Sem Value}{o:Obj}{n:Nat}(rv:Rel T π ρ (s.heap.push o) r (.ref s.heap.objs.size))(h:∀Q:Value->Shared->Prop,Q (.ref s.heap.objs.size) {s with heap:=s.heap.push o,toks:=n}->wpAny (model af w) A t Q aU s):bu T π ρ af w A s t r:=fun Q k=>h Q (k _ _ n rv (.push _ _))
theorem gX(S:aZ T π ρ s.heap σ){l:List V}{vs:List Value}(r:bj T π ρ s.heap l vs):Rel T π ρ (s.heap.push {cls:=.type "tuple",data:=.seq vs.toArray}) (.aj l) (.ref s.heap.objs.size):=⟨_,vs,0,rfl,cM (S:=S),Heap.get?_push_size _ rfl,r.mono (.up (Up.push _ _).keep) _ _⟩
theorem o9(S:aZ T π ρ s.heap σ){l:List V}{vs:List Value}(r:bj T π ρ s.heap l vs):Rel T π ρ (s.heap.push {cls:=.type "list",data:=.seq vs.toArray}) (.lst l) (.ref s.heap.objs.size):=⟨_,vs,0,rfl,cM (S:=S),Heap.get?_push_size _ rfl,r.mono (.up (Up.push _ _).keep) _ _⟩
theorem AB(S:aZ T π ρ s.heap σ){x y:List V}{a' b':Value}(ra:Rel T π ρ s.heap (.aj x) a')(rb:Rel T π ρ s.heap (.aj y) b')(h:x.length+y.length<=lim):bu T π ρ af w A s (binaryOp .Add a' b') (.aj (x++y)):=by
 obtain⟨a,vs,n,rfl,fa,ha,r⟩:=ra;obtain⟨b,ws,m,rfl,fb,hb,q⟩:=rb;by_cases h1:vs=[]
 ·obtain rfl:=Eq.symm h1;obtain rfl:x=[]:=length_eq_zero_iff.mp (aQ r).symm;exact fw ⟨b,ws,m,rfl,fb,hb,q⟩ fun Q k=>(concat_meets ⟨_,ha,rfl⟩ ⟨_,hb,rfl⟩ noFill_tuple_add seq_tuple_add F.slot_tuple_add F.entry_tuple_add (F.args_tuple_add_2 _ _) (AutoSeq1.tuple___add___tuple_tuple_0 a _ n b _ m rfl) ⟨ha,hb,k⟩)
 ·haveI Qa:¬(List.toArray vs).isEmpty=true:=by simpa using h1
  by_cases h2:ws=[]
  ·subst h2;obtain rfl:y=[]:=length_eq_zero_iff.mp (aQ q).symm;rw[append_nil];exact fw ⟨a,vs,n,rfl,fa,ha,r⟩ fun Q k=>(concat_meets ⟨_,ha,rfl⟩ ⟨_,hb,rfl⟩ noFill_tuple_add seq_tuple_add F.slot_tuple_add F.entry_tuple_add (F.args_tuple_add_2 _ _) (AutoSeq1.tuple___add___tuple_tuple_1 a _ n b _ m Qa rfl) ⟨ha,hb,k⟩)
  ·haveI YQ:¬(List.toArray ws).isEmpty=true:=by simpa using h2
   refine fm (n:=s.toks) (gX S (dH r q)) fun Q k=>(P.add_tuple ha hb Qa YQ ?_ ?_)
   ·rw[append_toArray];exact k
   ·refine Rw size_toArray (Rw size_toArray (Rw (aQ r) (Rw (aQ q) (Rw sizeLine_eq (?_)))));unfold lim at h;exact Mz h
theorem Bk{x y:List Nat}{a' b':Value}{r:V}(ra:Rel T π ρ s.heap (.str x) a')(rb:Rel T π ρ s.heap (.str y) b')(e:(if x.length+y.length<=lim then some (V.str (x++y))else none)=some r):bu T π ρ af w A s (binaryOp .Add a' b') r:=by
 obtain⟨c,rfl⟩:=jH e;obtain⟨t,rfl⟩:=ra;obtain⟨u,rfl⟩:=rb;intro Q k;refine P.add_str ?_
 split
 ·rename_i z;have:x=[]:=by simpa[Str.length]using z
  subst this;exact k _ s.heap _ ⟨u,rfl⟩ (.refl _)
 ·split
  ·rename_i z;haveI:y=[]:=by simpa[Str.length]using z
   subst this;exact k _ s.heap _ ⟨t,by rw[append_nil]⟩ (.refl _)
  ·refine⟨?_,k _ s.heap _ ⟨_,by show Value.str ⟨x.toArray++y.toArray⟩ _=_;rw[append_toArray]⟩ (.refl _)⟩;show(x.toArray++y.toArray).size<=sizeLine;exact Rw Array.size_append (Rw size_toArray (Rw size_toArray (Rw sizeLine_eq (Mz c))))
theorem Bu(S:aZ T π ρ s.heap σ){x:V}{n:Int}{a' b':Value}{r:V}(ra:Rel T π ρ s.heap (.aj [x]) a')(rb:Rel T π ρ s.heap (.int n) b')(e:(if 0<=n/\n<=1000 then some (V.aj (List.replicate n.toNat x))else none)=some r):bu T π ρ af w A s (binaryOp .Mult a' b') r:=by
 obtain⟨c,rfl⟩:=jH e;obtain⟨a,vs,m,rfl,fa,ha,v,t,rfl,rv,z⟩:=ra;obtain⟨u,rfl⟩:=rb;cases z;by_cases h0:n=0
 ·exact Rw h0 (fm (gX S rfl) fun Q k=>mL ha (qY a v m u) ⟨ha,k⟩)
 ·by_cases h1:n=1
  ·exact Rw h1 (fw ⟨a,[v],m,rfl,fa,ha,v,[],rfl,rv,rfl⟩ fun Q k=>mL ha (tO a v m u) ⟨ha,k⟩)
  ·exact fm (gX S (lq rv n.toNat)) fun Q k=>mL ha (qO a v m n u (Nf c.1 h0 h1) c.2) ⟨ha,k⟩
theorem Aj(S:aZ T π ρ s.heap σ){x:V}{n:Int}{a' b':Value}{r:V}(ra:Rel T π ρ s.heap (.lst [x]) a')(rb:Rel T π ρ s.heap (.int n) b')(e:(if 0<=n/\n<=1000 then some (V.lst (List.replicate n.toNat x))else none)=some r):bu T π ρ af w A s (binaryOp .Mult a' b') r:=by obtain⟨c,rfl⟩:=jH e;obtain⟨a,vs,m,rfl,fa,ha,v,t,rfl,rv,z⟩:=ra;obtain⟨u,rfl⟩:=rb;cases z;exact fm (o9 S (lq rv n.toNat)) fun Q k=>rK ha c.1 c.2 k
theorem vt(S:aZ T π ρ s.heap σ){x y r:V}{a' b':Value}(ra:Rel T π ρ s.heap x a')(rb:Rel T π ρ s.heap y b')(e:vQ σ x y=some r):bu T π ρ af w A s (binaryOp .Add a' b') r:=by
 unfold vQ at e
 cases h1:cN σ x with
 |none=>haveI e:=h1▸e;exact nn e
 |some l=>
  replace e:=h1▸e
  cases h2:cN σ y with
  |none=>haveI e:=h2▸e;exact nn e
  |some m=>
   replace e:=h2▸e;obtain⟨c,rfl⟩:=jH (e);obtain⟨a,vs,n,rfl,ha,q1⟩:=dZ S ra h1;obtain⟨b,ws,m,rfl,hb,q2⟩:=dZ S rb h2;refine fm (n:=s.toks) (o9 S (dH q1 q2)) fun Q k=>P.add_list ha hb ?_ ?_
   ·rw[append_toArray];exact k
   ·exact Rw size_toArray (Rw size_toArray (Rw (aQ q1) (Rw (aQ q2) (Rw sizeLine_eq (Mz c)))))
theorem Rk{o:rg}{x y:Int}{a' b':Value}{r:V}(ra:Rel T π ρ s.heap (.int x) a')(rb:Rel T π ρ s.heap (.int y) b')(e:binop o σ (.int x) (.int y)=some r):bu T π ρ af w A s (binaryOp o.op a' b') r:=by
 obtain⟨t,rfl⟩:=ra;obtain⟨u,rfl⟩:=rb
 cases o with
 |add=>replace e:=oj e;subst e;exact bE ⟨_,rfl⟩ fun Q k=>PyProof.Rows.add_int k
 |sub=>replace e:=oj e;subst e;exact bE ⟨_,rfl⟩ fun Q k=>PyProof.Rows.sub_int k
 |mul=>obtain⟨c,rfl⟩:=jH (e);haveI c:=Bool.and_eq_true_iff.mp c;haveI h1:=fH c.1;exact bE ⟨_,rfl⟩ fun Q k=>P.mul_int k
 |fdiv=>obtain⟨c,rfl⟩:=jH (e);simp only[Bool.and_eq_true,decide_eq_true_eq]at c;exact bE ⟨_,rfl⟩ fun Q k=>PyProof.Rows.floordiv_int (MA c.1.2) k (.inl (PyProof.noPylong_small (Sp c.1.2 c.2)))
 |mod=>obtain⟨c,rfl⟩:=jH (e);exact bE ⟨_,rfl⟩ fun Q k=>PyProof.Rows.mod_int (bne_iff_ne.mp c) k
theorem Dv(R:kg A)(S:aZ T π ρ s.heap σ){o:rg}{a b r:V}{a' b':Value}(ra:Rel T π ρ s.heap a a')(rb:Rel T π ρ s.heap b b')(e:binop o σ a b=some r):bu T π ρ af w A s (binaryOp o.op a' b') r:=by
 cases a with
 |int x=>cases b with
  |int y=>exact Rk ra rb e
  |_=>cases o<;>exact nn e
 |str x=>cases o with
  |add=>cases b with
   |str y=>exact Bk ra rb e
   |_=>exact nn e
  |_=>exact nn e
 |aj x=>cases o with
  |add=>cases b with
   |aj y=>obtain⟨c,rfl⟩:=jH (e);exact AB S ra rb c
   |_=>exact nn e
  |mul=>cases x with
   |nil=>exact nn e
   |cons x l=>cases l with
    |nil=>cases b with
     |int n=>exact Bu S ra rb e
     |_=>exact nn e
    |cons y l=>exact nn e
  |_=>exact nn e
 |lst x=>cases o with
  |add=>exact vt S ra rb e
  |mul=>cases x with
   |nil=>exact nn e
   |cons x l=>cases l with
    |nil=>cases b with
     |int n=>exact Aj S ra rb e
     |_=>exact nn e
    |cons y l=>exact nn e
  |_=>exact nn e
 |_=>cases o with
  |add=>exact vt S ra rb e
  |_=>exact nn e
end
end
end
section
open PySem PySem.W PySem.Calls PyProof.Rows PySem.SeqAt
section
mutual
noncomputable def V.data:V->PyData
 |.bool b=>.bool b
 |.int i=>.int i
 |.str s=>.str ⟨s.toArray⟩
 |.aj l=>.tuple (V.hY l)
 |.lst l=>.list (V.hY l)
 |_=>.none
noncomputable def V.hY:List V->List PyData
 |[]=>[]
 |x::r=>x.data::V.hY r
end
section
variable {T:Tab} {π:Addr->Prop} {ρ:bZ} {σ:St} {af:Program} {w:World} {A:Around} {s:Shared}
theorem qb{h:Heap}{x:V}{v:Value}(f:x.flat=true)(r:Rel T π ρ h x v):(∃as,Reads h v x.data as)/\x.data.canLay0=true/\x.data.depth<=0:=by
 cases x with
 |none=>cases r;exact⟨⟨_,.none⟩,rfl,le_refl _⟩
 |int i=>obtain⟨t,rfl⟩:=r;exact⟨⟨_,.int i t⟩,rfl,le_refl _⟩
 |str x=>obtain⟨t,rfl⟩:=r;refine⟨⟨_,.str _ t⟩,?_,le_refl _⟩;haveI f:=fun c hc=>of_decide_eq_true (all_eq_true.mp f c hc);show PyData.canLay0 (.str ⟨x.toArray⟩)=true;simp only[PyData.canLay0,PyData.strOk,List.all_toArray,all_eq_true,decide_eq_true_eq];exact fun c hc=>lt_trans (f c hc) (by decide)
 |_=>exact absurd f bf
theorem mw{h:Heap}{P:V->Bool}{d:Nat}(hP:∀{x:V} {v:Value},P x=true->Rel T π ρ h x v->(∃as,Reads h v x.data as)/\x.data.canLay0=true/\x.data.depth<=d):∀{l:List V} {vs:List Value},l.all P=true->bj T π ρ h l vs->(∃as,ReadsAll h vs (V.hY l) as)/\PyData.canLayAll0 (V.hY l)=true/\PyData.depthAll (V.hY l)<=d
 |[]=>by intro _ r;cases r;exact⟨⟨_,.nil⟩,rfl,zero_le _⟩
 |x::l=>by
  intro f kW;obtain⟨v,t,e,a,r⟩:=kW;subst e;simp only[all_cons,Bool.and_eq_true]at f;haveI oo:=hP f.1 a;obtain⟨as,r1⟩:=oo.1;haveI c1:=oo.2.1;haveI d1:=oo.2.2;haveI oo:=mw hP f.2 r;obtain⟨bs,r2⟩:=oo.1;refine⟨⟨_,.cons r1 r2⟩,?_,?_⟩
  ·show(x.data.canLay0&&PyData.canLayAll0 (V.hY l))=true;exact Rw c1 (Rw oo.2.1 rfl)
  ·exact Nat.max_le.mpr ⟨d1,oo.2.2⟩
theorem ox{h:Heap}{P:V->Bool}{d:Nat}(hP:∀{x:V} {v:Value},P x=true->Rel T π ρ h x v->(∃as,Reads h v x.data as)/\x.data.canLay0=true/\x.data.depth<=d)
  {x:V}{v:Value}(f:(match x with|.aj l=>l.all P|.lst l=>l.all P|v=>v.flat)=true)(r:Rel T π ρ h x v):(∃as,Reads h v x.data as)/\x.data.canLay0=true/\x.data.depth<=d+1:=by
 cases x with
 |aj l=>obtain⟨a,vs,n,rfl,_,o,q⟩:=r;obtain⟨⟨as,r1⟩,c1,d1⟩:=mw hP f q;exact⟨⟨_,.tuple o rfl rfl r1⟩,c1,succ_le_succ d1⟩
 |lst l=>obtain⟨a,vs,n,rfl,_,o,q⟩:=r;obtain⟨⟨as,r1⟩,c1,d1⟩:=mw hP f q;exact⟨⟨_,.list o rfl rfl r1⟩,c1,succ_le_succ d1⟩
 |_=>first
  |(haveI oo:=qb f r;exact⟨oo.1,oo.2.1,le_trans oo.2.2 (zero_le _)⟩)
  |exact absurd f bf
theorem mZ{h:Heap}{x:V}{v:Value}(f:x.plain2=true)(r:Rel T π ρ h x v):(∃as,Reads h v x.data as)/\x.data.canLay0=true/\x.data.depth<=2:=ox (P:=V.plain1) (d:=1) (fun{x v} f r=>ox (fun f r=>qb f r) (by cases x<;>exact f) r) (by cases x<;>exact f) r
theorem km(a b:List Nat):((⟨a.toArray⟩:Str)==⟨b.toArray⟩)=(a==b):=by rw[Bool.eq_iff_iff];simp
theorem vN:∀{x y:V},x.flat=true->y.flat=true->PyData.eqv x.data y.data=V.beq x y:=by
 intro x y hx hy
 cases x<;>cases y<;>first
  |rfl
  |exact km _ _
  |exact absurd hx bf
  |exact absurd hy bf
theorem yq{P:V->Bool}(hP:∀{x y:V},P x=true->P y=true->PyData.eqv x.data y.data=V.beq x y):∀{l m:List V},l.all P=true->m.all P=true->PyData.eqvAll (V.hY l) (V.hY m)=V.pW l m
 |[],[]=>@fun _ _=>rfl
 |[],_::_=>@fun _ _=>rfl
 |_::_,[]=>@fun _ _=>rfl
 |x::l,y::m=>by intro f g;simp only[all_cons,Bool.and_eq_true]at f g;show(PyData.eqv x.data y.data&&PyData.eqvAll (V.hY l) (V.hY m))=(V.beq x y&&V.pW l m);exact Rw (hP f.1 g.1) (Rw (yq hP f.2 g.2) rfl)
theorem tm{P:V->Bool}(hP:∀{x y:V},P x=true->P y=true->PyData.eqv x.data y.data=V.beq x y){x y:V}
  (f:(match x with|.aj l=>l.all P|.lst l=>l.all P|v=>v.flat)=true)(g:(match y with|.aj l=>l.all P|.lst l=>l.all P|v=>v.flat)=true):PyData.eqv x.data y.data=V.beq x y:=by
 cases x<;>cases y<;>first
  |exact vN f g
  |exact yq hP f g
  |rfl
  |exact absurd f bf
  |exact absurd g bf
theorem AV{x y:V}(f:x.plain2=true)(g:y.plain2=true):PyData.eqv x.data y.data=V.beq x y:=tm (P:=V.plain1) (fun{x y} f g=>tm (fun f g=>vN f g) (by cases x<;>exact f) (by cases y<;>exact g)) (by cases x<;>exact f) (by cases y<;>exact g)
def Bc(af:Program)(w:World)(A:Around)(s:Shared)(o o':CmpOp)(a b:Value)(r:Bool):Prop:=(∀(E Q:Value->Shared->Prop),Q (.bool r) s->wpAny (model af w) A (compareOp o a b) Q E s)/\(∀(E Q:Value->Shared->Prop),Q (.bool (!r)) s->wpAny (model af w) A (compareOp o' a b) Q E s)
theorem tX(R:kg A){l:List V}{a b:Addr}{vs:List Value}{n m:Nat}(ha:IsL s.heap a (List.toArray vs) n)(hb:IsL s.heap b #[] m)(hl:vs.length=l.length):Bc af w A s .Eq .NotEq (.ref a) (.ref b) l.isEmpty:=by
 haveI hu:=lt_of_le_of_lt (le_add_right _ _) R.units
 cases l with
 |nil=>obtain rfl:vs=[]:=length_eq_zero_iff.mp hl;exact⟨fun E Q k=>RcAt.lists ha.isList hb.isList rfl hu (fun j h1 y_=>absurd h1 (not_lt_zero _)) (e:=fun y_=>true) af w E Q k,fun E Q k=>RcNeAt.lists ha.isList hb.isList rfl hu (fun j h1 y_=>absurd h1 (not_lt_zero _)) (e:=fun y_=>true) af w E Q k⟩
 |cons x l=>haveI hz:((List.toArray vs).size != (#[]:Array Value).size)=true:=Rw size_toArray (Rw hl rfl);exact⟨fun E Q k=>RcAt.lists_lengths ha.isList hb.isList hz hu af w E Q k,fun E Q k=>RcNeAt.lists_lengths ha.isList hb.isList hz hu af w E Q k⟩
theorem gS(R:kg A){a b:V}{a' b':Value}{r:Bool}(ra:Rel T π ρ s.heap a a')(rb:Rel T π ρ s.heap b b')(e:(if(V.plain2 a&&V.plain2 b)=true then some (V.beq a b)else none)=some r):Bc af w A s .Eq .NotEq a' b' r:=by obtain⟨c,rfl⟩:=jH e;have c:=Bool.and_eq_true_iff.mp c;haveI oo:=mZ c.1 ra;refine oo.1.elim fun as r1=>?_;haveI c1:=oo.2.1;haveI d1:=oo.2.2;haveI oo:=mZ c.2 rb;obtain⟨bs,r2⟩:=oo.1;haveI Nb:A.units+min a.data.depth b.data.depth<cLine:=lt_of_le_of_lt (add_le_add_left (le_trans (min_le_left _ _) (le_trans d1 (by decide))) _) R.units;exact Lw (AV c.1 c.2) ⟨fun E Q k=>compareEq_reads r1 r2 c1 oo.2.1 Nb k,fun E Q k=>compareNe_reads r1 r2 c1 oo.2.1 Nb k⟩
theorem Cn(R:kg A)(S:aZ T π ρ s.heap σ){a b:V}{a' b':Value}{r:Bool}(ra:Rel T π ρ s.heap a a')(rb:Rel T π ρ s.heap b b')(e:eqv σ a b=some r):Bc af w A s .Eq .NotEq a' b' r:=by
 cases a with
 |bool x=>cases b with
  |bool y=>replace e:=oj e;subst e;cases ra;cases rb;exact⟨fun E Q k=>RcAt.bool_bool _ _ af w E Q k,fun E Q k=>RcNeAt.bool_bool _ _ af w E Q k⟩
  |_=>exact nn e
 |str x=>cases b with
  |str y=>replace e:=oj e;subst e;obtain⟨t,rfl⟩:=ra;obtain⟨u,rfl⟩:=rb;rw[<-km];exact⟨fun E Q k=>RcAt.str_str _ _ _ _ af w E Q k,fun E Q k=>RcNeAt.str_str _ _ _ _ af w E Q k⟩
  |_=>exact gS R ra rb e
 |int x=>cases b with
  |int y=>replace e:=oj e;subst e;obtain⟨t,rfl⟩:=ra;obtain⟨u,rfl⟩:=rb;exact⟨fun E Q k=>RcAt.int_int _ _ _ _ af w E Q k,fun E Q k=>RcNeAt.int_int _ _ _ _ af w E Q k⟩
  |_=>exact gS R ra rb e
 |loc n=>cases b with
  |lst l=>cases l with
   |nil=>
    replace e:(match σ[n]? with|some (.list l)=>some l.isEmpty|_=>none)=some r:=e
    cases q:σ[n]? with
    |none=>haveI e:=q▸e;exact nn e
    |some o=>
     replace e:=q▸e
     cases o with
     |list l=>replace e:=oj e;subst e;obtain⟨a,vs,k,ep,hl,rr⟩:=sig_list S q;obtain rfl:=cD ra ep;obtain⟨b,ws,m,rfl,_,hb,z⟩:=rb;cases z;exact tX R hl hb (aQ rr)
     |_=>exact nn e
   |cons=>exact nn e
  |_=>exact nn e
 |lst l=>cases b with
  |lst m=>cases m with
   |nil=>obtain rfl:=oj e;obtain⟨a,vs,n,rfl,_,ha,rr⟩:=ra;obtain⟨b,ws,m,rfl,_,hb,z⟩:=rb;cases z;exact tX R ha hb (aQ rr)
   |cons=>exact gS R ra rb e
  |_=>exact gS R ra rb e
 |_=>exact gS R ra rb e
noncomputable def vn(x:List Nat):Value->Bool
 |.str y _=>y==⟨x.toArray⟩
 |_=>false
noncomputable def vH(x:Int):Value->Bool
 |.int y _=>y==x
 |_=>false
theorem tj{h:Heap}{x:List Nat}:∀{l:List V} {vs:List Value},(l.all fun v=>match v with|.str _=>true|_=>false)=true->bj T π ρ h l vs->(∀y∈vs,∃z t,y=.str z t)/\vs.any (vn x)=l.any fun v=>match v with|.str t=>x==t|_=>false
 |[]=>by intro _ r;cases r;exact⟨fun y hy=>(nomatch hy),rfl⟩
 |v::l=>by
  intro f hh;obtain⟨u,t,e,a,r⟩:=hh;subst e;refine(tj (x:=x) (aR f) r).elim fun h1 h2=>?_
  cases v with
  |str z=>
   obtain⟨tk,rfl⟩:=a;refine⟨fun y hy=>?_,(congrArg (or _) h2).trans (congrArg (fun q=>q||_) ?_)⟩
   ·rcases mem_cons.mp hy with rfl|hy
    ·exact⟨_,_,rfl⟩
    ·exact h1 y hy
   ·show((⟨z.toArray⟩:Str)==⟨x.toArray⟩)=(x==z);rw[km];exact BEq.comm
  |_=>exact absurd (aL f) bf
theorem ql{h:Heap}{x:Int}:∀{l:List V} {vs:List Value},(l.all fun v=>match v with|.int _=>true|_=>false)=true->bj T π ρ h l vs->(∀y∈vs,∃z t,y=.int z t)/\vs.any (vH x)=l.any fun v=>match v with|.int t=>x==t|_=>false
 |[]=>by intro _ r;cases r;exact⟨fun y hy=>(nomatch hy),rfl⟩
 |v::l=>by
  intro f hh;obtain⟨u,t,e,a,r⟩:=hh;subst e;refine(ql (x:=x) (aR f) r).elim fun h1 h2=>?_
  cases v with
  |int z=>
   obtain⟨tk,rfl⟩:=a;refine⟨fun y hy=>?_,(congrArg (or _) h2).trans (congrArg (fun q=>q||_) BEq.comm)⟩;rcases mem_cons.mp hy with rfl|hy
   ·exact⟨_,_,rfl⟩
   ·exact h1 y hy
  |_=>exact absurd (aL f) bf
theorem isTup{h:Heap}{a:Addr}{items:Array Value}{n:Nat}(x:IsT h a items n):h.IsTuple a items:=⟨_,x,rfl,n,rfl⟩
theorem zZ{c:Nat}{l:List Nat}{a' b':Value}(ra:Rel T π ρ s.heap (.str [c]) a')(rb:Rel T π ρ s.heap (.str l) b'):Bc af w A s .In .NotIn a' b' (l.contains c):=by
 obtain⟨t,rfl⟩:=ra;obtain⟨u,rfl⟩:=rb
 haveI:(!(Builtin.Str.occurrences ⟨l.toArray⟩ ⟨#[c]⟩ 0 (Str.length ⟨l.toArray⟩) 1).isEmpty)=l.contains c:=by rw[StrLaws.found_one,Bool.eq_iff_iff];simp
 exact⟨fun E Q k=>P.in_str (this▸k),fun E Q k=>P.notIn_str (Rw this k)⟩
theorem AK{x:List Nat}{l:List V}{a' b':Value}{r:Bool}(ra:Rel T π ρ s.heap (.str x) a')(rb:Rel T π ρ s.heap (.aj l) b')(e:member σ (.str x) (.aj l)=some r):Bc af w A s .In .NotIn a' b' r:=by
 obtain⟨c,rfl⟩:=jH (show(if(l.all fun v=>match v with|.str _=>true|_=>false)=true then some (l.any fun v=>match v with|.str t=>x==t|_=>false)else none)=some r by
  cases x with
  |nil=>exact e
  |cons y x=>cases x<;>exact e)
 obtain⟨t,rfl⟩:=ra;obtain⟨q,vs,n,rfl,_,hq,rr⟩:=rb
 haveI oo:=tj (x:=x) c rr;haveI he:∀y,y∈(List.toArray vs)->EqAt A.in1 s y (.str ⟨x.toArray⟩ t) (vn x y):=fun y hy=>by obtain⟨z,u,rfl⟩:=oo.1 y (mem_toArray.mp hy);exact EqAt.str_str _ _ _ _
 haveI h3:(List.toArray vs).any (vn x)=vs.any (vn x):=by simp
 exact Lw oo.2 (Lw h3 ⟨fun E Q k=>in_tupleAt (vn x) (isTup hq) he k,fun E Q k=>notIn_tupleAt (vn x) (isTup hq) he k⟩)
theorem z9{x:Int}{l:List V}{a' b':Value}{r:Bool}(ra:Rel T π ρ s.heap (.int x) a')(rb:Rel T π ρ s.heap (.lst l) b')(e:member σ (.int x) (.lst l)=some r):Bc af w A s .In .NotIn a' b' r:=by
 obtain⟨c,rfl⟩:=jH (e);obtain⟨t,rfl⟩:=ra;obtain⟨q,vs,n,rfl,_,hq,rr⟩:=rb
 haveI oo:=ql (x:=x) c rr;haveI he:∀y,y∈(List.toArray vs)->EqAt A.in1 s y (.int x t) (vH x y):=fun y hy=>by obtain⟨z,u,rfl⟩:=oo.1 y (mem_toArray.mp hy);exact EqAt.int_int _ _ _ _
 haveI h3:(List.toArray vs).any (vH x)=vs.any (vH x):=by simp
 exact Lw oo.2 (Lw h3 ⟨fun E Q k=>in_listAt (vH x) hq.isList he k,fun E Q k=>notIn_listAt (vH x) hq.isList he k⟩)
theorem rR{a b:V}{a' b':Value}{r:Bool}(ra:Rel T π ρ s.heap a a')(rb:Rel T π ρ s.heap b b')(e:member σ a b=some r):Bc af w A s .In .NotIn a' b' r:=by
 cases a with
 |str x=>cases b with
  |str l=>cases x with
   |nil=>exact nn e
   |cons c x=>cases x with
    |nil=>replace e:=oj e;subst e;exact zZ ra rb
    |cons=>exact nn e
  |aj l=>exact AK ra rb e
  |_=>cases x with
   |nil=>exact nn e
   |cons c x=>cases x<;>exact nn e
 |int x=>cases b with
  |lst l=>exact z9 ra rb e
  |_=>exact nn e
 |_=>exact nn e
theorem sE{a:V}{a':Value}{r:Bool}(ra:Rel T π ρ s.heap a a')(e:isNone a=some r):(a'==Value.none)=r:=by
 cases a<;>cases e
 ·cases ra;rfl
 ·cases ra;rfl
 ·obtain⟨t,rfl⟩:=ra;rfl
 ·obtain⟨t,rfl⟩:=ra;rfl
 ·obtain⟨_,_,_,rfl,_⟩:=ra;rfl
 ·obtain⟨_,_,_,rfl,_⟩:=ra;rfl
 ·obtain⟨_,_,_,_,rfl,_⟩:=ra;rfl
theorem Ct{f:Int->Int->Bool}{a b:V}{r:Bool}(e:(match a,b with|.int x,.int y=>some (f x y)|_,_=>none)=some r):gW fun x y=>eF (a=.int x) (b=.int y) (f x y=r):=by
 cases a with
 |int x=>cases b with
  |int y=>exact⟨x,y,rfl,rfl,oj e⟩
  |_=>exact nn e
 |_=>exact nn e
theorem tN{o:Option Bool}{r:Bool}(e:o.map (!·)=some r):∃q,o=some q/\(!q)=r:=by
 cases o with
 |none=>exact nn e
 |some q=>exact⟨q,rfl,oj e⟩
theorem eX(R:kg A)(S:aZ T π ρ s.heap σ){o:oH}{a b:V}{a' b':Value}{r:Bool}(ra:Rel T π ρ s.heap a a')(rb:Rel T π ρ s.heap b b')(e:eg o σ a b=some r)
  {E Q:Value->Shared->Prop}(k:Q (.bool r) s):wpAny (model af w) A (compareOp o.op a' b') Q E s:=by
 cases o with
 |eq=>exact(Cn R S ra rb e).1 E Q k
 |ne=>obtain⟨q,e',rfl⟩:=tN e;exact(Cn R S ra rb e').2 E Q k
 |lt=>obtain⟨x,y,rfl,rfl,rfl⟩:=Ct e;obtain⟨t,rfl⟩:=ra;obtain⟨u,rfl⟩:=rb;exact P.lt_int k
 |le=>obtain⟨x,y,rfl,rfl,rfl⟩:=Ct e;obtain⟨t,rfl⟩:=ra;obtain⟨u,rfl⟩:=rb;exact P.le_int k
 |gt=>obtain⟨x,y,rfl,rfl,rfl⟩:=Ct e;obtain⟨t,rfl⟩:=ra;obtain⟨u,rfl⟩:=rb;exact P.gt_int k
 |ge=>obtain⟨x,y,rfl,rfl,rfl⟩:=Ct e;obtain⟨t,rfl⟩:=ra;obtain⟨u,rfl⟩:=rb;exact P.ge_int k
 |is=>cases b with
  |none=>cases rb;exact is_none_gen (sE ra e▸k)
  |_=>exact nn e
 |tI=>cases b with
  |none=>cases rb;obtain⟨q,e',rfl⟩:=tN e;exact isnot_none_gen (sE ra e'▸k)
  |_=>exact nn e
 |isin=>exact(rR (σ:=σ) ra rb e).1 E Q k
 |pq=>obtain⟨q,e',rfl⟩:=tN e;exact(rR ra rb e').2 E Q k
end
end
end
section
open PySem PySem.W PySem.Calls PyProof.Rows
section
section
variable {T:Tab} {π:Addr->Prop} {ρ:bZ} {σ:St} {af:Program} {w:World} {A:Around} {s:Shared}
theorem fV{i:Int}{n j:Nat}(e:aw i n=some j):j<n/\(-(2 ^ 40)<=i/\i<=2 ^ 40)/\((0<=i/\j=i.toNat/\i<n)\/(i<0/\-(n:Int)<=i/\j=(i+n).toNat)):=by
 unfold aw at e
 split at e
 ·rename_i c;haveI:=fH c
  split at e
  ·split at e
   ·replace e:=oj e;subst e;exact⟨Om (by assumption) (by assumption),this,.inl ⟨WH (by assumption),rfl,VX (by assumption)⟩⟩
   ·exact nn e
  ·split at e
   ·replace e:=oj e;subst e;exact⟨OR (by assumption) (by assumption),this,.inr ⟨OG (by assumption),Yz (by assumption),rfl⟩⟩
   ·exact nn e
 ·exact nn e
theorem jP{i:Int}{n j:Nat}(e:aw i n=some j):seqIndex? i n=some j:=by
 unfold seqIndex?;rcases(fV e).2.2 with⟨h0,h1,h2⟩|⟨h0,h1,h2⟩
 ·haveI d:(decide (0<=i)&&decide (i<(n:Int)))=true:=by simp;exact Th h0 h2
  simp only[(U1 h0),if_false,d,if_true,h1]
 ·haveI d:(decide (0<=i+(n:Int))&&decide (i+(n:Int)<(n:Int)))=true:=by simp;exact S0 h1 h0
  simp only[h0,if_true,d,h2]
theorem tH{l:Addr}{items:Array Value}{k:Int}{t:Tok}{x:Value}{j:Nat}{E Q:Value->Shared->Prop}(hl:s.heap.IsList l items)(hp:aw k items.size=some j)(hx:items[j]?=some x)(h:Q x s):wpAny (model af w) A (getItem (.ref l) (.int k t)) Q E s:=by
 obtain⟨hj,hz,q⟩:=fV hp;rcases q with⟨h0,rfl,h1⟩|⟨h0,h1,rfl⟩
 ·exact wpAny_getItem_list hl h0 (KU hz.2) hx h
 ·exact wpAny_getItem_list_neg hl h0 h1 (Jx hz.1) hx h
theorem ew{vs:List Value}{j:Nat}{x:Value}(h:vs[j]?=some x):(List.toArray vs)[j]?=some x:=by simpa using h
theorem uh{vs:List Nat}{j:Nat}{x:Nat}(h:vs[j]?=some x):(List.toArray vs)[j]?=some x:=by simpa using h
def Sub(s:Shared)(v:Value):Prop:=∃t id,s.TypeIs v t/\typeLookup (.type t) "__getitem__"=pure (some (.builtin id))
theorem zq{x:List Nat}{k:Int}{r:V}{a' b':Value}(ra:Rel T π ρ s.heap (.str x) a')(rb:Rel T π ρ s.heap (.int k) b')(e:kL σ (.str x) (.int k)=some r):Sub s a'/\bu T π ρ af w A s (getItem a' b') r:=by
 obtain⟨t,rfl⟩:=ra;obtain⟨u,rfl⟩:=rb;refine⟨⟨"str",_,typeIs_str _ _ _,F.slot_str_getitem.lookup⟩,?_⟩;replace e:(match aw k x.length with|some j=>(x[j]?).map fun c=>V.str [c]|none=>none)=some r:=e
 cases hp:aw k x.length with
 |none=>haveI e:=hp▸e;exact nn e
 |some j=>
  replace e:=hp▸e;obtain⟨c,hc,rfl⟩:=Option.map_eq_some_iff.mp e;have hz:=(fV hp).2.1;refine bE ⟨_,rfl⟩ fun Q k=>P.getItem_str ?_ ?_ k
  ·simp;exact PU hz.1 hz.2
  ·show(seqIndex? _ x.toArray.size).bind (x.toArray[·]?)=some c;exact Rw size_toArray (Rw (jP hp) (uh hc))
theorem qv{p:Addr}{m:Nat}{l:List V}{vs:List Value}{k:Int}{r:V}{b':Value}(ho:IsL s.heap p (List.toArray vs) m)(rr:bj T π ρ s.heap l vs)(rb:Rel T π ρ s.heap (.int k) b')(e:((aw k l.length).bind fun j=>l[j]?)=some r):Sub s (.ref p)/\bu T π ρ af w A s (getItem (.ref p) b') r:=by obtain⟨u,rfl⟩:=rb;refine⟨⟨"list",_,ho.isList.typeIs,slot_list_getitem.lookup⟩,?_⟩;refine cps fun G kG=>?_;obtain⟨j,hp,hj⟩:=Option.bind_eq_some_iff.mp e;obtain⟨v,hv,rv⟩:=ez rr hj;refine kG (fw rv fun Q k=>tH ho.isList ?_ (ew hv) k);exact Rw size_toArray (Rw (aQ rr) hp)
theorem yA(S:aZ T π ρ s.heap σ){n:Nat}{k:Int}{r:V}{a' b':Value}(ra:Rel T π ρ s.heap (.loc n) a')(rb:Rel T π ρ s.heap (.int k) b')(e:kL σ (.loc n) (.int k)=some r):Sub s a'/\bu T π ρ af w A s (getItem a' b') r:=by
 replace e:(match σ[n]? with|some (.list l)=>(aw k l.length).bind fun j=>l[j]?|some (.dict l)=>bx k l|_=>none)=some r:=e
 cases hl:σ[n]? with
 |none=>haveI e:=hl▸e;exact nn e
 |some o=>
  haveI e:=hl▸e
  cases o with
  |list l=>obtain⟨p,vs,m,ep,ho,rr⟩:=sig_list S hl;obtain rfl:=cD ra ep;exact qv ho rr rb e
  |dict l=>refine cps fun G kG=>?_;obtain⟨⟨p,q⟩,ep,z,_,_,f,hm,hle,hf⟩:=S.objs n _ hl (by intro z;cases z);refine kG ?_;simp only at z;subst z;obtain rfl:=cD ra ep;obtain⟨u,rfl⟩:=rb;refine⟨⟨"dict",_,hm.typeIs,slot_dict_getitem.lookup⟩,?_⟩;haveI:=hf k;rw[show bx k l=some r from e]at this;refine cps fun G kG=>?_;obtain⟨v,hv,rv⟩:=this;exact kG (bE rv fun Q k=>wpAny_getItem_intMap hm hv k)
  |_=>exact nn e
theorem yH{l:List V}{k:Int}{r:V}{a' b':Value}(ra:Rel T π ρ s.heap (.aj l) a')(rb:Rel T π ρ s.heap (.int k) b')(e:((aw k l.length).bind fun j=>l[j]?)=some r):Sub s a'/\bu T π ρ af w A s (getItem a' b') r:=by obtain⟨p,vs,m,rfl,_,ho,rr⟩:=ra;obtain⟨u,rfl⟩:=rb;refine⟨⟨"tuple",_,(isTup ho).typeIs,F.slot_tuple_getitem.lookup⟩,?_⟩;refine cps fun G kG=>?_;obtain⟨j,hp,hj⟩:=Option.bind_eq_some_iff.mp e;obtain⟨v,hv,rv⟩:=ez rr hj;refine kG ?_;haveI hz:=(fV hp).2.1;refine fw rv fun Q k=>P.getItem_tuple ho (Jx hz.1) (KU hz.2) ?_ (ew hv) k;exact Rw size_toArray (Rw (aQ rr) (jP hp))
theorem vP(R:kg A)(S:aZ T π ρ s.heap σ){a b r:V}{a' b':Value}(ra:Rel T π ρ s.heap a a')(rb:Rel T π ρ s.heap b b')(e:kL σ a b=some r):Sub s a'/\bu T π ρ af w A s (getItem a' b') r:=by
 cases b with
 |int k=>cases a with
  |str x=>exact zq ra rb e
  |loc n=>exact yA S ra rb e
  |aj l=>exact yH ra rb e
  |lst l=>obtain⟨p,vs,m,rfl,_,ho,rr⟩:=ra;exact qv ho rr rb e
  |_=>exact nn e
 |_=>cases a<;>exact nn e
noncomputable def ru:V->Option (Option Int)
 |.none=>some none
 |.int i=>some (some i)
 |_=>none
theorem pE{α:Type}{l r:List α}{lo hi:V}(e:cut l lo hi=some r):gW fun a b=>kE (ru lo=some a) (ru hi=some b) (l.length<=lim) (r=(l.drop (a.elim 0 (clipAt l.length))).take (b.elim l.length (clipAt l.length)-a.elim 0 (clipAt l.length))):=by
 have hz:l.length<=lim:=by
  by_cases c:l.length<=lim
  ·exact c
  ·haveI e:=(show cut l lo hi=none from if_neg c)▸e;exact nn e
 replace e:=(show cut l lo hi=JU l lo hi from if_pos hz)▸e
 cases lo with
 |none=>cases hi with
  |none=>replace e:=oj e;subst e;exact⟨none,none,rfl,rfl,hz,(take_of_length_le (le_refl _)).symm⟩
  |int b=>replace e:=oj e;subst e;exact⟨none,some b,rfl,rfl,hz,rfl⟩
  |_=>exact nn e
 |int a=>cases hi with
  |none=>replace e:=oj e;subst e;exact⟨some a,none,rfl,rfl,hz,(take_of_length_le (Rw length_drop (le_refl _))).symm⟩
  |int b=>replace e:=oj e;subst e;exact⟨some a,some b,rfl,rfl,hz,rfl⟩
  |_=>exact nn e
 |_=>exact nn e
theorem nX{h:Heap}{v:V}{v':Value}{a:Option Int}(e:ru v=some a)(r:Rel T π ρ h v v'):IsPart v' a:=by
 cases v<;>cases e
 ·cases r;exact .none
 ·obtain⟨t,rfl⟩:=r;exact .int _ _
theorem Aw(n:Nat)(i:Int):clipAt n i<=n:=Vm (clipAt_cast n i)
theorem FO(n:Nat)(b:Option Int):b.elim n (clipAt n)<=n:=by cases b;exact le_refl _;exact Aw n _
theorem lZ{v:Value}{a:Option Int}{Q:Option Int->Shared->Prop}{E:Value->Shared->Prop}(p:IsPart v a)(h:Q a s):wpAny (model af w) A (Builtin.Slice.slicePartIndex v) Q E s:=by
 cases p with
 |none=>exact slicePart_none h
 |int i t=>exact slicePart_int h
theorem zK(lo hi:Option Int)(n:Nat):Builtin.Slice.sliceAdjust lo hi 1 (n:Int)=(((lo.elim 0 (clipAt n):Nat):Int),((hi.elim n (clipAt n):Nat):Int)):=by
 unfold Builtin.Slice.sliceAdjust;haveI h1:=Uz;simp only[h1,if_false]
 have c:∀v:Int,(if v<0 then max (v+(n:Int)) 0 else min v n)=(clipAt n v:Nat):=fun v=>by rw[clipAt_cast];split<;>(first|exact W8 (by assumption)|exact V8 (by assumption))
 cases lo<;>cases hi<;>simp[c]
theorem zM(a b:Nat):Builtin.Slice.slicePlaces (a:Int) (b:Int) 1=b-a:=by
 unfold Builtin.Slice.slicePlaces;haveI h1:(1:Int)>0:=XF;simp only[h1,if_true,Int.ediv_one]
 split<;>(first|exact PY|exact Ym (by assumption))
theorem oM{sl:Addr}{vl vu:Value}{lo hi:Option Int}{n:Nat}{Q:Int×Int×Nat->Shared->Prop}{E:Value->Shared->Prop}(hs:s.heap.IsSliceOf sl vl vu .none)(pl:IsPart vl lo)(pu:IsPart vu hi)
  (h:Q (((lo.elim 0 (clipAt n):Nat):Int),1,hi.elim n (clipAt n)-lo.elim 0 (clipAt n)) s):wpAny (model af w) A (Builtin.Slice.sliceApplied (.ref sl) (pure (n:Int))) Q E s:=by
 refine cps fun G kG=>?_;obtain⟨os,GD,GF,DG⟩:=id hs;refine kG (wpAny_bind (wpAny_bind (wpAny_field GD DG (x:=vl) rfl (wpAny_bind (wpAny_field GD DG (x:=vu) rfl (wpAny_bind (wpAny_field GD DG (x:=.none) rfl (wpAny_pure (wpAny_bind (slicePart_none (Rw (if_neg (by decide)) (wpAny_bind (lZ pl (wpAny_bind (lZ pu (wpAny_bind (wpAny_pure ?_)))))))))))))))));show wpAny _ _ (match Builtin.Slice.sliceAdjust lo hi 1 (n:Int)with|(lo,hi)=>pure (lo,(1:Int),Builtin.Slice.slicePlaces lo hi 1)) _ _ s;rw[zK];show wpAny _ _ (pure (((lo.elim 0 (clipAt n):Nat):Int),(1:Int),Builtin.Slice.slicePlaces _ _ 1)) _ _ s;rw[zM];exact wpAny_pure h
theorem EA(xs:Array Value)(a k:Nat):((List.range k).filterMap fun(i:Nat)=>xs[((a:Int)+(i:Int)*1).toNat]?).toArray=((xs.toList.drop a).take k).toArray:=by
 haveI e:(fun(k:Nat)=>xs[((a:Int)+(k:Int)*1).toNat]?)=fun k=>xs[a+k]?:=by
  funext k
  haveI:((a:Int)+(k:Int)*1).toNat=a+k:=SI;exact Rw this rfl
 refine Rw e (?_);haveI:=pick_run xs a k;rw[List.filterMap_map]at this;haveI e2:((fun x=>xs[x]?)∘fun x=>a+x)=fun k=>xs[a+k]?:=rfl;rw[e2]at this;exact Rw this rfl
theorem kZ{t sl:Addr}{items:Array Value}{m:Nat}{vl vu:Value}{lo hi:Option Int}{E Q:Value->Shared->Prop}(ht:IsT s.heap t items m)(hs:s.heap.IsSliceOf sl vl vu .none)(pl:IsPart vl lo)(pu:IsPart vu hi)
  (h0:((items.toList.drop (lo.elim 0 (clipAt items.size))).take (hi.elim items.size (clipAt items.size)-lo.elim 0 (clipAt items.size)))=items.toList->Q (.ref t) s)
  (h:Q (.ref s.heap.objs.size) {s with heap:=s.heap.push {cls:=.type "tuple",data:=.seq ((items.toList.drop (lo.elim 0 (clipAt items.size))).take (hi.elim items.size (clipAt items.size)-lo.elim 0 (clipAt items.size))).toArray}})
  (AQ:items.size<=lim):wpAny (model af w) A (getItem (.ref t) (.ref sl)) Q E s:=by
 haveI dm:sizeOk (.seq ((items.toList.drop (lo.elim 0 (clipAt items.size))).take (hi.elim items.size (clipAt items.size)-lo.elim 0 (clipAt items.size))).toArray):=by show((items.toList.drop _).take _).toArray.size<=sizeLine;refine Rw size_toArray (Rw length_take (Rw length_drop (Rw Array.length_toList (Rw sizeLine_eq (?_)))));unfold lim at AQ;exact K3 AQ
 refine cps fun G kG=>?_;obtain⟨os,GD,GF,DG⟩:=id hs;refine kG ?_;haveI hTs:s.TypeIs (.ref sl) "slice":=⟨os,GD,GF⟩;have iE:IsTup s.heap t items:=⟨_,ht,rfl,m,rfl⟩;unfold getItem
 try with_reducible refine wpAny_holding ?_
 first|refine wpAny_bind (wpAny_pure ?_)|skip
 refine wpAny_bind (wpAny_sequenceKey iE.typeIs (by decide) (wpAny_bind (wpAny_callSpecial?_slot iE.typeIs slot_tuple_getitem
  (wpAny_call_entry slot_tuple_getitem iE.typeIs entry_tuple_getitem ?_ (args_tuple_getitem _ _)))))
 show wpAny _ _ (Builtin.Tuple.tupleItemsOf (.ref t)>>=_) _ _ s;refine wpAny_bind (tupleItemsOf_ iE (wpAny_bind (wpAny_typeOf hTs (Rw (if_pos (by decide)) (wpAny_bind (oM hs pl pu ?_))))));generalize ha:lo.elim 0 (clipAt items.size)=a at *;generalize hb:hi.elim items.size (clipAt items.size)-a=k at *;show wpAny _ _ (if((a:Int)==0&&(1:Int)==1&&k==items.size)=true then _ else _) _ _ s;by_cases hc:((a:Int)==0&&(1:Int)==1&&k==items.size)=true
 ·refine Rw (if_pos hc) (?_);simp only[Bool.and_eq_true,beq_iff_eq]at hc;exact wpAny_bind (wpAny_bind (wpAny_typeOf iE.typeIs (wpAny_pure (Rw (if_pos (by decide)) (wpAny_bind (wpAny_rule (wpAny_pure ⟨_,rfl,wpAny_pure (h0 (Rw (Wt hc.1.1) (Rw hc.2 (Rw drop_zero (Lw Array.length_toList (Rw take_length rfl))))))⟩)))))))
 ·rw[if_neg hc,EA items a]
  first
   |exact wpAny_bind (wpAny_newObj_type (wpAny_pure ⟨_,rfl,wpAny_pure h⟩) dm)
   |exact wpAny_bind (wpAny_newObj_type (wpAny_bind (wpAny_pure (wpAny_pure ⟨_,rfl,wpAny_pure h⟩))) dm)
   |exact wpAny_bind (wpAny_bind (wpAny_newObj_type (wpAny_pure (wpAny_pure ⟨_,rfl,wpAny_pure h⟩)) dm))
   |exact wpAny_bind (wpAny_bind (wpAny_newObj_type (wpAny_pure ⟨_,rfl,wpAny_pure h⟩) dm))
theorem HV(lo hi:Option Int)(n:Nat):Builtin.Str.strSliceIndices lo hi 1 n=(List.range (hi.elim n (clipAt n)-lo.elim 0 (clipAt n))).map (lo.elim 0 (clipAt n)+·):=by rw[<-sliceRange_one];unfold Builtin.Str.strSliceIndices;cases lo<;>cases hi<;>simp[clipAt_cast]
theorem uR{h:Heap}{v:V}{v':Value}{a:Option Int}(e:ru v=some a)(r:Rel T π ρ h v v'):∃l:Option (Int×Tok),v'=partValue l/\l.map (·.1)=a:=by
 cases v<;>cases e
 ·cases r;exact⟨none,rfl,rfl⟩
 ·obtain⟨t,rfl⟩:=r;exact⟨some (_,t),rfl,rfl⟩
theorem yg{x:List Nat}{lo hi r:V}{a' tU jZ:Value}{sl:Addr}(ra:Rel T π ρ s.heap (.str x) a')(rl:Rel T π ρ s.heap lo tU)(rh:Rel T π ρ s.heap hi jZ)
  (hs:s.heap.IsSliceOf sl tU jZ .none)(e:(cut x lo hi).map V.str=some r):Sub s a'/\bu T π ρ af w A s (getItem a' (.ref sl)) r:=by
 obtain⟨y,hc,rfl⟩:=Option.map_eq_some_iff.mp e;obtain⟨p,q,h1,h2,hz,rfl⟩:=pE hc;obtain⟨t,rfl⟩:=ra;obtain⟨l,rfl,hl⟩:=uR h1 rl;obtain⟨u,rfl,hu⟩:=uR h2 rh;refine⟨⟨"str",_,typeIs_str _ _ _,F.slot_str_getitem.lookup⟩,fun Q k=>?_⟩;refine wpAny_getItem_str_slice (st:=none) (by obtain⟨o,a,b,c⟩:=hs;exact⟨o,a,b,c⟩) rfl ?_
 have hp:slicePicked ⟨x.toArray⟩ l u none=(List.range (q.elim x.length (clipAt x.length)-p.elim 0 (clipAt x.length))).map (p.elim 0 (clipAt x.length)+·):=by unfold slicePicked;refine Rw hl (Rw hu (?_));show Builtin.Str.strSliceIndices p q 1 x.toArray.size=_;exact Rw size_toArray (HV p q _)
 unfold sliceMade
 split
 ·rename_i c;simp only[Bool.and_eq_true,beq_iff_eq,hp,length_map,length_range]at c
  haveI c2:q.elim x.length (clipAt x.length)-p.elim 0 (clipAt x.length)=x.length:=by refine Rw c.2 (?_);show x.toArray.size=_;exact Rw size_toArray rfl
  haveI e0:=Nt c2 (FO x.length q);refine k _ s.heap _ ⟨t,?_⟩ (.refl _);rcases e0 with e0|e0
  ·exact Rw c2 (Rw e0 (Rw drop_zero (Rw take_length rfl)))
  ·obtain rfl:=length_eq_zero_iff.mp e0;simp
 ·haveI hf:(slicePicked ⟨x.toArray⟩ l u none).filterMap ((⟨x.toArray⟩:Str).cps[·]?)=(x.drop (p.elim 0 (clipAt x.length))).take (q.elim x.length (clipAt x.length)-p.elim 0 (clipAt x.length)):=by
   refine Rw hp (?_);rw[pick_run]
  refine Rw hf ⟨?_,k _ s.heap _ ⟨_,rfl⟩ (.refl _)⟩;show(List.toArray _).size<=sizeLine;refine Rw size_toArray (Rw length_take (Rw length_drop (Rw sizeLine_eq (?_))));unfold lim at hz;exact K3 hz
theorem yF(S:aZ T π ρ s.heap σ){l:List V}{lo hi r:V}{a' tU jZ:Value}{sl:Addr}(ra:Rel T π ρ s.heap (.aj l) a')(rl:Rel T π ρ s.heap lo tU)(rh:Rel T π ρ s.heap hi jZ)
  (hs:s.heap.IsSliceOf sl tU jZ .none)(e:(cut l lo hi).map V.aj=some r):Sub s a'/\bu T π ρ af w A s (getItem a' (.ref sl)) r:=by
 obtain⟨y,hc,rfl⟩:=Option.map_eq_some_iff.mp e;obtain⟨p,q,h1,h2,hz,rfl⟩:=pE hc;obtain⟨t,vs,m,rfl,ft,ho,rr⟩:=ra;refine⟨⟨"tuple",_,(isTup ho).typeIs,F.slot_tuple_getitem.lookup⟩,fun Q k=>?_⟩;have hn:(List.toArray vs).size=l.length:=Rw size_toArray (Rw (aQ rr) rfl);refine kZ ho hs (nX h1 rl) (nX h2 rh) (fun z=>?_) ?_ (Rw hn hz)
 ·refine k _ s.heap _ ⟨t,vs,m,rfl,ft,ho,?_⟩ (.refl _);haveI z:=hn▸z;simp only at z;haveI:=js (q.elim l.length (clipAt l.length)-p.elim 0 (clipAt l.length)) (jA (p.elim 0 (clipAt l.length)) rr);rw[z]at this;exact this
 ·exact Rw hn (k _ _ _ (gX S (js _ (jA _ rr))) (.push _ _))
theorem xQ(S:aZ T π ρ s.heap σ){l:List V}{lo hi r:V}{a' tU jZ:Value}{sl:Addr}(ra:Rel T π ρ s.heap (.lst l) a')(rl:Rel T π ρ s.heap lo tU)(rh:Rel T π ρ s.heap hi jZ)
  (hs:s.heap.IsSliceOf sl tU jZ .none)(e:(cut l lo hi).map V.lst=some r):Sub s a'/\bu T π ρ af w A s (getItem a' (.ref sl)) r:=by
 obtain⟨y,hc,rfl⟩:=Option.map_eq_some_iff.mp e;obtain⟨p,q,h1,h2,hz,rfl⟩:=pE hc;obtain⟨t,vs,m,rfl,ft,ho,rr⟩:=ra;refine⟨⟨"list",_,ho.isList.typeIs,slot_list_getitem.lookup⟩,fun Q k=>?_⟩;haveI hn:(List.toArray vs).size=l.length:=Rw size_toArray (Rw (aQ rr) rfl);refine wpAny_getItem_list_slice ho.isList hs (nX h1 rl) (nX h2 rh) .none (by intro z;exact nn z) ?_ (by refine Rw hn (Rw sizeLine_eq (?_));unfold lim at hz;exact Q4 hz);rw[slicePick_plain,hn];exact k _ _ _ (o9 S (js _ (jA _ rr))) (.push _ _)
theorem DX(R:kg A)(S:aZ T π ρ s.heap σ){a lo hi r:V}{a' tU jZ:Value}{sl:Addr}(ra:Rel T π ρ s.heap a a')(rl:Rel T π ρ s.heap lo tU)(rh:Rel T π ρ s.heap hi jZ)
  (hs:s.heap.IsSliceOf sl tU jZ .none)(e:fp a lo hi=some r):Sub s a'/\bu T π ρ af w A s (getItem a' (.ref sl)) r:=by
 cases a with
 |str x=>exact yg ra rl rh hs e
 |aj l=>exact yF S ra rl rh hs e
 |lst l=>exact xQ S ra rl rh hs e
 |_=>exact nn e
end
end
section
noncomputable def B1.fn:B1->Value
 |.len=>.builtin "len"|.ord=>.builtin "ord"|.chr=>.builtin "chr"|.abs=>.builtin "abs"|.any=>.builtin "any"
 |.list=>.type "list"|.tuple=>.type "tuple"|.str=>.type "str"
section
variable {T:Tab} {π:Addr->Prop} {ρ:bZ} {σ:St} {af:Program} {w:World} {A:Around} {s:Shared}
theorem iy{r:V}{t:Sem Value}(h:∀Q:Value->Shared->Prop,(∀v h' n,Rel T π ρ h' r v->Up s.heap h'->Q v {s with heap:=h',toks:=n})->wpAny (model af w) A t Q aU s):bu T π ρ af w A s t r:=h
theorem AN(i:Int)(h0:0<=i)(h1:i<10):Str.ofString (toString i)=⟨#[48+i.toNat]⟩:=by
 haveI:∀n:Fin 10,Str.ofString (toString ((n.val:Nat):Int))=⟨#[48+n.val]⟩:=by decide+kernel
 haveI h:=this ⟨i.toNat,WD h1⟩;simp only[(TK h0)]at h;exact h
noncomputable def nO(l:List V)(i:Nat):Bool:=match l[i]? with
 |some (.bool b)=>b
 |_=>false
theorem any_range(l:List V)(c:(l.all fun v=>match v with|.bool _=>true|_=>false)=true):(List.range l.length).any (nO l)=l.any fun v=>match v with|.bool b=>b|_=>false:=by
 rw[Bool.eq_iff_iff,any_eq_true,any_eq_true];constructor
 ·rintro⟨i,hi,hb⟩;simp only[mem_range]at hi;refine⟨l[i],getElem_mem hi,?_⟩;haveI hb:=(show nO l i=(match some l[i]with|some (.bool b)=>b|_=>false)from congrArg (fun o:Option V=>match o with|some (.bool b)=>b|_=>false) (getElem?_eq_getElem hi))▸hb;revert hb;cases l[i]<;>exact id
 ·rintro⟨x,hx,hb⟩;refine cps fun G kG=>?_;obtain⟨i,hi,rfl⟩:=List.getElem_of_mem hx;refine kG ⟨i,mem_range.mpr hi,?_⟩;refine Rw (show nO l i=(match some l[i]with|some (.bool b)=>b|_=>false)from congrArg (fun o:Option V=>match o with|some (.bool b)=>b|_=>false) (getElem?_eq_getElem hi)) (?_);revert hb;cases l[i]<;>exact id
theorem EW{p:Addr}{n:Nat}{l:List V}{vs:List Value}{r:V}(ho:IsL s.heap p (List.toArray vs) n)(rr:bj T π ρ s.heap l vs)(e:(if l.length<=lim then some (V.int l.length)else none)=some r):bu T π ρ af w A s (call (B1.fn .len) [.ref p]) r:=by obtain⟨c,rfl⟩:=jH e;refine bE (v:=.int l.length (s.toks+1)) (n:=s.toks+1+1) ⟨_,rfl⟩ fun Q k=>?_;haveI hn:(List.toArray vs).size=l.length:=Rw size_toArray (Rw (aQ rr) rfl);exact call_len_list ho.isList (Rw hn (Rx c)) (Rw hn k)
theorem H2(S:aZ T π ρ s.heap σ){a r:V}{a':Value}(ra:Rel T π ρ s.heap a a')(e:gU .len σ a=some r):bu T π ρ af w A s (call (B1.fn .len) [a']) r:=by
 cases a with
 |str x=>
  obtain⟨c,rfl⟩:=jH (e);obtain⟨t,rfl⟩:=ra;refine bE (v:=.int x.length (s.toks+1)) (n:=s.toks+1+1) ⟨_,rfl⟩ fun Q k=>P.len_str ?_ ?_
  ·show¬((x.toArray.size:Nat):Int)>=2 ^ 63;exact Rw size_toArray (JH c)
  ·show Q (.int ((x.toArray.size:Nat):Int) _) _;exact Rw size_toArray k
 |aj l=>obtain⟨c,rfl⟩:=jH (e);obtain⟨p,vs,n,rfl,_,ho,rr⟩:=ra;refine bE (v:=.int l.length (s.toks+1)) (n:=s.toks+1+1) ⟨_,rfl⟩ fun Q k=>?_;haveI hn:(List.toArray vs).size=l.length:=Rw size_toArray (Rw (aQ rr) rfl);exact P.len_tuple ho (Rw hn (JH c)) (Rw hn k)
 |lst l=>obtain⟨p,vs,n,rfl,_,ho,rr⟩:=ra;exact EW ho rr e
 |loc n=>obtain⟨l,hl,e⟩:=Option.bind_eq_some_iff.mp (e);obtain⟨p,vs,n,rfl,ho,rr⟩:=dZ S ra hl;exact EW ho rr e
 |_=>exact nn e
theorem Dg(S:aZ T π ρ s.heap σ){a r:V}{a':Value}(ra:Rel T π ρ s.heap a a')(e:((cN σ a).bind fun l=>if l.length<=lim then some (V.lst l)else none)=some r):bu T π ρ af w A s (call (B1.fn .list) [a']) r:=by obtain⟨l,hl,e⟩:=Option.bind_eq_some_iff.mp e;obtain⟨c,rfl⟩:=jH e;obtain⟨p,vs,n,rfl,ho,rr⟩:=dZ S ra hl;refine iy fun Q k=>call_list_seq p (.inl rfl) ho rfl rfl (fun h' c' hk hn=>?_) (Rw size_toArray (Rw (aQ rr) (Rw sizeLine_eq (Q4 c))));exact k _ h' s.toks ⟨_,vs,c',rfl,cM (S:=S),hn,rr.mono (.up hk) _ _⟩ ⟨hk⟩
theorem Bs(S:aZ T π ρ s.heap σ){a r:V}{a':Value}(ra:Rel T π ρ s.heap a a')(e:((cN σ a).bind fun l=>if l.length<=lim then some (V.aj l)else none)=some r):bu T π ρ af w A s (call (B1.fn .tuple) [a']) r:=by obtain⟨l,hl,e⟩:=Option.bind_eq_some_iff.mp e;obtain⟨c,rfl⟩:=jH e;obtain⟨p,vs,n,rfl,ho,rr⟩:=dZ S ra hl;refine iy fun Q k=>call_tuple_list ho.isList (fun h' hk=>?_) (Rw size_toArray (Rw (aQ rr) (Rw sizeLine_eq (Q4 c))));exact k _ _ s.toks (gX (s:={s with heap:=h'}) (S.up hk) (rr.mono (.up hk) _ _)) ⟨fun b o e=>Heap.get?_push_of_some _ (hk b o e)⟩
theorem Eo(R:kg A){l:List V}{r:V}{a':Value}(ra:Rel T π ρ s.heap (.lst l) a')(e:(if(l.all fun v=>match v with|.bool _=>true|_=>false)=true then some (V.bool (l.any fun v=>match v with|.bool b=>b|_=>false))else none)=some r):bu T π ρ af w A s (call (B1.fn .any) [a']) r:=by
 obtain⟨c,rfl⟩:=jH e;obtain⟨p,vs,n,rfl,_,ho,rr⟩:=ra;refine iy fun Q k=>call_any_walk (wpAny_pyIter_list ho.isList ?_);haveI lS:p≠s.heap.objs.size:=fun z=>lt_irrefl _ (z▸Heap.lt_size ho);refine⟨_,[s.heap.objs.size,p],[s.heap.objs.size],_,_,_,nO l,rfl,Walks.list (A:=A.in1) R.handled s.heap.objs.size p lS (List.toArray vs),⟨⟨_,Heap.get?_push_size _ rfl,rfl,rfl⟩,ho.isList.push _⟩,?_,fun h' tk hk=>?_⟩
 ·intro i v s' Q' E' hv hq;obtain⟨x,hx,rv⟩:=tC rr (by simpa using hv);have:=all_eq_true.mp c x (List.mem_of_getElem? hx)
  cases x with
  |bool b=>cases rv;exact wpAny_truthy_bool ((show nO l i=b from congrArg (fun o:Option V=>match o with|some (.bool b)=>b|_=>false) hx)▸hq)
  |_=>cases this
 ·refine k _ h' tk ?_ ⟨fun b o eb=>hk b o (fun z=>?_) (Heap.get?_push_of_some _ eb)⟩
  ·refine Rw size_toArray (Rw (aQ rr) (Rw (any_range l c) (?_)));first|done|rfl
  ·exact lt_irrefl _ (mem_singleton.mp z▸Heap.lt_size eb)
theorem Gr(R:kg A)(S:aZ T π ρ s.heap σ){b:B1}{a r:V}{a':Value}(ra:Rel T π ρ s.heap a a')(e:gU b σ a=some r):bu T π ρ af w A s (call b.fn [a']) r:=by
 cases b with
 |len=>exact H2 S ra e
 |ord=>cases a with
  |str x=>cases x with
   |nil=>exact nn e
   |cons c x=>cases x with
    |nil=>replace e:=oj e;subst e;obtain⟨t,rfl⟩:=ra;exact bE ⟨_,rfl⟩ fun Q k=>P.ord_of_char k
    |cons=>exact nn e
  |_=>exact nn e
 |chr=>cases a with
  |int i=>obtain⟨c,rfl⟩:=jH (e);obtain⟨t,rfl⟩:=ra;exact bE ⟨_,rfl⟩ fun Q k=>P.chr_of_int (by simp;exact Rm c.1 c.2) k
  |_=>exact nn e
 |abs=>cases a with
  |int i=>replace e:=oj e;subst e;obtain⟨t,rfl⟩:=ra;refine iy fun Q k=>call_abs_int fun u tk=>(k _ s.heap _ ⟨u,?_⟩ (.refl _));congr 1;split<;>(first|exact N4 (by assumption)|exact YK (by assumption))
  |_=>exact nn e
 |list=>exact Dg S ra e
 |tuple=>exact Bs S ra e
 |any=>cases a with
  |lst l=>exact Eo R ra e
  |_=>exact nn e
 |str=>cases a with
  |int i=>obtain⟨c,rfl⟩:=jH (e);obtain⟨t,rfl⟩:=ra;exact bE (v:=.str (Str.ofString (toString i)) s.toks) ⟨_,Rw (AN i c.1 c.2) rfl⟩ fun Q k=>P.str_of_int (Wr c.1 c.2 (Nat.log2_le_self i.natAbs)) k
  |_=>exact nn e
theorem Hy(R:kg A){x y:Int}{a' b':Value}(ra:Rel T π ρ s.heap (.int x) a')(rb:Rel T π ρ s.heap (.int y) b'):bu T π ρ af w A s (call (.builtin "max") [a',b']) (.int (if x<y then y else x)):=by
 obtain⟨t,rfl⟩:=ra;obtain⟨u,rfl⟩:=rb;refine iy fun Q k=>max_two_ints R.handled fun h' tk hk=>k _ h' tk ?_ ⟨hk⟩
 split<;>rename_i c
 ·exact⟨u,rfl⟩
 ·exact⟨t,rfl⟩
end
end
section
structure jG(K:Frag)(T:Tab)(P:Prog)(fa:Nat->Addr)(c:Nat):Prop where
 ga:findIn K (.ref (T.cls c)) "__getattribute__"=some (some (.builtin "object.__getattribute__"))
 gt:findIn K (.ref (T.cls c)) "__getattr__"=some none
 sa:findIn K (.ref (T.cls c)) "__setattr__"=some (some (.builtin "object.__setattr__"))
 po:plainOver K (T.cls c)=true
 hd:hasDictIn K (T.cls c)=true
 ZF:makesIn K (T.cls c)=true
 data:∀k,k<T.n->P.aC c k=none->findIn K (.ref (T.cls c)) (T.fk k)=some none/\takerIn K (T.cls c) (T.fk k)=some none
 aC:∀k f,P.aC c k=some f->k<T.n/\findIn K (.ref (T.cls c)) (T.fk k)=some (some (.ref (fa f)))/\isFn K (.ref (fa f))=true
 init:findIn K (.ref (T.cls c)) "__init__"=some (some (.ref (fa (P.init c))))/\isFn K (.ref (fa (P.init c)))=true
def Inj(T:Tab):Prop:=∀i j,i<T.n->j<T.n->T.fk i=T.fk j->i=j
section
variable {T:Tab} {π:Addr->Prop} {ρ:bZ} {σ:St} {af:Program} {w:World} {A:Around} {s:Shared} {K:Frag} {P:Prog} {fa:Nat->Addr}
theorem BV(J:Inj T){i j:Nat}(hi:i<T.n)(hj:j<T.n)(h:i≠j):(T.fk i==T.fk j)=false:=by rw[beq_eq_false_iff_ne];exact fun z=>h (J i j hi hj z)
theorem jq{e:DictEntry}{x y:Str}{tk:Tok}(h:e.key=.str x tk):e.key.isStr y=(x==y):=Rw h rfl
theorem gH{h:Heap}(J:Inj T){k:Nat}(hk:k<T.n):∀{fs:List (Nat×V)} {es:List DictEntry},(∀j∈fs.map (·.1),j<T.n)->hJ T π ρ h fs es->(∀x,field k fs=some x->∃v,getL (T.fk k) es=some (some v)/\Rel T π ρ h x v)/\(field k fs=none->getL (T.fk k) es=some none)
 |[]=>by intro _ r;cases r;exact⟨fun x e=>(nn e),fun y_=>rfl⟩
 |(j,y)::fs=>by
  intro b kW;obtain⟨e,t,q,⟨tk,qL⟩,a,r⟩:=kW;subst q;haveI any:∀z,(e::t).any z=(z e||t.any z):=fun z=>rfl;haveI hr:e.refKey=false:=by unfold DictEntry.refKey;exact Rw qL rfl
  by_cases z:j=k
  ·subst z;haveI hs:e.key.isStr (T.fk j)=true:=Rw (jq qL) (beq_self_eq_true _);refine⟨fun x ex=>?_,fun ex=>?_⟩
   ·simp only[m9,if_true,Option.some.injEq]at ex;subst ex;exact⟨e.val,by unfold getL;exact Rw (find?_cons) (Rw hs rfl),a⟩
   ·simp only[m9,if_true]at ex;exact nomatch ex
  ·haveI hs:e.key.isStr (T.fk k)=false:=Rw (jq qL) (BV J (b j (by simp)) hk z)
   have g:getL (T.fk k) (e::t)=getL (T.fk k) t:=by unfold getL;rw[find?_cons,hs,List.any_cons,hr,Bool.false_or]
   refine⟨fun x ex=>?_,fun ex=>?_⟩
   ·simp only[m9,if_neg z]at ex;exact Rw g ((gH J hk (fun i hi=>b i (mem_cons_of_mem _ hi)) r).1 x ex)
   ·simp only[m9,if_neg z]at ex;exact Rw g ((gH J hk (fun i hi=>b i (mem_cons_of_mem _ hi)) r).2 ex)
theorem vr{h:Heap}:∀{fs:List (Nat×V)} {es:List DictEntry},hJ T π ρ h fs es->es.length=fs.length
 |[]=>by intro r;cases r;rfl
 |(_,_)::fs=>by intro gY;obtain⟨e,t,q,_,_,r⟩:=gY;subst q;simp[vr r]
theorem vG{h:Heap}(J:Inj T){k:Nat}(hk:k<T.n){x:V}{v:Value}{Hr:Int}{tk:Tok}(rv:Rel T π ρ h x v):∀{fs:List (Nat×V)} {es:List DictEntry},(∀j∈fs.map (·.1),j<T.n)->hJ T π ρ h fs es->hJ T π ρ h (setField k x fs) (putL (T.fk k) Hr (.str (T.fk k) tk) v es)
 |[],_,_,r=>by cases r;exact⟨_,[],rfl,⟨tk,rfl⟩,rv,rfl⟩
 |(j,y)::fs,_,b,⟨e,t,q,⟨tk',qL⟩,a,r⟩=>by
  subst q;have hj:=b j (by simp);by_cases z:j=k
  ·subst z;haveI hs:e.key.isStr (T.fk j)=true:=Rw (jq qL) (beq_self_eq_true _);simp only[qe,putL,hs];exact⟨_,t,rfl,⟨tk',qL⟩,rv,r⟩
  ·have hs:e.key.isStr (T.fk k)=false:=Rw (jq qL) (BV J hj hk z);simp only[qe,if_neg z,putL,hs];exact⟨e,_,rfl,⟨tk',qL⟩,a,vG J hk rv (fun i hi=>b i (mem_cons_of_mem _ hi)) r⟩
theorem iS{k i:Nat}{x:V}:∀{fs:List (Nat×V)},i∈(setField k x fs).map (·.1)->i=k\/i∈fs.map (·.1)
 |[]=>@fun h=>.inl (mem_singleton.mp h)
 |(j,y)::fs=>@fun h=>by
  haveI h:i∈(if j=k then(j,x)::fs else(j,y)::setField k x fs).map (·.1):=h;by_cases e:j=k
  ·rw[if_pos e]at h;exact .inr h
  ·rw[if_neg e]at h;rcases mem_cons.mp h with h|h
   ·exact .inr (h▸mem_cons_self)
   ·exact(iS h).imp id (mem_cons_of_mem _)
theorem Dt{k:Nat}{x:V}(hk:k<T.n){c:Nat}{fs:List (Nat×V)}:ow T c fs->fs.length<100->ow T c (setField k x fs):=by
 haveI len:∀fs:List (Nat×V),(setField k x fs).length<=fs.length+1:=by
  intro fs
  induction fs with
  |nil=>exact le_refl _
  |cons p fs ih=>
   show(if p.1=k then(p.1,x)::fs else(p.1,p.2)::setField k x fs).length<=fs.length+1+1;by_cases h:p.1=k
   ·exact Rw (if_pos h) (le_succ _)
   ·exact Rw (if_neg h) (succ_le_succ ih)
 haveI nd:∀fs:List (Nat×V),(fs.map (·.1)).Nodup->((setField k x fs).map (·.1)).Nodup:=by
  intro fs
  induction fs with
  |nil=>exact fun _=>nodup_cons.mpr ⟨not_mem_nil,List.nodup_nil⟩
  |cons p fs ih=>
   intro h;replace h:=nodup_cons.mp h;show((if p.1=k then(p.1,x)::fs else(p.1,p.2)::setField k x fs).map (·.1)).Nodup;by_cases e:p.1=k
   ·exact Rw (if_pos e) (nodup_cons.mpr h)
   ·exact Rw (if_neg e) (nodup_cons.mpr ⟨fun m=>(iS m).elim e h.1,ih h.2⟩)
 exact fun hV l=>⟨hV.1,nd _ hV.2.1,fun i hi=>(iS hi).elim (fun e=>e▸hk) (hV.2.2.1 i),le_trans (len _) l⟩
theorem sW(S:aZ T π ρ s.heap σ){a:V}{a':Value}{c:Nat}{fs:List (Nat×V)}(ra:Rel T π ρ s.heap a a')(e:fR σ a=some (c,fs)):qX fun x d es n=>yi (a'=.ref x) (s.heap.get? x=some (instObj (T.cls c) d)) (s.heap.get? d=some (dictOf es n)) (ow T c fs) (hJ T π ρ s.heap fs es):=by
 cases a with
 |obj c' BH=>cases e;obtain⟨x,d,es,n,e,_,_,o,q,ko,r⟩:=ra;exact⟨x,d,es,n,e,o,q,ko,r⟩
 |loc n=>obtain⟨c',BH,q,e⟩:=HE e;cases e;refine cps fun G kG=>?_;obtain⟨⟨x,d⟩,ep,_,o,es,m,q',ko,r⟩:=S.objs n _ q (by intro z;cases z);exact kG ⟨x,d,es,m,cD ra ep,o,q',ko,r⟩
 |_=>exact nn e
theorem jx{x d:Addr}{c:Nat}{es:List DictEntry}{n:Nat}(o:s.heap.get? x=some (instObj (T.cls c) d))(q:s.heap.get? d=some (dictOf es n)):InstAt s.heap x (instObj (T.cls c) d) (T.cls c) (some (dictOf es n)):=⟨o,rfl,rfl,q⟩
theorem za{h:Heap}{x:V}{v:Value}(r:Rel T π ρ h x v):handedIn v=true:=by
 cases x with
 |none=>cases r;rfl
 |bool=>cases r;rfl
 |int=>obtain⟨t,rfl⟩:=r;rfl
 |str=>obtain⟨t,rfl⟩:=r;rfl
 |aj=>obtain⟨_,_,_,rfl,_⟩:=r;rfl
 |lst=>obtain⟨_,_,_,rfl,_⟩:=r;rfl
 |obj=>obtain⟨_,_,_,_,rfl,_⟩:=r;rfl
 |loc n=>obtain⟨_,rfl,_⟩:=r;rfl
set_option tactic.hygienic true in
theorem Gy(J:Inj T)(C:∀c,c<T.nc->jG K T P fa c)(X:K.In s.heap)(S:aZ T π ρ s.heap σ){a r:V}{a':Value}{k:Nat}(hk:k<T.n)(ra:Rel T π ρ s.heap a a')(e:nA P σ a k=some r):bu T π ρ af w A s (getAttr a' (T.fk k) true) r:=by
 unfold nA at e
 split at e
 ·rename_i c fs q
  split at e
  ·rename_i hm;refine cps fun G kG=>?_;obtain⟨x,d,es,n,rfl,o,od,ko,rr⟩:=sW S ra q;obtain⟨v,hv,rv⟩:=(gH J hk ko.2.2.1 rr).1 r e;refine kG ?_;haveI D:=C c ko.1;refine bE rv fun Q k'=>get_value X (jx o od) D.ga (findObj_own D.hd (D.data k hk hm).1 rfl hv) (za rv) k'
  ·exact nn e
 ·exact nn e
set_option tactic.hygienic true in
theorem FW(J:Inj T)(C:∀c,c<T.nc->jG K T P fa c)(X:K.In s.heap)(S:aZ T π ρ s.heap σ){a:V}{a':Value}{k f:Nat}(ra:Rel T π ρ s.heap a a')(e:lk P σ a k=some f){pl:Sem Bool}{Q:Value×List Value->Shared->Prop}
  (h:Q (.ref (fa f),[a']) s):wpAny (model af w) A (getMethod a' (T.fk k) pl) Q aU s:=by
 unfold lk at e
 split at e
 ·rename_i c fs q
  split at e
  ·rename_i hm;obtain⟨x,d,es,n,rfl,o,od,ko,rr⟩:=sW S ra q;haveI D:=C c ko.1;haveI oo:=D.aC k f e;exact method_fn X (jx o od) D.ga D.gt oo.2.1 (beq_iff_eq.mp oo.2.2) (by show(lookIn (T.fk k) (dictOf es n)).map _=_;rw[lookIn_dict,((gH J oo.1 ko.2.2.1 rr).2 hm)];rfl) h
  ·exact nn e
 ·exact nn e
end
end
section
section
variable {T:Tab} {π:Addr->Prop} {ρ:bZ} {σ:St} {af:Program} {w:World} {A:Around} {s:Shared} {K:Frag} {P:Prog} {fa:Nat->Addr}
theorem vc(name:Str)(Hr:Int)(key v:Value):∀es:List DictEntry,(putL name Hr key v es).length<=es.length+1
 |[]=>le_refl _
 |e::r=>by unfold putL;split<;>simp<;>exact Rv (vc name Hr key v r)
set_option tactic.hygienic true in
theorem uH{x d:Addr}{c:Nat}{es:List DictEntry}{n:Nat}{name:Str}{tk:Tok}{v:Value}{R:Result->Shared->Prop}(D:jG K T P fa c)(X:K.In s.heap)(o:s.heap.get? x=some (instObj (T.cls c) d))(q:s.heap.get? d=some (dictOf es n))
  (ht:takerIn K (T.cls c) name=some none)(hl:(getL name es).isSome=true)(hz:es.length<=500)
  (h:∀h',h'.get? d=some (dictOf (putL name (PyData.keyHash w.params name) (.str name s.toks) v es) (putN name es n))->Heap.SameBut d s.heap h'->R (.ok (.ret .none)) {s with heap:=h',toks:=s.toks+1}):codeAny (model af w) A (.call (.builtin "object.__setattr__") ⟨[.ref x,.str name tk,v],[]⟩) R s:=by
 refine osa_open X (jx o q) D.po ht fun b=>?_;obtain⟨cd,hc,LL⟩:=any_some D.hd;refine wpAny_bind (wpAny_pure (wpAny_bind (wpAny_bind (wpAny_loadPart o (wpAny_bind ((looks_clsIn X hc).here (Rw LL (wpAny_pure (wpAny_bind (wpAny_pure (wpAny_bind (wpAny_bind (wpAny_bind (wpAny_askSetting (wpAny_pure (wpAny_bind (wpAny_mkText (wpAny_bind (wpAny_loadPart q ?_)))))))))))))))))))
 haveI cc:(!es.toArray.any (·.key.isStr name)&&es.toArray.any (·.refKey))=false:=by
  refine Lw Array.any_toList (Lw Array.any_toList (?_));unfold getL at hl
  split at hl
  ·rename_i en he;exact Rw (any_eq_true.mpr ⟨en,mem_of_find?_eq_some he,List.find?_some he⟩) rfl
  ·split at hl
   ·exact nomatch hl
   ·rename_i z;rw[Bool.not_eq_true]at z;rw[z,Bool.and_false]
 dsimp only;rw[aRefKeyMayBeTheName_at,cc];haveI e':=putName_dict name (PyData.keyHash w.params name) (.str name s.toks) v es n;haveI D':(s.heap.update d (Obj.putName name (PyData.keyHash w.params name) (.str name s.toks) v)).get? d=some (dictOf (putL name (PyData.keyHash w.params name) (.str name s.toks) v es) (putN name es n)):=Lw e' (Heap.get?_update_self _ q (Rw e' rfl));refine wpAny_updatePart q ?_;exact wpAny_bind (wpAny_lookBehind D' (pastItsLine_dict (Rw size_toArray (Rw sizeLine_eq (Pb hz (vc name (PyData.keyHash w.params name) (.str name s.toks) v es))))) (wpAny_pure (h _ D' (Heap.SameBut.update ..))))
theorem Ad{h:Heap}(J:Inj T){k:Nat}(hk:k<T.n){fs:List (Nat×V)}{es:List DictEntry}(b:∀j∈fs.map (·.1),j<T.n)(r:hJ T π ρ h fs es):(getL (T.fk k) es).isSome=true:=by
 cases e:field k fs with
 |none=>exact Rw ((gH J hk b r).2 e) rfl
 |some x=>obtain⟨v,hv,_⟩:=(gH J hk b r).1 x e;exact Rw hv rfl
def Left(T:Tab)(π:Addr->Prop)(ρ:bZ)(ab:St)(s:Shared)(Q:Unit->Shared->Prop):Prop:=∀aA h' tk',aZ T π aA h' ab->aK bG ρ s.heap aA h'->Q () {s with heap:=h',toks:=tk'}
theorem zC(J:Inj T)(C:∀c,c<T.nc->jG K T P fa c)(X:K.In s.heap)(S:aZ T π ρ s.heap σ){n k c:Nat}{fs:List (Nat×V)}{v:V}{a' v':Value}(hk:k<T.n)(ra:Rel T π ρ s.heap (.loc n) a')(rv:Rel T π ρ s.heap v v')
  (e:σ[n]?=some (.inst c fs))(hm:P.aC c k=none)(hf:fs.length<100){Q:Unit->Shared->Prop}(h:Left T π ρ (σ.set n (.inst c (setField k v fs))) s Q):wpAny (model af w) A (setAttr a' (T.fk k) v') Q aU s:=by
 refine cps fun G kG=>?_;obtain⟨⟨x,d⟩,ep,fx,o,es,m,q,ko,r⟩:=S.objs n _ e (by intro z;cases z);obtain rfl:=cD ra ep;refine kG ?_;haveI D:=C c ko.1;haveI hl:es.length<=500:=S9 (vr r) ko.2.2.2;refine set_plain X (jx o q) D.sa (uH D X o q (D.data k hk hm).2 (Ad J hk ko.2.2.1 r) hl fun h' hd hs=>?_);haveI kp:Keeps π π ρ ρ s.heap h':=.set ep hs;refine h ρ h' _ (S.set ep hs (by intro z;cases z) ⟨fx,kp.keep _ _ o fx,_,_,hd,Dt hk ko hf,vG J hk (rv.mono kp _ _) ko.2.2.1 (r.mono kp _ _)⟩) (.set ep hs hd)
theorem mJ(S:aZ T π ρ s.heap σ){n:Nat}{l l':List V}{p:Addr}{vs dX:List Value}{m:Nat}(e:σ[n]?=some (.list l))(ep:ρ[n]?=some (some (p,p)))(ho:IsL s.heap p (List.toArray vs) m)
  (f:Array Value->Array Value)(hf:f (List.toArray vs)=List.toArray dX)(rr:bj T π ρ s.heap l' dX):aZ T π ρ (s.heap.update p (Obj.mapSeq f)) (σ.set n (.list l'))/\aK bG ρ s.heap ρ (s.heap.update p (Obj.mapSeq f))/\Keeps π π ρ ρ s.heap (s.heap.update p (Obj.mapSeq f)):=by
 haveI hs:Heap.SameBut p s.heap (s.heap.update p (Obj.mapSeq f)):=Heap.SameBut.update ..
 haveI hn:(s.heap.update p (Obj.mapSeq f)).get? p=some {cls:=.type "list",dict:=none,data:=.seq (List.toArray dX) (if(f (List.toArray vs)).size==(List.toArray vs).size then m else m+1),slots:=#[]}:=by refine Rw (Heap.get?_update_self (Obj.mapSeq f) ho rfl) (?_);simp only[Obj.mapSeq,hf]
 haveI kp:Keeps π π ρ ρ s.heap (s.heap.update p (Obj.mapSeq f)):=.set ep hs;exact⟨S.set ep hs (by intro z;cases z) ⟨rfl,dX,_,hn,rr.mono kp _ _⟩,.set ep hs hn,kp⟩
theorem Ab(S:aZ T π ρ s.heap σ){n:Nat}{l:List V}{v:V}{a' v':Value}(ra:Rel T π ρ s.heap (.loc n) a')(rv:Rel T π ρ s.heap v v')
  (e:σ[n]?=some (.list l))(hz:l.length<lim){Q:Value->Shared->Prop}(h:Left T π ρ (σ.set n (.list (l++[v]))) s (fun y_=>Q .none)):mQ fun p items k=>kE (a'=.ref p) (items.size<=sizeLine) (IsL s.heap p items k) (Q .none {s with heap:=s.heap.update p (Obj.mapSeq fun xs=>xs.push v')}):=by
 obtain⟨p,vs,m,ep,ho,rr⟩:=sig_list S e;obtain rfl:=cD ra ep;haveI oo:=mJ S e ep ho (fun xs=>xs.push v') (by simp) (dH (m:=[v]) rr ⟨v',[],rfl,rv,rfl⟩);exact⟨p,_,m,rfl,by refine Rw size_toArray (Rw (aQ rr) (Rw sizeLine_eq (?_)));unfold lim at hz;exact J8 hz,ho,h ρ _ s.toks oo.1 oo.2.1⟩
theorem H3(S:aZ T π ρ s.heap σ){n:Nat}{l:List V}{v:V}{a':Value}{pos:Pos}(ra:Rel T π ρ s.heap (.loc n) a')(e:σ[n]?=some (.list l))(hv:l.getLast?=some v)(hz:l.length<=lim)
  {Q:Value->Shared->Prop}(h:∀v' aA h' tk',Rel T π aA h' v v'->aZ T π aA h' (σ.set n (.list l.dropLast))->aK bG ρ s.heap aA h'->Q v' {s with heap:=h',toks:=tk'}):∃p,a'=.ref p/\wpAny (model af w) A (callWith pos (.builtin "list.pop") [.ref p] [] []) Q aU s:=by
 refine cps fun G kG=>?_;obtain⟨p,vs,m,ep,ho,rr⟩:=sig_list S e;obtain rfl:=cD ra ep;obtain⟨v',IF,rv⟩:=ez rr ((List.getLast?_eq_getElem?)▸hv);refine kG ⟨p,rfl,P.pop_list ho (by refine Rw size_toArray (Rw (aQ rr) (?_));simpa using IF) ?_ (by refine Rw size_toArray (Rw (aQ rr) (Rw sizeLine_eq (?_)));unfold lim at hz;exact Q4 hz)⟩
 haveI oo:=mJ S e ep ho (fun xs=>xs.eraseIdxIfInBounds ((List.toArray vs).size-1)) (by
  haveI lS:vs≠[]:=by intro z;subst z;simp at IF
  show(List.toArray vs).eraseIdxIfInBounds _=_;rw[Array.eraseIdxIfInBounds,dif_pos (Rw size_toArray (IT (length_pos_iff.mpr lS)))];apply Array.ext'
  simp) (tT rr);exact h v' ρ _ s.toks (rv.mono oo.2.2 _ _) oo.1 oo.2.1
theorem y7{l:Addr}{items:Array Value}{n:Nat}{k:Int}{t:Tok}{v:Value}{E:Value->Shared->Prop}{Q:Unit->Shared->Prop}(ho:IsL s.heap l items n)(h0:0<=k)(hn:k<items.size)(JA:k<2 ^ 63)
  (hQ:Q () {s with heap:=s.heap.update l (Obj.mapSeq (·.setIfInBounds k.toNat v))}):wpAny (model af w) A (setItem (.ref l) (.int k t) v) Q E s:=by
 haveI hl:=ho.isList;unfold setItem
 try with_reducible refine wpAny_holding ?_
 first|refine wpAny_bind (wpAny_pure ?_)|skip
 refine wpAny_bind (wpAny_sequenceKey hl.typeIs (by decide) (wpAny_bind (wpAny_callSpecial?_slot hl.typeIs slot_list_setitem
  (wpAny_call_entry slot_list_setitem hl.typeIs entry_list_setitem ?_ (args_list_setitem _ _ _)))))
 show wpAny _ _ (Builtin.List.listSubscript? (.int k t)>>=_) _ _ s;refine wpAny_bind (wpAny_listSubscript_int (fitsIndex_of h0 JA) ?_);clear JA;obtain⟨j,rfl⟩:=Int.eq_ofNat_of_zero_le h0;refine wpAny_bind (wpAny_bind (wpAny_seqItemAt ho rfl (wpAny_pure (Rw (Array.getElem?_eq_getElem (IS hn)) (?_)))));refine wpAny_bind (wpAny_setSeqItemAt ho rfl ?_)
 first
  |exact wpAny_bind (wpAny_pure (wpAny_pure ⟨.none,rfl,wpAny_pure hQ⟩))
  |exact wpAny_pure ⟨.none,rfl,wpAny_pure hQ⟩
theorem yt(S:aZ T π ρ s.heap σ){n j:Nat}{k:Int}{l:List V}{v:V}{a' k' v':Value}(ra:Rel T π ρ s.heap (.loc n) a')(rk:Rel T π ρ s.heap (.int k) k')(rv:Rel T π ρ s.heap v v')
  (e:σ[n]?=some (.list l))(h0:0<=k)(hp:aw k l.length=some j){Q:Unit->Shared->Prop}(h:Left T π ρ (σ.set n (.list (l.set j v))) s Q):wpAny (model af w) A (setItem a' k' v') Q aU s:=by
 obtain⟨p,vs,m,ep,ho,rr⟩:=sig_list S e;obtain rfl:=cD ra ep;obtain⟨t,rfl⟩:=rk;obtain⟨hj,hz,q⟩:=fV hp;haveI ZI:k=(j:Int):=by rcases q with⟨_,rfl,_⟩|⟨c,_,_⟩<;>(first|exact Fc (by assumption)|exact YH h0 hj (by assumption))
 subst ZI
 haveI oo:=mJ S e ep ho (·.setIfInBounds j v') (by
  rw[Array.setIfInBounds,dif_pos (Rw size_toArray (TP q (aQ rr)))];rfl) (uX j rr rv);exact y7 ho Ve (Rw size_toArray (Yg q (aQ rr))) (X3 hz.2) (h ρ _ s.toks oo.1 oo.2.1)
theorem sj(k:Int)(v:V):∀(l:List (Int×V)) (i:Int),bx i (dput k v l)=if i=k then some v else bx i l
 |[]=>@fun i=>by
  by_cases h:i=k
  ·exact(if_pos h.symm).trans (if_pos h).symm
  ·exact(if_neg fun e=>h e.symm).trans (if_neg h).symm
 |(j,x)::r=>@fun i=>by
  show bx i (if j=k then(j,v)::r else(j,x)::dput k v r)=if i=k then some v else if j=i then some x else bx i r
  by_cases h:j=k
  ·refine Rw (if_pos h) ?_;show(if j=i then some v else bx i r)=_;by_cases q:i=k
   ·exact(if_pos (h.trans q.symm)).trans (if_pos q).symm
   ·exact Rw (if_neg fun e=>q (e.symm.trans h)) (Rw (if_neg q) (Rw (if_neg fun e=>q (e.symm.trans h)) rfl))
  ·refine Rw (if_neg h) ?_;show(if j=i then some x else bx i (dput k v r))=_;refine Rw (sj k v r i) (?_);by_cases q:j=i
   ·exact Rw (if_pos q) (Rw (if_neg fun e=>h (q.trans e)) (Rw (if_pos q) rfl))
   ·exact Rw (if_neg q) (Rw (if_neg q) rfl)
theorem pT(k:Int)(v:V):∀l:List (Int×V),bx k l=none->(dput k v l).length=l.length+1
 |[]=>@fun _=>rfl
 |(j,x)::r=>@fun h=>by
  unfold dput;by_cases q:j=k
  ·simp[r7,q]at h
  ·refine Rw (if_neg q) (?_);simp only[r7,if_neg q]at h;simp[pT k v r h]
theorem zJ(S:aZ T π ρ s.heap σ){n:Nat}{k:Int}{l:List (Int×V)}{v:V}{a' k' v':Value}(ra:Rel T π ρ s.heap (.loc n) a')(rk:Rel T π ρ s.heap (.int k) k')(rv:Rel T π ρ s.heap v v')
  (e:σ[n]?=some (.dict l))(hk:bx k l=none)(hz:l.length<lim){Q:Unit->Shared->Prop}(h:Left T π ρ (σ.set n (.dict (dput k v l))) s Q):wpAny (model af w) A (setItem a' k' v') Q aU s:=by
 refine cps fun G kG=>?_;obtain⟨⟨p,q⟩,ep,z,nm,_,f,hm,hle,hf⟩:=S.objs n _ e (by intro z;cases z);refine kG ?_;simp only at z;subst z;obtain rfl:=cD ra ep;obtain⟨t,rfl⟩:=rk;refine wpAny_setItem_intMap_le hm hle (by refine Rw sizeLine_eq (?_);unfold lim at hz;exact J8 hz) fun h' We QG hs=>?_;have kp:Keeps π π ρ ρ s.heap h':=.set ep hs;refine cps fun G kG=>?_;obtain⟨o',_,_,Di,_⟩:=id We;refine kG (h ρ h' _ (S.set ep hs (by intro z;cases z) ⟨rfl,nm,fun z=>absurd (congrArg List.length z) (by refine Rw (pT k v l hk) (?_);simp),_,We,Rw (pT k v l hk) QG,fun i=>?_⟩) (.set ep hs Di));rw[sj];by_cases hi:i=k
 ·refine Rw (if_pos hi) (?_);simp only[if_pos hi];exact⟨v',rfl,rv.mono kp _ _⟩
 ·refine Rw (if_neg hi) (?_);simp only[if_neg hi];haveI:=hf i;revert this
  cases bx i l with
  |none=>exact id
  |some x=>exact fun hV=>by obtain⟨u,e1,r1⟩:=hV;exact⟨u,e1,r1.mono kp _ _⟩
theorem xD(S:aZ T π ρ s.heap σ){l:List V}{vs:List Value}(r:bj T π ρ s.heap l vs)(hl:l.length<=lim){Q:Value->Shared->Prop}
  (h:∀v' aA h' tk',Rel T π aA h' (.loc σ.length) v'->aZ T π aA h' (σ++[.list l])->aK bG ρ s.heap aA h'->Q v' {s with heap:=h',toks:=tk'}):wpAny (model af w) A (newList vs) Q aU s:=by
 refine lG ?_ (aQ r▸hl);haveI up:∀b o,s.heap.get? b=some o->(s.heap.push {cls:=.type "list",data:=.seq vs.toArray}).get? b=some o:=fun y_ y_ e=>Heap.get?_push_of_some _ e;refine h _ (ρ++[some (s.heap.objs.size,s.heap.objs.size)]) _ s.toks ⟨_,rfl,by simp[S.len],fun p ep=>?_⟩ (S.add (cm _) (fun z=>cM (S:=S) (.inl z)) up (by intro z;cases z) ⟨rfl,vs,0,Heap.get?_push_size _ rfl,r.mono (.add _ (cm _) up) _ _⟩) (.add _ (cm _) up);rw[getElem?_append_right (Rw S.len (le_refl _)),S.len,sub_self]at ep;cases ep;rfl
theorem xY(S:aZ T π ρ s.heap σ)(hB:s.heap.objs.size≠sysModules){Q:Value->Shared->Prop}{env:Env}{pos:Pos}
  (h:∀v' aA h' tk',Rel T π aA h' (.loc σ.length) v'->aZ T π aA h' (σ++[.dict []])->aK bG ρ s.heap aA h'->Q v' {s with heap:=h',toks:=tk'}):wpAny (model af w) A (eval (.Dict [] [] pos) env) Q aU s:=by
 refine wpAny_Dict_empty ?_;haveI up:∀b o,s.heap.get? b=some o->(s.heap.push {cls:=.type "dict",data:=.dict #[]}).get? b=some o:=fun y_ y_ e=>Heap.get?_push_of_some _ e;refine h _ (ρ++[some (s.heap.objs.size,s.heap.objs.size)]) _ s.toks ⟨_,rfl,by simp[S.len],fun p ep=>?_⟩ (S.add (cm _) (fun z=>cM (S:=S) (.inl z)) up (by intro z;cases z) ⟨rfl,hB,fun y_=>Heap.get?_push_size _ rfl,_,Heap.IntMap.new _,Heap.DictLe.new _,fun k=>rfl⟩) (.add _ (cm _) up);rw[getElem?_append_right (Rw S.len (le_refl _)),S.len,sub_self]at ep;cases ep;rfl
theorem H6(S:aZ T π ρ s.heap σ){x r:V}{x':Value}{ab:St}(rx:Rel T π ρ s.heap x x')(e:wj σ x=some (r,ab)):∃aA,Rel T π aA s.heap r x'/\aZ T π aA s.heap ab/\aK bG ρ s.heap aA s.heap:=by
 cases x with
 |loc n=>
  haveI go:∀y,σ[n]?=y->(match y with|some (.list l)=>some (V.lst l,σ.set n .dead)|some (.inst c fs)=>some (.obj c fs,σ.set n .dead)|_=>none)=some (r,ab)->∃aA,Rel T π aA s.heap r x'/\aZ T π aA s.heap ab/\aK bG ρ s.heap aA s.heap:=fun y q e=>by
   cases y with
   |none=>exact nn e
   |some o=>cases o with
    |list l=>cases e;refine cps fun G kG=>?_;obtain⟨p,vs,m,ep,ho,rr⟩:=sig_list S q;obtain rfl:=cD rx ep;exact kG ⟨ρ.set n none,⟨p,vs,m,rfl,fun z=>z.elim (fun y=>S.a8 p y ⟨n,_,ep,rfl⟩) (l7 S ep),ho,rr.mono (.kill n) _ _⟩,S.kill n,.kill n⟩
    |inst c fs=>cases e;refine cps fun G kG=>?_;obtain⟨⟨x,d⟩,ep,fx,o,es,m,q',ko,r⟩:=S.objs n _ q (by intro z;cases z);obtain rfl:=cD rx ep;exact kG ⟨ρ.set n none,⟨x,d,es,m,rfl,fun z=>fx (z.imp id ff.ua),fun z=>z.elim (fun y=>S.a8 d y ⟨n,_,ep,rfl⟩) (l7 S ep),o,q',ko,r.mono (.kill n) _ _⟩,S.kill n,.kill n⟩
    |_=>exact nn e
  exact go _ rfl e
 |_=>exact nn e
end
end
theorem qZ{a:Bool}(h:(!a)=true):a=false:=by cases a<;>first|rfl|exact absurd h bf
theorem f6{p:Prop}[Decidable p]{x:p->Bool}{C:Prop}(f:∀q,x q=true->C)(h:(if q:p then x q else false)=true):C:=if q:p then f q (by rw[dif_pos q]at h;exact h)else by rw[dif_neg q]at h;exact absurd h bf
noncomputable def jk(e:PySem.Expr)(k:Const->Nat->Pos->Bool):Bool:=if h:e.ctorIdx=19 then PySem.Expr.Constant.elim e h k else false
theorem jk.ind{M:PySem.Expr->Prop}{k:Const->Nat->Pos->Bool}(f:∀a b c,k a b c=true->M (.Constant a b c)){e:PySem.Expr}(h:jk e k=true):M e:=f6 (fun q h=>PySem.Expr.Constant.elim (motive_1:=fun e=>∀q,PySem.Expr.Constant.elim e q k=true->M e) e q (fun a b c y_ h=>f a b c h) q h) h
noncomputable def cG(e:PySem.Expr)(k:Str->Pos->Bool):Bool:=if h:e.ctorIdx=23 then PySem.Expr.Name.elim e h k else false
theorem cG.ind{M:PySem.Expr->Prop}{k:Str->Pos->Bool}(f:∀a b,k a b=true->M (.Name a b)){e:PySem.Expr}(h:cG e k=true):M e:=f6 (fun q h=>PySem.Expr.Name.elim (motive_1:=fun e=>∀q,PySem.Expr.Name.elim e q k=true->M e) e q (fun a b y_ h=>f a b h) q h) h
noncomputable def uY(e:PySem.Expr)(k:UnaryOp->Expr->Pos->Bool):Bool:=if h:e.ctorIdx=3 then PySem.Expr.UnaryOp.elim e h k else false
theorem uY.ind{M:PySem.Expr->Prop}{k:UnaryOp->Expr->Pos->Bool}(f:∀a b c,k a b c=true->M (.UnaryOp a b c)){e:PySem.Expr}(h:uY e k=true):M e:=f6 (fun q h=>PySem.Expr.UnaryOp.elim (motive_1:=fun e=>∀q,PySem.Expr.UnaryOp.elim e q k=true->M e) e q (fun a b c y_ h=>f a b c h) q h) h
noncomputable def BZ(e:PySem.Expr)(k:BoolOp->(List Expr)->Pos->Bool):Bool:=if h:e.ctorIdx=0 then PySem.Expr.BoolOp.elim e h k else false
theorem BZ.ind{M:PySem.Expr->Prop}{k:BoolOp->(List Expr)->Pos->Bool}(f:∀a b c,k a b c=true->M (.BoolOp a b c)){e:PySem.Expr}(h:BZ e k=true):M e:=f6 (fun q h=>PySem.Expr.BoolOp.elim (motive_1:=fun e=>∀q,PySem.Expr.BoolOp.elim e q k=true->M e) e q (fun a b c y_ h=>f a b c h) q h) h
noncomputable def pg(e:PySem.Expr)(k:Expr->(List CmpOp)->(List Expr)->Pos->Bool):Bool:=if h:e.ctorIdx=15 then PySem.Expr.Compare.elim e h k else false
theorem pg.ind{M:PySem.Expr->Prop}{k:Expr->(List CmpOp)->(List Expr)->Pos->Bool}(f:∀a b c d,k a b c d=true->M (.Compare a b c d)){e:PySem.Expr}(h:pg e k=true):M e:=f6 (fun q h=>PySem.Expr.Compare.elim (motive_1:=fun e=>∀q,PySem.Expr.Compare.elim e q k=true->M e) e q (fun a b c d y_ h=>f a b c d h) q h) h
noncomputable def pS(e:PySem.Expr)(k:Expr->Operator->Expr->Pos->Bool):Bool:=if h:e.ctorIdx=2 then PySem.Expr.BinOp.elim e h k else false
theorem pS.ind{M:PySem.Expr->Prop}{k:Expr->Operator->Expr->Pos->Bool}(f:∀a b c d,k a b c d=true->M (.BinOp a b c d)){e:PySem.Expr}(h:pS e k=true):M e:=f6 (fun q h=>PySem.Expr.BinOp.elim (motive_1:=fun e=>∀q,PySem.Expr.BinOp.elim e q k=true->M e) e q (fun a b c d y_ h=>f a b c d h) q h) h
noncomputable def CH(e:PySem.Expr)(k:Expr->Expr->Expr->Pos->Bool):Bool:=if h:e.ctorIdx=5 then PySem.Expr.IfExp.elim e h k else false
theorem CH.ind{M:PySem.Expr->Prop}{k:Expr->Expr->Expr->Pos->Bool}(f:∀a b c d,k a b c d=true->M (.IfExp a b c d)){e:PySem.Expr}(h:CH e k=true):M e:=f6 (fun q h=>PySem.Expr.IfExp.elim (motive_1:=fun e=>∀q,PySem.Expr.IfExp.elim e q k=true->M e) e q (fun a b c d y_ h=>f a b c d h) q h) h
noncomputable def dB(e:PySem.Expr)(k:(List Expr)->Nat->Pos->Bool):Bool:=if h:e.ctorIdx=25 then PySem.Expr.Tuple.elim e h k else false
theorem dB.ind{M:PySem.Expr->Prop}{k:(List Expr)->Nat->Pos->Bool}(f:∀a b c,k a b c=true->M (.Tuple a b c)){e:PySem.Expr}(h:dB e k=true):M e:=f6 (fun q h=>PySem.Expr.Tuple.elim (motive_1:=fun e=>∀q,PySem.Expr.Tuple.elim e q k=true->M e) e q (fun a b c y_ h=>f a b c h) q h) h
noncomputable def kN(e:PySem.Expr)(k:(List Expr)->Pos->Bool):Bool:=if h:e.ctorIdx=24 then PySem.Expr.List.elim e h k else false
theorem kN.ind{M:PySem.Expr->Prop}{k:(List Expr)->Pos->Bool}(f:∀a b,k a b=true->M (.List a b)){e:PySem.Expr}(h:kN e k=true):M e:=f6 (fun q h=>PySem.Expr.List.elim (motive_1:=fun e=>∀q,PySem.Expr.List.elim e q k=true->M e) e q (fun a b y_ h=>f a b h) q h) h
noncomputable def rz(e:PySem.Expr)(k:(List (Option Expr))->(List Expr)->Pos->Bool):Bool:=if h:e.ctorIdx=6 then PySem.Expr.Dict.elim e h k else false
theorem rz.ind{M:PySem.Expr->Prop}{k:(List (Option Expr))->(List Expr)->Pos->Bool}(f:∀a b c,k a b c=true->M (.Dict a b c)){e:PySem.Expr}(h:rz e k=true):M e:=f6 (fun q h=>PySem.Expr.Dict.elim (motive_1:=fun e=>∀q,PySem.Expr.Dict.elim e q k=true->M e) e q (fun a b c y_ h=>f a b c h) q h) h
noncomputable def iT(e:PySem.Expr)(k:Expr->Expr->Pos->Bool):Bool:=if h:e.ctorIdx=21 then PySem.Expr.Subscript.elim e h k else false
theorem iT.ind{M:PySem.Expr->Prop}{k:Expr->Expr->Pos->Bool}(f:∀a b c,k a b c=true->M (.Subscript a b c)){e:PySem.Expr}(h:iT e k=true):M e:=f6 (fun q h=>PySem.Expr.Subscript.elim (motive_1:=fun e=>∀q,PySem.Expr.Subscript.elim e q k=true->M e) e q (fun a b c y_ h=>f a b c h) q h) h
noncomputable def vU(e:PySem.Expr)(k:(Option Expr)->(Option Expr)->(Option Expr)->Pos->Bool):Bool:=if h:e.ctorIdx=26 then PySem.Expr.Slice.elim e h k else false
theorem vU.ind{M:PySem.Expr->Prop}{k:(Option Expr)->(Option Expr)->(Option Expr)->Pos->Bool}(f:∀a b c d,k a b c d=true->M (.Slice a b c d)){e:PySem.Expr}(h:vU e k=true):M e:=f6 (fun q h=>PySem.Expr.Slice.elim (motive_1:=fun e=>∀q,PySem.Expr.Slice.elim e q k=true->M e) e q (fun a b c d y_ h=>f a b c d h) q h) h
noncomputable def fT(e:PySem.Expr)(k:Expr->Str->Pos->Bool):Bool:=if h:e.ctorIdx=20 then PySem.Expr.Attribute.elim e h k else false
theorem fT.ind{M:PySem.Expr->Prop}{k:Expr->Str->Pos->Bool}(f:∀a b c,k a b c=true->M (.Attribute a b c)){e:PySem.Expr}(h:fT e k=true):M e:=f6 (fun q h=>PySem.Expr.Attribute.elim (motive_1:=fun e=>∀q,PySem.Expr.Attribute.elim e q k=true->M e) e q (fun a b c y_ h=>f a b c h) q h) h
noncomputable def nQ(e:PySem.Expr)(k:Expr->(List Expr)->(List Keyword)->Pos->Bool):Bool:=if h:e.ctorIdx=16 then PySem.Expr.Call.elim e h k else false
theorem nQ.ind{M:PySem.Expr->Prop}{k:Expr->(List Expr)->(List Keyword)->Pos->Bool}(f:∀a b c d,k a b c d=true->M (.Call a b c d)){e:PySem.Expr}(h:nQ e k=true):M e:=f6 (fun q h=>PySem.Expr.Call.elim (motive_1:=fun e=>∀q,PySem.Expr.Call.elim e q k=true->M e) e q (fun a b c d y_ h=>f a b c d h) q h) h
noncomputable def Cj(e:PySem.Expr)(k:Expr->(List Comprehension)->Scope->Pos->Bool):Bool:=if h:e.ctorIdx=8 then PySem.Expr.ListComp.elim e h k else false
theorem Cj.ind{M:PySem.Expr->Prop}{k:Expr->(List Comprehension)->Scope->Pos->Bool}(f:∀a b c d,k a b c d=true->M (.ListComp a b c d)){e:PySem.Expr}(h:Cj e k=true):M e:=f6 (fun q h=>PySem.Expr.ListComp.elim (motive_1:=fun e=>∀q,PySem.Expr.ListComp.elim e q k=true->M e) e q (fun a b c d y_ h=>f a b c d h) q h) h
noncomputable def Ck(e:PySem.Const)(k:Bool->Bool):Bool:=if h:e.ctorIdx=1 then PySem.Const.bool.elim e h k else false
theorem Ck.ind{M:PySem.Const->Prop}{k:Bool->Bool}(f:∀a,k a=true->M (.bool a)){e:PySem.Const}(h:Ck e k=true):M e:=f6 (fun q h=>PySem.Const.bool.elim (motive:=fun e=>∀q,PySem.Const.bool.elim e q k=true->M e) e q (fun a y_ h=>f a h) q h) h
noncomputable def B7(e:PySem.Const)(k:Int->Bool):Bool:=if h:e.ctorIdx=2 then PySem.Const.int.elim e h k else false
theorem B7.ind{M:PySem.Const->Prop}{k:Int->Bool}(f:∀a,k a=true->M (.int a)){e:PySem.Const}(h:B7 e k=true):M e:=f6 (fun q h=>PySem.Const.int.elim (motive:=fun e=>∀q,PySem.Const.int.elim e q k=true->M e) e q (fun a y_ h=>f a h) q h) h
noncomputable def vp(e:PySem.Const)(k:Str->Bool):Bool:=if h:e.ctorIdx=5 then PySem.Const.str.elim e h k else false
theorem vp.ind{M:PySem.Const->Prop}{k:Str->Bool}(f:∀a,k a=true->M (.str a)){e:PySem.Const}(h:vp e k=true):M e:=f6 (fun q h=>PySem.Const.str.elim (motive:=fun e=>∀q,PySem.Const.str.elim e q k=true->M e) e q (fun a y_ h=>f a h) q h) h
noncomputable def jE(e:PySem.Stmt)(k:(List Expr)->Expr->Pos->Bool):Bool:=if h:e.ctorIdx=5 then PySem.Stmt.Assign.elim e h k else false
theorem jE.ind{M:PySem.Stmt->Prop}{k:(List Expr)->Expr->Pos->Bool}(f:∀a b c,k a b c=true->M (.Assign a b c)){e:PySem.Stmt}(h:jE e k=true):M e:=f6 (fun q h=>PySem.Stmt.Assign.elim (motive_2:=fun e=>∀q,PySem.Stmt.Assign.elim e q k=true->M e) e q (fun a b c y_ h=>f a b c h) q h) h
noncomputable def Cc(e:PySem.Stmt)(k:Expr->Pos->Bool):Bool:=if h:e.ctorIdx=24 then PySem.Stmt.Expr.elim e h k else false
theorem Cc.ind{M:PySem.Stmt->Prop}{k:Expr->Pos->Bool}(f:∀a b,k a b=true->M (.Expr a b)){e:PySem.Stmt}(h:Cc e k=true):M e:=f6 (fun q h=>PySem.Stmt.Expr.elim (motive_2:=fun e=>∀q,PySem.Stmt.Expr.elim e q k=true->M e) e q (fun a b y_ h=>f a b h) q h) h
noncomputable def xp(e:PySem.Stmt)(k:(Option Expr)->Pos->Bool):Bool:=if h:e.ctorIdx=3 then PySem.Stmt.Return.elim e h k else false
theorem xp.ind{M:PySem.Stmt->Prop}{k:(Option Expr)->Pos->Bool}(f:∀a b,k a b=true->M (.Return a b)){e:PySem.Stmt}(h:xp e k=true):M e:=f6 (fun q h=>PySem.Stmt.Return.elim (motive_2:=fun e=>∀q,PySem.Stmt.Return.elim e q k=true->M e) e q (fun a b y_ h=>f a b h) q h) h
noncomputable def wg(e:PySem.Stmt)(k:Expr->(List Stmt)->(List Stmt)->Pos->Bool):Bool:=if h:e.ctorIdx=12 then PySem.Stmt.If.elim e h k else false
theorem wg.ind{M:PySem.Stmt->Prop}{k:Expr->(List Stmt)->(List Stmt)->Pos->Bool}(f:∀a b c d,k a b c d=true->M (.If a b c d)){e:PySem.Stmt}(h:wg e k=true):M e:=f6 (fun q h=>PySem.Stmt.If.elim (motive_2:=fun e=>∀q,PySem.Stmt.If.elim e q k=true->M e) e q (fun a b c d y_ h=>f a b c d h) q h) h
noncomputable def wN(e:PySem.Stmt)(k:Expr->(List Stmt)->(List Stmt)->Pos->Bool):Bool:=if h:e.ctorIdx=11 then PySem.Stmt.While.elim e h k else false
theorem wN.ind{M:PySem.Stmt->Prop}{k:Expr->(List Stmt)->(List Stmt)->Pos->Bool}(f:∀a b c d,k a b c d=true->M (.While a b c d)){e:PySem.Stmt}(h:wN e k=true):M e:=f6 (fun q h=>PySem.Stmt.While.elim (motive_2:=fun e=>∀q,PySem.Stmt.While.elim e q k=true->M e) e q (fun a b c d y_ h=>f a b c d h) q h) h
noncomputable def xl(e:PySem.Stmt)(k:Expr->Expr->(List Stmt)->(List Stmt)->Pos->Bool):Bool:=if h:e.ctorIdx=9 then PySem.Stmt.For.elim e h k else false
theorem xl.ind{M:PySem.Stmt->Prop}{k:Expr->Expr->(List Stmt)->(List Stmt)->Pos->Bool}(f:∀a b c d e,k a b c d e=true->M (.For a b c d e)){e:PySem.Stmt}(h:xl e k=true):M e:=f6 (fun q h=>PySem.Stmt.For.elim (motive_2:=fun e=>∀q,PySem.Stmt.For.elim e q k=true->M e) e q (fun a b c d e y_ h=>f a b c d e h) q h) h
noncomputable def wo(e:PySem.Stmt)(k:Pos->Bool):Bool:=if h:e.ctorIdx=26 then PySem.Stmt.Break.elim e h k else false
theorem wo.ind{M:PySem.Stmt->Prop}{k:Pos->Bool}(f:∀a,k a=true->M (.Break a)){e:PySem.Stmt}(h:wo e k=true):M e:=f6 (fun q h=>PySem.Stmt.Break.elim (motive_2:=fun e=>∀q,PySem.Stmt.Break.elim e q k=true->M e) e q (fun a y_ h=>f a h) q h) h
noncomputable def rF(e:PySem.Stmt)(k:Pos->Bool):Bool:=if h:e.ctorIdx=27 then PySem.Stmt.Continue.elim e h k else false
theorem rF.ind{M:PySem.Stmt->Prop}{k:Pos->Bool}(f:∀a,k a=true->M (.Continue a)){e:PySem.Stmt}(h:rF e k=true):M e:=f6 (fun q h=>PySem.Stmt.Continue.elim (motive_2:=fun e=>∀q,PySem.Stmt.Continue.elim e q k=true->M e) e q (fun a y_ h=>f a h) q h) h
section
noncomputable def cI{α:Type}(l:List α)(k:α->List α->Bool):Bool:=match l with|a::r=>k a r|[]=>false
theorem cI.ind{α:Type}{M:List α->Prop}{k:α->List α->Bool}(f:∀a r,k a r=true->M (a::r)){l:List α}(h:cI l k=true):M l:=by
 cases l with
 |nil=>exact absurd h bf
 |cons a r=>exact f a r h
noncomputable def bT{α:Type}(l:List α):Bool:=match l with|_::_=>false|[]=>true
theorem bT.ind{α:Type}{M:List α->Prop}(f:M []){l:List α}(h:bT l=true):M l:=by
 cases l with
 |nil=>exact f
 |cons a r=>exact absurd h bf
noncomputable def one{α:Type}(l:List α)(k:α->Bool):Bool:=cI l fun a r=>bT r&&k a
theorem one.ind{α:Type}{M:List α->Prop}{k:α->Bool}(f:∀a,k a=true->M [a]){l:List α}(h:one l k=true):M l:=cI.ind (fun a r h=>bT.ind (M:=fun r=>M (a::r)) (f a (aR h)) (aL h)) h
noncomputable def two{α:Type}(l:List α)(k:α->α->Bool):Bool:=cI l fun a r=>one r (k a)
theorem two.ind{α:Type}{M:List α->Prop}{k:α->α->Bool}(f:∀a b,k a b=true->M [a,b]){l:List α}(h:two l k=true):M l:=cI.ind (fun a r h=>one.ind (M:=fun r=>M (a::r)) (f a) h) h
noncomputable def l9{α:Type}(l:Option α)(b:Bool)(k:α->Bool):Bool:=match l with|none=>b|some a=>k a
theorem l9.ind{α:Type}{M:Option α->Prop}{b:Bool}{k:α->Bool}(g:b=true->M none)(f:∀a,k a=true->M (some a)){l:Option α}(h:l9 l b k=true):M l:=by
 cases l with
 |none=>exact g h
 |some a=>exact f a h
structure Nm where
 fn:Nat->Str
 cls:Nat->Str
 const:Nat->Str
 Lk:Nat->Bool
 Qf:Nat->Bool
structure Cx where
 scope:Scope
 slot:List (Str×Nat)
noncomputable def gu(e:Expr)(k:Expr->List Expr->Pos->Bool):Bool:=nQ e fun g l kw pos=>bT kw&&k g l pos
theorem gu.ind{M:Expr->Prop}{k:Expr->List Expr->Pos->Bool}(f:∀g l pos,k g l pos=true->M (.Call g l [] pos)){e:Expr}(h:gu e k=true):M e:=nQ.ind (fun g l kw pos h=>bT.ind (M:=fun kw=>M (.Call g l kw pos)) (f g l pos (aR h)) (aL h)) h
noncomputable def nF(e:Expr)(k:Expr->Str->Pos->List Expr->Pos->Bool):Bool:=gu e fun g l pos=>fT g fun o n apos=>k o n apos l pos
theorem nF.ind{M:Expr->Prop}{k:Expr->Str->Pos->List Expr->Pos->Bool}(f:∀o n apos l pos,k o n apos l pos=true->M (.Call (.Attribute o n apos) l [] pos)){e:Expr}(h:nF e k=true):M e:=gu.ind (fun g l pos h=>fT.ind (M:=fun g=>M (.Call g l [] pos)) (fun o n apos h=>f o n apos l pos h) h) h
noncomputable def rH(e:Expr)(k:Expr->CmpOp->Expr->Bool):Bool:=pg e fun l o r y_=>one o fun o=>one r fun r=>k l o r
theorem rH.ind{M:Expr->Prop}{k:Expr->CmpOp->Expr->Bool}(f:∀l o r p,k l o r=true->M (.Compare l [o] [r] p)){e:Expr}(h:rH e k=true):M e:=pg.ind (fun l o r p h=>one.ind (M:=fun o=>M (.Compare l o r p)) (fun o h=>one.ind (M:=fun r=>M (.Compare l [o] r p)) (fun r h=>f l o r p h) h) h) h
noncomputable def rn(e:Expr)(k:Expr->CmpOp->CmpOp->Expr->Expr->Bool):Bool:=pg e fun l o r y_=>two o fun o o'=>two r fun r r'=>k l o o' r r'
theorem rn.ind{M:Expr->Prop}{k:Expr->CmpOp->CmpOp->Expr->Expr->Bool}(f:∀l o o' r r' p,k l o o' r r'=true->M (.Compare l [o,o'] [r,r'] p)){e:Expr}(h:rn e k=true):M e:=pg.ind (fun l o r p h=>two.ind (M:=fun o=>M (.Compare l o r p)) (fun o o' h=>two.ind (M:=fun r=>M (.Compare l [o,o'] r p)) (fun r r' h=>f l o o' r r' p h) h) h) h
noncomputable def oO(e:Expr)(k:Expr->Expr->Expr->List Expr->Scope->Bool):Bool:=Cj e fun e gs sc y_=>one gs fun g=>g.is_async==0&&k e g.target g.iter g.ifs sc
theorem oO.ind{M:Expr->Prop}{k:Expr->Expr->Expr->List Expr->Scope->Bool}(f:∀e t i l sc p,k e t i l sc=true->M (.ListComp e [⟨t,i,l,0⟩] sc p)){e:Expr}(h:oO e k=true):M e:=Cj.ind (fun e gs sc p h=>one.ind (M:=fun gs=>M (.ListComp e gs sc p)) (fun g h=>by
  obtain⟨t,i,l,a⟩:=g;obtain rfl:a=0:=eq_of_beq (aL h)
  exact f e t i l sc p (aR h)) h) h
section
variable (T:Tab) (N:Nm)
noncomputable def isVar(cx:Cx)(x:Str):Bool:=(match cx.scope.names.lookup x with
 |some .local=>true
 |some .cell=>true
 |some .free=>true
 |_=>false)&&x != ("__debug__":Str)
noncomputable def lL(cx:Cx)(x:Str):Bool:=cx.scope.names.lookup x==some .globalImplicit&&x != ("__debug__":Str)
noncomputable def Gs(v:V)(c:Const):Bool:=match v with
 |.none=>Nat.beq c.ctorIdx 0
 |.bool a=>Ck c fun b=>a==b
 |.int a=>B7 c fun b=>a==b
 |.str a=>vp c fun b=>b==⟨a.toArray⟩
 |_=>false
noncomputable def fS(cx:Cx)(x:Str)(e:Expr):Bool:=cG e fun y y_=>y==x&&lL cx x
noncomputable def vS:B1->Str
 |.len=>"len"|.ord=>"ord"|.chr=>"chr"|.abs=>"abs"|.list=>"list"|.tuple=>"tuple"|.any=>"any"|.str=>"str"
noncomputable def eO(n:Nat)(e:Expr):Bool:=!(Nat.beq e.ctorIdx n)
noncomputable def notStar(e:Expr):Bool:=eO 22 e
noncomputable def vK(e:Expr):Bool:=eO 26 e
noncomputable def jK(e:Expr):Bool:=eO 7 e
noncomputable def sO:Src->Bool
 |.zip _ _=>true
 |_=>false
noncomputable def iV:X->Bool
 |.cst (.bool true)=>true
 |_=>false
noncomputable def iw:X->Bool
 |.cst .none=>true
 |_=>false
noncomputable def namesOf:List Expr->List Str->Bool
 |[],l=>bT l
 |e::r,l=>cI l fun x l=>cG e (fun y y_=>y==x)&&namesOf r l
noncomputable def tb(many:Bool)(e:Expr)(ts:List Str):Bool:=bif many then dB e fun es y_ y_=>namesOf es ts else one ts fun x=>cG e fun y y_=>y==x
noncomputable def nameIn(e:Expr):Str:=if h:e.ctorIdx=23 then PySem.Expr.Name.elim e h (fun x y_=>x)else⟨#[]⟩
noncomputable def namesIn(many:Bool)(e:Expr):List Str:=bif many then(if h:e.ctorIdx=25 then PySem.Expr.Tuple.elim e h (fun es y_ y_=>es.map nameIn)else[])else[nameIn e]
noncomputable def CL(cx:Cx)(ts:List Str)(sc:Scope):Bool:=sc.kind==.function&&decide (ts.Nodup)&&sc.names.all (fun p=>match p.2 with
  |.local=>p.1==(".0":Str)||ts.contains p.1
  |.free=>cx.scope.names.lookup p.1==some .cell&&sc.names.lookup p.1==some .free&&p.1 != ("__classdict__":Str)
  |.globalImplicit=>true
  |_=>false)&&ts.all (fun t=>sc.names.lookup t==some .local)&&decide ((sc.names.map (·.1)).Nodup)
noncomputable def fC(cx:Cx)(ts:List Str)(tg:List Nat)(sc:Scope):Cx:=⟨sc,ts.zip tg++cx.slot.filter fun p=>sc.names.lookup p.1==some .free⟩
noncomputable def yZ(cx:Cx)(tg:List Nat):Bool:=decide (tg.Nodup)&&tg.all fun i=>cx.slot.all fun p=>p.2 != i
noncomputable def oT(o:Expr):Bool:=eO 16 o||nQ o fun g y_ y_ y_=>eO 23 g
noncomputable def kU(o:Expr)(apos pos:Pos):Bool:=oT o&&apos.endLine==pos.line
noncomputable def Bh(cx:Cx)(tg:List Nat)(many:Bool)(src:Src)(ts:List Str)(t:Expr)(sc:Scope):Bool:=tb many t ts&&(Nat.beq ts.length tg.length&&(CL cx ts sc&&(yZ cx tg&&(!sO src||many))))
mutual
noncomputable def bk(cx:Cx):X->Expr->Bool
 |.cst v,e=>jk e fun c y_ y_=>Gs v c
 |.gc g,e=>N.Qf g&&fS cx (N.const g) e
 |.var i,e=>cG e fun x y_=>cx.slot.lookup x==some i&&isVar cx x
 |.neg a,e=>uY e fun o e y_=>o==.USub&&bk cx a e
 |.nt a,e=>uY e fun o e y_=>o==.Not&&bk cx a e
 |.bo k es,e=>BZ e fun op l y_=>op==(bif k then .And else .Or)&&(cI l (fun y_ y_=>true)&&ik cx es l)
 |.cmp o a b,e=>rH e fun l op r=>op==o.op&&(bk cx a l&&(bk cx b r&&!behindInMarks op r))
 |.iI o p a b c,e=>rn e fun l op LQ r r'=>op==o.op&&(LQ==p.op&&(bk cx a l&&(bk cx b r&&(bk cx c r'&&!behindInMarks LQ r'))))
 |.bin o a b,e=>pS e fun l op r y_=>op==o.op&&(bk cx a l&&bk cx b r)
 |.eG c a b,e=>CH e fun t e e' y_=>bk cx c t&&(bk cx a e&&bk cx b e')
 |.aj es,e=>dB e fun l y_ y_=>ik cx es l&&Nat.ble l.length 100
 |.lst es,e=>kN e fun l y_=>ik cx es l&&Nat.ble l.length 100
 |.dS es,e=>kN e fun l y_=>ik cx es l&&Nat.ble l.length 100
 |.qB,e=>rz e fun l r y_=>bT l&&bT r
 |.qT a,e=>bk cx a e
 |.bad,_=>true
 |.rep a n,e=>pS e fun l op r y_=>op==.Mult&&kN l fun l y_=>one l fun e=>notStar e&&(bk cx a e&&bk cx n r)
 |.sub a i,e=>iT e fun v s y_=>vK s&&(bk cx a v&&bk cx i s)
 |.dV a lo hi,e=>iT e fun v s y_=>vU s fun l u st y_=>l9 st true (fun y_=>false)&&(bk cx a v&&(l9 l (iw lo) (fun e=>bk cx lo e)&&l9 u (iw hi) fun e=>bk cx hi e))
 |.attr a k,e=>fT e fun v n y_=>n==T.fk k&&(Nat.blt k T.n&&(oT v&&bk cx a v))
 |.call f es,e=>gu e fun g l y_=>N.Lk f&&(fS cx (N.fn f) g&&ik cx es l)
 |.new c es,e=>gu e fun g l y_=>Nat.blt c T.nc&&(fS cx (N.cls c) g&&ik cx es l)
 |.aC a k es,e=>nF e fun o n apos l pos=>n==T.fk k&&(kU o apos pos&&(Nat.ble l.length 25&&(bk cx a o&&ik cx es l)))
 |.b1 b a,e=>gu e fun g l y_=>one l fun e=>fS cx (vS b) g&&(notStar e&&bk cx a e)
 |.max2 a b,e=>gu e fun g l y_=>two l fun e e'=>fS cx "max" g&&(notStar e&&(notStar e'&&(bk cx a e&&bk cx b e')))
 |.app a v,e=>nF e fun o n apos l pos=>n==("append":Str)&&(kU o apos pos&&one l fun e=>notStar e&&(bk cx a o&&bk cx v e))
 |.pop a,e=>nF e fun o n apos l pos=>n==("pop":Str)&&(kU o apos pos&&(bT l&&bk cx a o))
 |.sQ a k d,e=>nF e fun o n apos l pos=>n==("get":Str)&&(kU o apos pos&&two l fun e e'=>notStar e&&(notStar e'&&(bk cx a o&&(bk cx k e&&bk cx d e'))))
 |.lower a,e=>nF e fun o n apos l pos=>n==("lower":Str)&&(kU o apos pos&&(bT l&&bk cx a o))
 |.join a,e=>nF e fun o n apos l pos=>n==("join":Str)&&(kU o apos pos&&(jk o (fun c y_ y_=>vp c fun x=>x==⟨#[]⟩)&&one l fun e=>notStar e&&bk cx a e))
 |.comp elt tg many src cond,e=>oO e fun e t i l sc=>Bh cx tg many src (namesIn many t) t sc&&(yy cx src i&&(bk (fC cx (namesIn many t) tg sc) elt e&&match l with|[]=>iV cond|e::r=>bT r&&bk (fC cx (namesIn many t) tg sc) cond e))
noncomputable def ik(cx:Cx):Xs->List Expr->Bool
 |.nil,l=>bT l
 |.cons a r,l=>cI l fun e l=>notStar e&&(bk cx a e&&ik cx r l)
noncomputable def yy(cx:Cx):Src->Expr->Bool
 |.seq a,e=>jK e&&bk cx a e
 |.qQ a,e=>gu e fun g l y_=>one l fun e=>fS cx "range" g&&(notStar e&&bk cx a e)
 |.nW a b c,e=>gu e fun g l y_=>cI l fun e l=>two l fun e' nV=>fS cx "range" g&&(notStar e&&(notStar e'&&(notStar nV&&(bk cx a e&&(bk cx b e'&&bk cx c nV)))))
 |.rev a,e=>gu e fun g l y_=>one l fun e=>fS cx "reversed" g&&(notStar e&&bk cx a e)
 |.zip a b,e=>gu e fun g l y_=>two l fun e e'=>fS cx "zip" g&&(notStar e&&(notStar e'&&(bk cx a e&&bk cx b e')))
end
noncomputable def nK(e:Expr):Bool:=!(eO 8 e&&(eO 9 e&&eO 10 e))
noncomputable def ip(cx:Cx)(e:Expr):Bool:=cG e fun x y_=>cx.scope.names.lookup x==some .local
noncomputable def sd(cx:Cx)(t:Tg)(e:Expr):Bool:=match t with
 |.var i=>cG e fun x y_=>cx.slot.lookup x==some i&&(cx.scope.names.lookup x==some .local||cx.scope.names.lookup x==some .cell)
 |.attr a k=>fT e fun v n y_=>n==T.fk k&&(Nat.blt k T.n&&bk T N cx a v)
 |.item a i=>iT e fun v s y_=>bk T N cx a v&&bk T N cx i s
noncomputable def il(cx:Cx):List Tg->List Expr->Bool
 |[],l=>bT l
 |t::ts,l=>cI l fun e l=>sd T N cx t e&&il cx ts l
noncomputable def tY(cx:Cx)(sw:Bool)(ts:List Expr)(value:Expr):Bool:=bif eO 25 value then !sw else dB value fun vs y_ y_=>bif (ts.length==2||ts.length==3)&&vs.length==ts.length then
   (bif sw then vs.all notStar&&(ts.all (ip cx)&&(decide ((ts.map nameIn).Nodup)&&(ts.all (fun e=>e.pos.line==(ts.head?.map (·.pos.line)).getD 0)&&(!vs.all (foldedForSure 8)&&!vs.all (constantsAlone 8)))))
    else ts.all (eO 23)||vs.all (foldedForSure 8))
  else !sw
mutual
noncomputable def GO(cx:Cx):S->Stmt->Bool
 |.asg t e,st=>jE st fun l v y_=>one l fun tg=>!nK v&&(sd T N cx t tg&&bk T N cx e v)
 |.sL i elt ug many src cond,st=>jE st fun l v y_=>one l fun tg=>cG tg (fun x y_=>cx.slot.lookup x==some i&&cx.scope.names.lookup x==some .local)&&bk T N cx (X.comp elt ug many src cond) v
 |.bO sw ts e,st=>jE st fun l v y_=>one l fun tg=>dB tg fun ug y_ y_=>!nK v&&(tY cx sw ug v&&(il T N cx ts ug&&bk T N cx e v))
 |.ex e,st=>Cc st fun v y_=>!nK v&&bk T N cx e v
 |.ret e,st=>xp st fun o y_=>l9 o (iw e) fun v=>bk T N cx e v
 |.ifs c a b,st=>wg st fun t l r y_=>bk T N cx c t&&(kz cx a l&&kz cx b r)
 |.cL c b,st=>wN st fun t l r y_=>bT r&&(bk T N cx c t&&kz cx b l)
 |.dN tg many src b,st=>xl st fun t i l r y_=>bT r&&(tb many t (namesIn many t)&&(Nat.beq (namesIn many t).length tg.length&&(((namesIn many t).zip tg).all (fun p=>cx.slot.lookup p.1==some p.2&&cx.scope.names.lookup p.1==some .local)&&((!sO src||many)&&
   (yy T N cx src i&&kz cx b l)))))
 |.brk,st=>wo st fun y_=>true
 |.cont,st=>rF st fun y_=>true
 |.stuck,_=>true
noncomputable def kz(cx:Cx):Ss->List Stmt->Bool
 |.nil,l=>bT l
 |.cons a r,l=>cI l fun s l=>GO cx a s&&kz cx r l
end
end
end
section
noncomputable def lB:List Str:=["len","ord","chr","abs","list","tuple","any","str","max","range","reversed","zip"]
structure Ez(K:Frag)(T:Tab)(N:Nm)(P:Prog)(fa:Nat->Addr)(B:Heap)(p:Program)(loose:List Str)(mg mb:Str->Option Value):Prop where
 inj:Inj T
 cls:∀c,c<T.nc->jG K T P fa c
 top:TopRead p loose mg mb B
 mX:K.In B
 fns:∀f,N.Lk f=true->nsIn K mainGlobals (N.fn f)=some (some (.ref (fa f)))/\keepIn K (.ref (fa f))=true
 meths:∀c k f,c<T.nc->P.aC c k=some f->keepIn K (.ref (fa f))=true
 XT:∀c,c<T.nc->nsIn K mainGlobals (N.cls c)=some (some (.ref (T.cls c)))/\keepIn K (.ref (T.cls c))=true
 consts:∀g,N.Qf g=true->∃v,nsIn K mainGlobals (N.const g)=some (some v)/\Rel T bG [] B (P.const g) v
 blt:∀x∈lB,nsIn K mainGlobals x=some none
section
variable {K:Frag} {T:Tab} {N:Nm} {P:Prog} {fa:Nat->Addr} {B:Heap} {p:Program} {loose:List Str} {mg mb:Str->Option Value}
variable {π de:Addr->Prop} {ρ aA:bZ} {σ ab:St} {af:Program} {w:World} {A:Around} {s:Shared} {h h':Heap}
structure Dy(T:Tab)(B:Heap)(π:Addr->Prop)(ρ:bZ)(h:Heap)(σ:St):Prop where
 sig:aZ T π ρ h σ
 ao:∀b o,B.get? b=some o->h.get? b=some o
 jW:∀b o,B.get? b=some o->¬(π b\/ff ρ b)
theorem Dy.grow{χ:Addr->Prop}(D:Dy T B π ρ h σ)(S:aZ T π aA h' ab)(g:aK χ ρ h aA h')(w:∀a,χ a->π a):Dy T B π aA h' ab where
 sig:=S
 ao:=fun b o e=>g.keep b o (D.ao b o e) (fun m=>D.jW b o e (.inr m)) fun x=>D.jW b o e (.inl (w b x))
 jW:=fun b o e z=>z.elim (fun x=>D.jW b o e (.inl x)) fun m=>D.jW b o e (.inr (g.mut (D.ao b o e) m))
theorem Dy.mX(D:Dy T B π ρ h σ)(Y:Ez K T N P fa B p loose mg mb):K.In h:=Y.mX.keeps D.ao
theorem Dy.top(D:Dy T B π ρ h σ)(Y:Ez K T N P fa B p loose mg mb):TopRead p loose mg mb h:=Y.top.keeps D.ao
theorem Dy.const(D:Dy T B π ρ h σ){x:V}{v:Value}(r:Rel T bG [] B x v):Rel T π ρ h x v:=Rel.mono (ρ:=[]) ⟨fun a o e y_=>D.jW a o e,fun a o e y_=>D.ao a o e,zero_le _,fun n p l y_=>absurd l (not_lt_zero n)⟩ _ _ r
structure iF(cx:Cx)(env:Env):Prop where
 kind:env.scope.kind=.function
 globals:env.globals=mainGlobals
 builtins:env.builtins=builtinsNs
 loc:∀x,cx.scope.names.lookup x=some .local->env.kindOf x=some .local
 glob:∀x,cx.scope.names.lookup x=some .globalImplicit->env.kindOf x=some .globalImplicit
 cell:∀x,(cx.scope.names.lookup x=some .cell\/cx.scope.names.lookup x=some .free)->env.kindOf x=some .cell/\∃c,env.cells.lookup x=some c
 slots:∀x y i,cx.slot.lookup x=some i->cx.slot.lookup y=some i->x=y
 apart:∀x y c,env.cells.lookup x=some c->env.cells.lookup y=some c->x=y
 off:∀x c,env.cells.lookup x=some c->c≠env.locals
structure cu(T:Tab)(cx:Cx)(env:Env)(π:Addr->Prop)(ρ:bZ)(h:Heap)(fr:Fr):Prop where
 ns:∃m,h.Ns env.locals m/\∀x i v,cx.slot.lookup x=some i->fr[i]?=some (some v)->cx.scope.names.lookup x=some .local->∃v',m x=some v'/\Rel T π ρ h v v'
 cells:∀x c,env.cells.lookup x=some c->∃v,h.IsCell c v
 held:∀x i v,cx.slot.lookup x=some i->fr[i]?=some (some v)->(cx.scope.names.lookup x=some .cell\/cx.scope.names.lookup x=some .free)->gW fun c v'=>eF (env.cells.lookup x=some c) (h.IsCell c (some v')) (Rel T π ρ h v v')
 a8:π env.locals
 cV:∀x c,env.cells.lookup x=some c->π c
variable {cx:Cx} {env:Env} {fr:Fr}
theorem cu.keeps(H:cu T cx env π ρ h fr)(k:Keeps π de ρ aA h h')(w:∀a,π a->de a)(l:∀o,h.get? env.locals=some o->h'.get? env.locals=some o)(c:∀x c o,env.cells.lookup x=some c->h.get? c=some o->h'.get? c=some o):cu T cx env de aA h' fr where
 ns:=by obtain⟨m,a,b⟩:=H.ns;exact⟨m,a.at' l,fun x i v e1 e2 e3=>by obtain⟨v',e,r⟩:=b x i v e1 e2 e3;exact⟨v',e,r.mono k _ _⟩⟩
 cells:=fun x a e=>by obtain⟨v,o,ho,d⟩:=H.cells x a e;exact⟨v,o,c x a o e ho,d⟩
 held:=fun x i v e1 e2 e3=>by obtain⟨a,v',e,⟨o,ho,d⟩,r⟩:=H.held x i v e1 e2 e3;exact⟨a,v',e,⟨o,c x a o e ho,d⟩,r.mono k _ _⟩
 a8:=w _ H.a8
 cV:=fun x a e=>w _ (H.cV x a e)
theorem cu.grow{χ:Addr->Prop}(H:cu T cx env π ρ h fr)(S:aZ T π ρ h σ)(g:aK χ ρ h aA h')(w:∀a,χ a->π a)(l:¬χ env.locals)(c:∀x c,env.cells.lookup x=some c->¬χ c):cu T cx env π aA h' fr:=H.keeps (g.keeps w) (fun y_ x=>x) (fun o e=>g.keep _ o e (S.a8 _ H.a8) l) fun x a o e ho=>g.keep _ o ho (S.a8 _ (H.cV x a e)) (c x a e)
theorem cu.step(H:cu T cx env π ρ h fr)(S:aZ T π ρ h σ)(g:aK bG ρ h aA h'):cu T cx env π aA h' fr:=H.grow S g (fun y_ x=>x.elim) (fun x=>x) fun y_ y_ y_ x=>x
theorem mS(Y:Ez K T N P fa B p loose mg mb)(D:Dy T B π ρ s.heap σ)(C:iF cx env){x:Str}{pos:Pos}{v:Value}{Q E:Value->Shared->Prop}(e:nsIn K mainGlobals x=some (some v))(hg:lL cx x=true)(h:Q v s):wpAny (model af w) A (eval (.Name x pos) env) Q E s:=by simp only[lL,Bool.and_eq_true,beq_iff_eq,bne,Bool.not_eq_true']at hg;refine Name_function_global C.kind (C.glob x hg.1) (loadGlobal_global ?_ (mg_of Y.mX Y.top.g e) h) hg.2;exact Rw C.globals ((D.top Y).g)
theorem gO(Y:Ez K T N P fa B p loose mg mb)(D:Dy T B π ρ s.heap σ)(C:iF cx env){x:Str}{pos:Pos}{v:Value}{Q E:Value->Shared->Prop}(hx:x∈lB)(hv:bootBuiltins x=some v)(hg:lL cx x=true)(h:Q v s):wpAny (model af w) A (eval (.Name x pos) env) Q E s:=by
 simp only[lL,Bool.and_eq_true,beq_iff_eq,bne,Bool.not_eq_true']at hg;have hn:x≠"__name__":=by rintro rfl;revert hx;decide
 refine Name_function_global C.kind (C.glob x hg.1) (loadGlobal_builtin ?_ (mg_none_of Y.mX Y.top.g (Y.blt x hx)) ?_ ((Y.top.builtins x hn).trans hv) h) hg.2
 ·exact Rw C.globals ((D.top Y).g)
 ·exact Rw C.builtins ((D.top Y).b)
theorem D6(D:Dy T B π ρ s.heap σ)(C:iF cx env)(H:cu T cx env π ρ s.heap fr){x:Str}{i:Nat}{v:V}{pos:Pos}{Q E:Value->Shared->Prop}(e:cx.slot.lookup x=some i)(hv:isVar cx x=true)(hf:fr[i]?=some (some v))
  (h:∀v',Rel T π ρ s.heap v v'->Q v' s):wpAny (model af w) A (eval (.Name x pos) env) Q E s:=by
 refine wpAny_Name ?_ (qZ (aR hv))
 haveI u2:(cx.scope.names.lookup x=some .cell\/cx.scope.names.lookup x=some .free)->wpAny (model af w) A (loadName env x) Q E s:=fun q=>by refine cps fun G kG=>?_;obtain⟨c,v',ec,hc,r⟩:=H.held x i v e hf q;exact kG (wpAny_loadName_cell C.kind (C.cell x q).1 ec hc (h v' r))
 haveI go:∀y,cx.scope.names.lookup x=y->(match y with|some .local=>true|some .cell=>true|some .free=>true|_=>false)=true->wpAny (model af w) A (loadName env x) Q E s:=fun y q hk=>by
  cases y with
  |none=>exact absurd hk bf
  |some y=>cases y with
   |«local»=>refine cps fun G kG=>?_;obtain⟨m,hn,b⟩:=H.ns;obtain⟨v',e',r⟩:=b x i v e hf q;exact kG (wpAny_loadName_local C.kind (C.loc x q) hn e' (h v' r))
   |cell=>exact u2 (.inl q)
   |free=>exact u2 (.inr q)
   |_=>exact absurd hk bf
 exact go _ rfl (aL hv)
def Own(env:Env)(a:Addr):Prop:=a=env.locals\/∃x,env.cells.lookup x=some a
theorem cu.own(H:cu T cx env π ρ h fr):∀a,Own env a->π a:=fun a z=>z.elim (fun e=>e▸H.a8) fun hV=>hV.elim fun x e=>(H.cV x a e)
theorem get_set{fr:Fr}{i j:Nat}{v u:V}(e:(fr.set i (some v))[j]?=some (some u)):(i=j/\u=v)\/(i≠j/\fr[j]?=some (some u)):=by
 by_cases q:i=j
 ·subst q;by_cases l:i<fr.length
  ·replace e:=(getElem?_set_self l)▸e;cases e;exact .inl ⟨rfl,rfl⟩
  ·rw[getElem?_eq_none (by simpa using l)]at e;exact nn e
 ·exact .inr ⟨q,((getElem?_set_ne q)▸e)⟩
theorem ku(S:aZ T π ρ h σ){a:Addr}(pa:π a)(hs:Heap.SameBut a h h'){o:Obj}(ho:h'.get? a=some o):aZ T π ρ h' σ/\Keeps π π ρ ρ h h':=by
 haveI k:Keeps π π ρ ρ h h':=⟨fun y_ y_ y_ f=>f,fun b o e f=>(hs.2 b fun z=>f (.inl (z▸pa))).trans e,le_refl _,fun y_ y_ y_ e=>e⟩;refine⟨S.keeps k (fun b o m e=>(hs.2 b fun z=>S.a8 a pa (z▸m)).trans e) S.a8 fun b pb=>?_,k⟩;by_cases z:b=a
 ·obtain rfl:=Eq.symm z;exact⟨o,ho⟩
 ·exact(S.there b pb).elim fun o' e=>⟨o',(hs.2 b z).trans e⟩
theorem je{χ:Addr->Prop}{a:Addr}(xa:χ a)(hs:Heap.SameBut a h h'){o:Obj}(ho:h'.get? a=some o):aK χ ρ h ρ h':=⟨le_refl _,fun y_ y_ y_ e=>e,fun n p l e=>((Q7 ((List.getElem?_eq_some_iff.mp e).1) l).elim),fun b o' e=>(by
  by_cases z:b=a
  ·obtain rfl:=Eq.symm z;exact⟨o,ho⟩
  ·exact⟨o',(hs.2 b z).trans e⟩),fun b o' e y_ x=>(hs.2 b fun z=>x (z▸xa)).trans e⟩
theorem tK(D:Dy T B π ρ s.heap σ)(C:iF cx env)(H:cu T cx env π ρ s.heap fr){x:Str}{i:Nat}{v:V}{v':Value}{Q:Unit->Shared->Prop}{E:Value->Shared->Prop}(e:cx.slot.lookup x=some i)
  (hk:cx.scope.names.lookup x=some .local\/cx.scope.names.lookup x=some .cell)(rv:Rel T π ρ s.heap v v')
  (h:∀h' tk',aZ T π ρ h' σ->cu T cx env π ρ h' (fr.set i (some v))->aK (Own env) ρ s.heap ρ h'->Q () {s with heap:=h',toks:=tk'}):wpAny (model af w) A (storeName env x v') Q E s:=by
 rcases hk with hk|hk
 ·obtain⟨m,hn,b⟩:=H.ns;refine wpAny_storeName_local (C.loc x hk) hn (fun h' xK hs=>?_) (Rw C.kind rfl);obtain⟨o,es,ep,ho,r⟩:=id xK;obtain⟨S',k⟩:=ku D.sig H.a8 hs ho;refine h h' _ S' ⟨⟨_,xK,fun y j u ey ej ky=>?_⟩,fun y a ea=>?_,fun y j u ey ej ky=>?_,H.a8,H.cV⟩ (je (.inl rfl) hs ho)
  ·rcases get_set ej with⟨rfl,rfl⟩|⟨ne,ej⟩
   ·obtain rfl:=C.slots _ _ _ e ey;exact⟨v',if_pos rfl,rv.mono k _ _⟩
   ·haveI:y≠x:=fun z=>ne (by obtain rfl:=Eq.symm z;rw[e]at ey;replace ey:=oj ey;subst ey;rfl);refine Rw (if_neg this) (?_);obtain⟨u',q,r⟩:=b y j u ey ej ky;exact⟨u',q,r.mono k _ _⟩
  ·exact(H.cells y a ea).elim fun u q=>⟨u,q.sameBut hs (C.off y a ea)⟩
  ·rcases get_set ej with⟨rfl,rfl⟩|⟨ne,ej⟩
   ·obtain rfl:=C.slots _ _ _ e ey;haveI ky:=hk▸ky;refine Or.elim ky (fun ky=>?_) fun ky=>?_<;>cases ky
   ·obtain⟨a,u',ea,ha,r⟩:=H.held y j u ey ej ky;exact⟨a,u',ea,ha.sameBut hs (C.off y a ea),r.mono k _ _⟩
 ·obtain⟨kc,c,ec⟩:=C.cell x (.inl hk);refine(H.cells x c ec).elim fun Wc hc=>(wpAny_storeName_cell C.kind kc ec hc fun h' Fu hs=>?_);obtain⟨o,ho,hd⟩:=id Fu;haveI oo:=ku D.sig (H.cV x c ec) hs ho;haveI k:=oo.2;obtain⟨m,hn,b⟩:=H.ns;refine h h' s.toks oo.1 ⟨⟨m,hn.sameBut hs (Ne.symm (C.off x c ec)),fun y j u ey ej ky=>?_⟩,fun y a ea=>?_,fun y j u ey ej ky=>?_,H.a8,H.cV⟩ (je (.inr ⟨x,ec⟩) hs ho)
  ·rcases get_set ej with⟨rfl,rfl⟩|⟨ne,ej⟩
   ·obtain rfl:=C.slots _ _ _ e ey;replace ky:=hk▸ky;exact nomatch ky
   ·obtain⟨u',q,r⟩:=b y j u ey ej ky;exact⟨u',q,r.mono k _ _⟩
  ·by_cases z:a=c
   ·obtain rfl:=Eq.symm z;exact⟨_,Fu⟩
   ·exact(H.cells y a ea).elim fun u q=>⟨u,q.sameBut hs z⟩
  ·rcases get_set ej with⟨rfl,rfl⟩|⟨ne,ej⟩
   ·obtain rfl:=C.slots _ _ _ e ey;exact⟨c,v',ec,Fu,rv.mono k _ _⟩
   ·obtain⟨a,u',ea,ha,r⟩:=H.held y j u ey ej ky
    haveI:a≠c:=fun z=>ne (by
     obtain rfl:=Eq.symm z;obtain rfl:=C.apart _ _ _ ec ea
     rw[e]at ey;replace ey:=oj ey;subst ey;rfl)
    exact⟨a,u',ea,ha.sameBut hs this,r.mono k _ _⟩
end
end
section
theorem pU{ns:List Str}{vs:List Value}{n:Str}(h:n∉ns):(ns.zip vs).lookup n=none:=by
 induction ns generalizing vs with
 |nil=>rfl
 |cons m r ih=>
  cases vs with
  |nil=>rfl
  |cons v vs=>simp only[mem_cons,not_or]at h;simp only[zip_cons_cons,lookup_cons,beq_eq_false_iff_ne.mpr h.1];exact ih h.2
theorem jR{ns:List Str}{vs:List Value}(nd:ns.Nodup):∀{i:Nat} {n:Str} {v:Value},ns[i]?=some n->vs[i]?=some v->(ns.zip vs).lookup n=some v:=by
 induction ns generalizing vs with
 |nil=>intro i n v h _;exact nn h
 |cons m r ih=>
  intro i n v h h'
  cases vs with
  |nil=>exact nn h'
  |cons u vs=>
   cases i with
   |zero=>replace h:=oj h;subst h;replace h':=oj h';subst h';simp
   |succ i=>rw[nodup_cons]at nd;haveI hn:n∈r:=List.mem_of_getElem? h;have:(n==m)=false:=beq_eq_false_iff_ne.mpr fun e=>nd.1 (e▸hn);simp only[zip_cons_cons,lookup_cons,this];exact ih nd.2 h h'
theorem x9{ns:List Str}(nd:ns.Nodup):∀{ws:List Value},ws.length=ns.length->ns.filterMap (fun n=>((ns.zip ws).lookup n).map (n,·))=ns.zip ws:=by
 intro ws hl
 haveI key:∀(ms:List Str) (us:List Value),us.length=ms.length->(∀(i:Nat) n v,ms[i]?=some n->us[i]?=some v->(ns.zip ws).lookup n=some v)->ms.filterMap (fun n=>((ns.zip ws).lookup n).map (n,·))=ms.zip us:=by
  intro ms
  induction ms with
  |nil=>intro us _ _;rfl
  |cons m r ih=>
   intro us hl h
   cases us with
   |nil=>cases hl
   |cons u us=>refine Rw filterMap_cons (Rw (h 0 m u rfl rfl) (?_));simp only[Option.map_some,zip_cons_cons,List.cons.injEq,true_and];exact ih us (by simpa using hl) fun i n v a b=>h (i+1) n v a b
 exact key ns ws hl fun i n v a b=>jR nd a b
theorem j9:∀(ns:List Str) (vs ds:List Value),ns.Nodup->ds.length=ns.length->∀(pre:List (Str×Value)),(∀n∈ns,pre.lookup n=none)->(ns.zip ds).foldl (fun(b:List (Str×Value)) p=>if(b.lookup p.1).isNone=true then b++[(p.1,p.2)]else b) pre=pre++ns.zip ds
 |[],_,_=>@fun _ _ pre _=>by simp
 |n::r,_,[]=>@fun _ h _ _=>by cases h
 |n::r,vs,d::ds=>@fun nd h pre hp=>by
  rw[nodup_cons]at nd;simp only[zip_cons_cons,foldl_cons,hp n mem_cons_self,Option.isNone_none,if_true];rw[j9 r vs ds nd.2 (by simpa using h) _ fun m hm=>?_]
  ·simp
  ·refine Rw lookup_append (Rw (hp m (mem_cons_of_mem _ hm)) (?_));haveI:(m==n)=false:=beq_eq_false_iff_ne.mpr fun e=>nd.1 (e▸hm);simp[lookup_cons,this]
theorem FR{ns:List Str}:∀{vs us:List Value},vs.length<=ns.length->ns.zip (vs++us)=ns.zip vs++(ns.drop vs.length).zip us:=by
 induction ns with
 |nil=>intro vs us h;simp
 |cons n r ih=>
  intro vs us h
  cases vs with
  |nil=>simp
  |cons v vs=>simp only[cons_append,zip_cons_cons,length_cons,List.drop_succ_cons,ih (by simpa using h)]
theorem iK{α β:Type}(f:α->β->β):∀(l:List α) (b:β),forIn l b (fun x b=>(pure (ForInStep.yield (f x b)):Sem (ForInStep β)))=pure (l.foldl (fun b x=>f x b) b)
 |[]=>@fun b=>Rw forIn_nil rfl
 |x::l=>@fun b=>by rw[forIn_cons,pure_bind];exact iK f l (f x b)
theorem pY:∀(l pre:List (Str×Value)),(∀p∈l,(pre.lookup p.1).isNone=false)->l.foldl (fun(b:List (Str×Value)) x=>if(List.lookup x.fst b).isNone=true then b++[(x.fst,x.snd)]else b) pre=pre
 |[]=>@fun _ _=>rfl
 |p::l=>@fun pre h=>Rw foldl_cons (Rw (h p mem_cons_self) (Rw (if_neg bf) (pY l pre fun q hq=>h q (mem_cons_of_mem _ hq))))
theorem BK{ns:List Str}:∀{vs:List Value},vs.length<=ns.length->ns.zip vs=(ns.take vs.length).zip vs:=by
 induction ns with
 |nil=>intro vs h;simp
 |cons n r ih=>
  intro vs h
  cases vs with
  |nil=>simp
  |cons v vs=>simp only[zip_cons_cons,length_cons,List.take_succ_cons];exact Rw (ih (by simpa using h)) rfl
theorem AO{α:Type}{c:Prop}[Decidable c]{x y:α}:(if c then(pure (ForInStep.yield x):Sem (ForInStep α))else pure (ForInStep.yield y))=pure (ForInStep.yield (if c then x else y)):=by
 by_cases h:c
 ·exact Rw (if_pos h) (Rw (if_pos h) rfl)
 ·exact Rw (if_neg h) (Rw (if_neg h) rfl)
theorem LC{α:Type}{M:Model}{A:Around}{c:Prop}[Decidable c]{t e:Sem α}{Q:α->Shared->Prop}{E:Value->Shared->Prop}{s:Shared}(h:¬c)(p:wpAny M A e Q E s):wpAny M A (if c then t else e) Q E s:=Rw (if_neg h) p
theorem Mi{α β γ:Type}{M:Model}{A:Around}{f:α->β->Sem (ForInStep β)}{g:β->α->β}{l:List α}{b b':β}{k:β->Sem γ}{Q:γ->Shared->Prop}{E:Value->Shared->Prop}{s:Shared}(hf:∀x b,f x b=pure (.yield (g b x)))(e:l.foldl g b=b')(h:wpAny M A (k b') Q E s):wpAny M A (forIn l b f>>=k) Q E s:=by obtain rfl:f=fun x b=>pure (.yield (g b x)):=funext fun x=>funext fun b=>hf x b;subst e;rw[iK (fun x b=>g b x),pure_bind];exact h
section
variable {ns:List Str} {vs ds:List Value} (nd:ns.Nodup) (hv:vs.length<=ns.length) (hd:ds.length<=ns.length) (hb:ns.length<=vs.length+ds.length)
include nd hv hd hb
theorem BM{n:Str}(hn:n∈ns.take vs.length):((ns.zip vs).lookup n).isNone=false:=by
 obtain⟨i,hi⟩:=List.mem_iff_getElem?.mp hn
 haveI cR:i<vs.length:=by haveI:=(List.getElem?_eq_some_iff.mp hi).1;simp at this;exact UM this
 exact Rw (jR nd ((getElem?_take_of_lt cR).symm.trans hi) (getElem?_eq_getElem cR)) rfl
theorem Io:¬(!((ns.take (ns.length-(ds.drop (ds.length-ns.length)).length)).filter (fun n=>((ns.zip vs).lookup n).isNone)).isEmpty)=true:=by rw[IV hd,drop_zero,List.filter_eq_nil_iff.mpr fun n hn=>by rw[BM nd hv hd hb ((List.take_subset_take_left ns (PB hb)) hn)];exact bf];exact bf
theorem bind_f:((ns.drop (ns.length-(ds.drop (ds.length-ns.length)).length)).zip (ds.drop (ds.length-ns.length))).foldl (fun(b:List (Str×Value)) x=>if(List.lookup x.fst b).isNone=true then b++[(x.fst,x.snd)]else b) (ns.zip vs)=ns.zip (vs++ds.drop (vs.length+ds.length-ns.length)):=by
 rw[IV hd,drop_zero,FR hv]
 haveI sp:(ns.drop (ns.length-ds.length)).zip ds=((ns.drop (ns.length-ds.length)).take (vs.length+ds.length-ns.length)).zip (ds.take (vs.length+ds.length-ns.length))++(ns.drop vs.length).zip (ds.drop (vs.length+ds.length-ns.length)):=by haveI e:=(take_append_drop (vs.length+ds.length-ns.length) ((ns.drop (ns.length-ds.length)).zip ds)).symm;rw[List.zip_eq_zipWith,List.take_zipWith,List.drop_zipWith,drop_drop,show ns.length-ds.length+(vs.length+ds.length-ns.length)=vs.length from Ki hd hb]at e;exact e
 refine Rw sp (Rw List.foldl_append (Rw (pY _ (ns.zip vs) fun p hp=>?_) (j9 _ vs _ (List.Sublist.nodup (List.drop_sublist _ _) nd) (Rw length_drop (Rw length_drop (X0 hb))) _ fun n hn=>?_)))
 ·refine BM nd hv hd hb ?_;haveI:=(of_mem_zip hp).1;rw[List.take_drop,show ns.length-ds.length+(vs.length+ds.length-ns.length)=vs.length from Ki hd hb]at this;exact List.drop_subset _ _ this
 ·refine Rw (BK hv) (pU fun hm=>?_);rw[<-take_append_drop vs.length ns,List.nodup_append]at nd;exact nd.2.2 n hm n hn rfl
theorem HF:(ns++[]).filterMap (fun n=>((ns.zip (vs++ds.drop (vs.length+ds.length-ns.length))).lookup n).map (n,·))=ns.zip (vs++ds.drop (vs.length+ds.length-ns.length)):=by rw[append_nil];exact x9 nd (by simp;exact RO hv hb)
end
theorem Gm{s:Shared}{fd:FuncData}{ns:List Str}{vs ds:List Value}(h1:fd.params.posonlyargs=[])(h2:fd.params.args.map (·.arg)=ns)(h3:fd.params.vararg=none)(h4:fd.params.kwonlyargs=[])(h5:fd.params.kwarg=none)
  (nd:ns.Nodup)(hv:vs.length<=ns.length)(hd:ds.length<=ns.length)(hb:ns.length<=vs.length+ds.length)
  (hs:∃r:Option (Array Value),(∀(M:Model) (A:Around) (E:Value->Shared->Prop) (Q:Option (Array Value)->Shared->Prop),Q r s->wpAny M A (seqItems? fd.defaults) Q E s)/\(r.getD #[]).toList=ds):BindsTo s fd ⟨vs,[]⟩ (ns.zip (vs++ds.drop (vs.length+ds.length-ns.length))):=by
 intro M A E Q hq;obtain⟨r,hr,rfl⟩:=hs;obtain⟨nm,qn,⟨po,ar,va,ko,kd,kw,df⟩,bd,sc,gl,cl,dfl,kdf,dc,pm,an,cd,ct,bl⟩:=fd;obtain rfl:po=[]:=h1;obtain rfl:va=none:=h3;obtain rfl:ko=[]:=h4;obtain rfl:kw=none:=h5;obtain rfl:ar.map (·.arg)=ns:=h2;refine wpAny_bind (wpAny_pure (wpAny_bind (hr M A E _ (LC (fun h=>absurd (of_decide_eq_true (aL h)) (not_lt.mpr hv)) (LC (Io nd hv hd hb) (Mi (fun x b=>AO) (bind_f nd hv hd hb) (wpAny_bind (wpAny_pure (LC bf ?_)))))))));exact wpAny_pure (Eq.mpr (congrArg (fun x=>Q x s) (HF nd hv hd hb)) hq)
end
section
structure kS(d:Nat)(A:Around):Prop where
 handled:A.handled=none
 units:A.units+30+40*d<cLine
 depth:A.depth+8+10*d<recursionLimit
structure ph(d:Nat)(A:Around):Prop where
 handled:A.handled=none
 units:A.units+25+40*d<cLine
 depth:A.depth+5+10*d<recursionLimit
theorem kS.room{d:Nat}{A:Around}(r:kS d A):kg A:=⟨r.handled,Nd r.units,XP r.depth⟩
theorem kS.call{d:Nat}{A:Around}(r:kS d A):ph d A:=⟨r.handled,Ob r.units,Vh r.depth⟩
theorem ph.deeper{d:Nat}{A:Around}{env:Env}(r:ph (d+1) A):kS d (A.deeper env):=⟨r.handled,by haveI e:(A.deeper env).units=A.units+3:=rfl;exact VW r.units e,by haveI e:(A.deeper env).depth=A.depth+1:=rfl;exact Pw r.depth e⟩
theorem kS.under{d:Nat}{A:Around}{C:Addr}{l:List Value}{kw:List (Str×Value)}(r:kS d A):ph d (A.under (.builtin "type.__call__" ⟨.ref C::l,kw⟩)):=by
 haveI h1:(Code.builtin "type.__call__" ⟨.ref C::l,kw⟩).weight=1:=by kernel_rfl
 haveI h2:(Code.builtin "type.__call__" ⟨.ref C::l,kw⟩).cUnits=1:=by kernel_rfl
 refine⟨r.handled,?_,?_⟩
 ·exact Rw h2 (Ru r.units)
 ·exact Rw h1 (Vt r.depth)
inductive Xh(K:Frag)(T:Tab)(N:Nm)(P:Prog)(fa:Nat->Addr)(B:Heap)(f:Nat)(o:Obj)(fd:FuncData)(body:List Stmt)(slot:List (Str×Nat))(ns:List Str)(ds:List Value):Prop where
 |mk (ko:K.lookup (fa f)=some o) (dd:o.data=.func fd) (db:fd.body=.stmts body) (dcl:fd.closure=[]) (dco:fd.scope.isCoroutine=false) (dge:fd.scope.isGenerator=false) (dk:fd.scope.kind=.function) (dg:fd.globals=mainGlobals) (dbn:fd.builtins=builtinsNs) (dcode:codeIn K fd.code fd.qualname=true) (p1:fd.params.posonlyargs=[]) (p2:fd.params.args.map (·.arg)=ns) (p3:fd.params.vararg=none) (p4:fd.params.kwonlyargs=[]) (p5:fd.params.kwarg=none) (nd:ns.Nodup) (nl:ns.length=(P.fn f).params) (dl:ds.length<=ns.length) (ddf:(fd.defaults=.none/\ds=[])\/mQ fun t o n=>eF (fd.defaults=.ref t) (K.lookup t=some o) (o.data=.seq ds.toArray n)) (rd:bj T bG [] B (P.fn f).dflt (ds.drop (ds.length-(P.fn f).dflt.length))) (dle:(P.fn f).dflt.length<=ds.length) (hs:∀i x,ns[i]?=some x->slot.lookup x=some i/\(fd.scope.names.lookup x=some .local\/fd.scope.names.lookup x=some .cell)) (hsl:∀x y i,slot.lookup x=some i->slot.lookup y=some i->x=y) (hfree:∀x∈fd.scope.names,x.2≠.free) (hchk:kz T N ⟨fd.scope,slot⟩ (P.fn f).body body=true)
def kJ(K:Frag)(T:Tab)(N:Nm)(P:Prog)(fa:Nat->Addr)(B:Heap)(f:Nat):Prop:=Ug fun o fd body slot ns ds=>Xh K T N P fa B f o fd body slot ns ds
section
variable {K:Frag} {T:Tab} {N:Nm} {P:Prog} {fa:Nat->Addr} {B:Heap} {p:Program} {loose:List Str} {mg mb:Str->Option Value} {af:Program} {w:World}
noncomputable def E6(T:Tab)(π:Addr->Prop)(ρ:bZ)(h:Heap):Fl->Flow->Prop
 |.next,f=>f=.next
 |.brk,f=>f=.brk
 |.cont,f=>f=.cont
 |.ret v,f=>∃v',f=.ret v'/\Rel T π ρ h v v'
end
structure I3(K:Frag)(T:Tab)(N:Nm)(P:Prog)(fa:Nat->Addr)(B:Heap)(p:Program)(loose:List Str)(mg mb:Str->Option Value):Prop where
 gy:Ez K T N P fa B p loose mg mb
 K2:∀f,N.Lk f=true->kJ K T N P fa B f
 HW:∀c k f,c<T.nc->P.aC c k=some f->kJ K T N P fa B f
 HU:∀c,c<T.nc->kJ K T N P fa B (P.init c)
structure Ctx(P:Prog) where
 {K:Frag}
 {T:Tab}
 {N:Nm}
 {fa:Nat->Addr}
 {B:Heap}
 {p:Program}
 {loose:List Str}
 {mg:Str->Option Value}
 {mb:Str->Option Value}
 {af:Program}
 {w:World}
 Y:I3 K T N P fa B p loose mg mb
def Out{P:Prog}(Γ:Ctx P)(π:Addr->Prop)(ρ:bZ)(s:Shared)(v:V)(ab:St)(Q:Value->Shared->Prop):Prop:=∀v' aA h' tk',Rel Γ.T π aA h' v v'->aZ Γ.T π aA h' ab->aK bG ρ s.heap aA h'->Q v' {s with heap:=h',toks:=tk'}
def ta{P:Prog}(Γ:Ctx P)(π:Addr->Prop)(ρ:bZ)(s:Shared)(b:Bool)(ab:St)(Q:Bool->Shared->Prop):Prop:=∀aA h' tk',aZ Γ.T π aA h' ab->aK bG ρ s.heap aA h'->Q b {s with heap:=h',toks:=tk'}
def IK{P:Prog}(Γ:Ctx P)(π:Addr->Prop)(ρ:bZ)(s:Shared)(vs:List V)(ab:St)(Q:List Value->Shared->Prop):Prop:=∀dX aA h' tk',bj Γ.T π aA h' vs dX->aZ Γ.T π aA h' ab->aK bG ρ s.heap aA h'->Q dX {s with heap:=h',toks:=tk'}
def BU{P:Prog}(Γ:Ctx P)(cx:Cx)(env:Env)(π:Addr->Prop)(ρ:bZ)(s:Shared)(fl:Fl)(aB:Fr)(ab:St)(Q:Flow->Shared->Prop):Prop:=∀f' aA h' tk',E6 Γ.T π aA h' fl f'->aZ Γ.T π aA h' ab->cu Γ.T cx env π aA h' aB->aK (Own env) ρ s.heap aA h'->Q f' {s with heap:=h',toks:=tk'}
structure At{P:Prog}(Γ:Ctx P)(d:Nat)(cx:Cx)(env:Env)(A:Around)(s:Shared)(π:Addr->Prop)(ρ:bZ)(σ:St)(fr:Fr):Prop where
 es:iF cx env
 rm:kS d A
 D:Dy Γ.T Γ.B π ρ s.heap σ
 V:cu Γ.T cx env π ρ s.heap fr
def gi{P:Prog}(Γ:Ctx P)(d:Nat)(cx:Cx)(env:Env)(fr:Fr)(σ:St)(v:V)(ab:St)(e:Expr):Prop:=∀A s π ρ (Q:Value->Shared->Prop),At Γ d cx env A s π ρ σ fr->Out Γ π ρ s v ab Q->wpAny (model Γ.af Γ.w) A (eval e env) Q aU s
def Gk{P:Prog}(Γ:Ctx P)(d:Nat)(cx:Cx)(env:Env)(fr:Fr)(σ:St)(b:Bool)(ab:St)(e:Expr):Prop:=∀A s π ρ (Q:Bool->Shared->Prop),At Γ d cx env A s π ρ σ fr->ta Γ π ρ s b ab Q->wpAny (model Γ.af Γ.w) A (isTrue e env (eval e env)) Q aU s
structure Goal{P:Prog}(Γ:Ctx P)(d:Nat)(cx:Cx)(env:Env)(fr:Fr)(σ:St)(v:V)(ab:St)(e:Expr):Prop where
 val:gi Γ d cx env fr σ v ab e
 lU:∀b,v=.bool b->Gk Γ d cx env fr σ b ab e
def rD{P:Prog}(Γ:Ctx P)(d:Nat)(cx:Cx)(env:Env)(fr:Fr)(σ:St)(vs:List V)(ab:St)(l:List Expr):Prop:=∀A s π ρ (Q:List Value->Shared->Prop),At Γ d cx env A s π ρ σ fr->IK Γ π ρ s vs ab Q->wpAny (model Γ.af Γ.w) A (spliced (l.map fun e=>(false,eval e env))) Q aU s
def cq{P:Prog}(Γ:Ctx P)(d:Nat)(cx:Cx)(env:Env)(fr:Fr)(σ:St)(fl:Fl)(aB:Fr)(ab:St)(t:Sem Flow):Prop:=∀A s π ρ (Q:Flow->Shared->Prop),At Γ d cx env A s π ρ σ fr->BU Γ cx env π ρ s fl aB ab Q->wpAny (model Γ.af Γ.w) A t Q aU s
structure wm{P:Prog}(Γ:Ctx P)(d:Nat)(cx:Cx)(env:Env)(fr:Fr)(σ:St)(vs:List V)(ab:St)(l:List Expr):Prop where
 len:vs.length=l.length
 nil:l=[]->ab=σ
 val:rD Γ d cx env fr σ vs ab l
def Ev(P:Prog)(d:Nat)(x:X)(fr:Fr)(σ:St)(v:V)(ab:St):Prop:=∀(Γ:Ctx P) (cx:Cx) (env:Env) (e:Expr),bk Γ.T Γ.N cx x e=true->Goal Γ d cx env fr σ v ab e
def qW(P:Prog)(d:Nat)(xs:Xs)(fr:Fr)(σ:St)(vs:List V)(ab:St):Prop:=∀(Γ:Ctx P) (cx:Cx) (env:Env) (l:List Expr),ik Γ.T Γ.N cx xs l=true->wm Γ d cx env fr σ vs ab l
def Exec(P:Prog)(d:Nat)(st:S)(fr:Fr)(σ:St)(fl:Fl)(aB:Fr)(ab:St):Prop:=∀(Γ:Ctx P) (cx:Cx) (env:Env) (Ef:Stmt),GO Γ.T Γ.N cx st Ef=true->cq Γ d cx env fr σ fl aB ab (exec Ef env)
def cX(P:Prog)(d:Nat)(ss:Ss)(fr:Fr)(σ:St)(fl:Fl)(aB:Fr)(ab:St):Prop:=∀(Γ:Ctx P) (cx:Cx) (env:Env) (l:List Stmt),kz Γ.T Γ.N cx ss l=true->cq Γ d cx env fr σ fl aB ab (execs l env)
def Run(P:Prog)(d f:Nat)(args:List V)(σ:St)(v:V)(ab:St):Prop:=∀(Γ:Ctx P),kJ Γ.K Γ.T Γ.N P Γ.fa Γ.B f->∀(A:Around) (s:Shared) (π:Addr->Prop) (ρ:bZ) (mD:List Value) (R:Result->Shared->Prop),ph d A->Dy Γ.T Γ.B π ρ s.heap σ->bj Γ.T π ρ s.heap args mD->Out Γ π ρ s v ab (fun v' s'=>R (.ok (.ret v')) s')->codeAny (model Γ.af Γ.w) A (.call (.ref (Γ.fa f)) ⟨mD,[]⟩) R s
section
variable {K:Frag} {T:Tab} {N:Nm} {P:Prog} {fa:Nat->Addr} {B:Heap} {p:Program} {loose:List Str} {mg mb:Str->Option Value} {af:Program} {w:World}
variable {π de:Addr->Prop} {ρ aA:bZ} {σ ab:St} {s:Shared} {h h':Heap}
theorem aK.fresh{χ FT:Addr->Prop}{aE:bZ}{ay:Heap}(g:aK χ ρ h aE ay)(k:aK FT aE ay aA h')(w:∀a,FT a->χ a\/h.get? a=none):aK χ ρ h aA h' where
 len:=le_trans g.len k.len
 old:=fun n p l e=>g.old n p l (k.old n p (lt_of_lt_of_le l g.len) e)
 new:=fun n p l e=>by
  by_cases q:n<aE.length
  ·exact g.new n p l (k.old n p q e)
  ·exact g.lH (k.new n p (le_of_not_lt q) e)
 i5:=fun a o e=>let⟨E3,qJ⟩:=g.i5 a o e;k.i5 a E3 qJ
 keep:=fun a o e m x=>k.keep a o (g.keep a o e m x) (fun z=>m (g.mut e z)) fun z=>(w a z).elim x fun q=>by replace q:=e▸q;cases q
theorem pX(kindOf:Str->Option NameKind){x:Str}:∀(l:List (Str×Value)) (m:Str->Option Value),(∀p∈l,p.1≠x)->bindL kindOf l m x=m x
 |[]=>@fun _ _=>rfl
 |(n,v)::r=>@fun m h=>by
  haveI hn:x≠n:=fun e=>h (n,v) mem_cons_self e.symm;refine Rw (pX kindOf r _ fun p hp=>h p (mem_cons_of_mem _ hp)) (?_)
  split
  ·simp only[if_neg hn]
  ·rfl
theorem qu(kindOf:Str->Option NameKind){x:Str}:∀(l:List (Str×Value)) (m:Str->Option Value),(∀p∈l,p.1≠x)->bindC kindOf l m x=m x
 |[]=>@fun _ _=>rfl
 |(n,v)::r=>by
  intro m h;haveI hn:x≠n:=fun e=>h (n,v) mem_cons_self e.symm;refine Rw (qu kindOf r _ fun p hp=>h p (mem_cons_of_mem _ hp)) (?_)
  split
  ·rfl
  ·simp only[if_neg hn]
theorem CB{n x:Str}{r:List Str}{ws:List Value}(hn:n∉r)(e:x=n):∀p∈r.zip ws,p.1≠x:=fun p hp q=>hn (e▸q▸(of_mem_zip hp).1)
theorem rN(kindOf:Str->Option NameKind){x:Str}(hk:kindOf x=some .local):∀{ns:List Str} {ws:List Value} {i:Nat} {v:Value} (m:Str->Option Value),ns.Nodup->ns[i]?=some x->ws[i]?=some v->bindL kindOf (ns.zip ws) m x=some v
 |[],_=>@fun _ _ e _=>nn e
 |n::r,[]=>@fun _ _ _ e=>nn e
 |n::r,u::ws=>by
  rename_i i v;intro m nd e e';rw[nodup_cons]at nd;simp only[zip_cons_cons]
  cases i with
  |zero=>replace e:=oj e;subst e;replace e':=oj e';subst e';refine Rw (pX kindOf _ _ (CB nd.1 rfl)) (Rw (if_pos hk) (?_));simp
  |succ i=>exact rN kindOf hk _ nd.2 e e'
theorem sR(kindOf:Str->Option NameKind){x:Str}(hk:kindOf x≠some .local):∀{ns:List Str} {ws:List Value} {i:Nat} {v:Value} (m:Str->Option Value),ns.Nodup->ns[i]?=some x->ws[i]?=some v->bindC kindOf (ns.zip ws) m x=some v
 |[],_,_,_,_,_,e,_=>nn e
 |n::r,[],_,_,_,_,_,e=>nn e
 |n::r,u::ws,i,v,m,nd,e,e'=>by
  rw[nodup_cons]at nd;simp only[zip_cons_cons]
  cases i with
  |zero=>replace e:=oj e;obtain rfl:=Eq.symm e;replace e':=oj e';subst e';refine Rw (qu kindOf _ _ (CB nd.1 rfl)) (Rw (if_neg hk) (?_));simp
  |succ i=>exact sR kindOf hk _ nd.2 e e'
set_option backward.match.sparseCases true in
theorem Run.mk{d f:Nat}{args:List V}{v:V}{fl:Fl}{aB:Fr}(hlen:args.length+(P.fn f).dflt.length=(P.fn f).params)
  (ev:cX P d (P.fn f).body ((args++(P.fn f).dflt).map some++List.replicate ((P.fn f).slots-(P.fn f).params) none) σ fl aB ab)(hv:fl=.ret v\/(fl=.next/\v=.none)):Run P (d+1) f args σ v ab:=by
 intro Γ ht A s π ρ mD R rm D ra hR;obtain⟨o,fd,body,slot,ns,ds,ko,dd,db,dcl,dco,dge,dk,dg,dbn,dcode,p1,p2,p3,p4,p5,nd,nl,dl,ddf,rd,dle,hs,hsl,hfree,hchk⟩:=ht;have X:=D.mX Γ.Y.gy;have la:=aQ ra;have lw:ds.drop (mD.length+ds.length-ns.length)=ds.drop (ds.length-(P.fn f).dflt.length):=by congr 1;exact RM hlen la nl
 haveI hb:BindsTo s fd ⟨mD,[]⟩ (ns.zip (mD++ds.drop (ds.length-(P.fn f).dflt.length))):=by
  refine Lw lw (Gm p1 p2 p3 p4 p5 nd (To hlen la nl) dl (Qk hlen la nl dle) ?_);rcases ddf with⟨e,rfl⟩|⟨t,ot,n,e,kt,ed⟩
  ·refine⟨none,fun M A E Q q=>?_,rfl⟩;refine Rw e (?_);unfold seqItems?;exact wpAny_bind (wpAny_of_eq (by rfl) (wpAny_pure q))
  ·refine⟨some ds.toArray,fun M A E Q q=>?_,rfl⟩;exact Rw e (wpAny_seqItems (X _ _ kt) ed q)
 refine codeAny_call_function (Td rm.depth) (X _ _ ko) dd dco dge db (codeRec_of X dcode) (hb _ _ _ _ ?_);refine Rw dcl (?_);haveI B5:∀(n:Nat) x,fd.scope.names.lookup x=some .cell->((cellsFrom n fd.scope.names []).lookup x).isSome=true:=fun n x e=>cellsFrom_some _ n [] (.inl e);refine wpAny_newFunctionEnv_cells dk (fun x hx=>?_) fun env he dT C=>?_
 ·exact(List.mem_iff_getElem?.mp (of_mem_zip hx).1).elim fun i hi=>((hs i x.1 hi).2.imp id fun q=>⟨q,B5 _ _ q⟩)
 obtain⟨ay,tk,rfl,up⟩:=C.done;haveI eL:env.locals=s.heap.objs.size:=Rw he rfl;haveI eC:env.cells=cellsFrom (s.heap.objs.size+1) fd.scope.names []:=Rw he rfl;have eS:env.scope=fd.scope:=Rw he rfl;have eK:∀x,env.kindOf x=fd.scope.names.lookup x:=fun x=>by unfold Env.kindOf;exact Rw eS rfl
 have Co:∀x,fd.scope.names.lookup x≠some .free:=fun x q=>hfree _ (mem_of_lookup q) rfl
 have es:iF ⟨fd.scope,slot⟩ env:={
  kind:=Rw eS dk
  globals:=Rw he dg
  builtins:=Rw he dbn
  loc:=fun x q=>(eK x).trans q
  glob:=fun x q=>(eK x).trans q
  cell:=fun x q=>by
   rcases q with q|q
   ·exact⟨(eK x).trans q,Rw eC (Option.isSome_iff_exists.mp (B5 _ x q))⟩
   ·exact absurd q (Co x)
  slots:=hsl
  apart:=fun x y c e e'=>name_of_addr C.apart (mem_of_lookup e) (mem_of_lookup e')
  off:=fun x c e=>ne_of_gt (C.above x c (mem_of_lookup e))}
 have ri:∀a,Own env a->s.heap.get? a=none:=fun a z=>by
  cases q:s.heap.get? a with
  |none=>rfl
  |some ob=>
   haveI:=Heap.lt_size q;rcases z with rfl|⟨x,e⟩
   ·rw[eL]at this;exact absurd this (lt_irrefl _)
   ·haveI h2:=C.above x a (mem_of_lookup e);rw[eL]at h2;exact absurd (lt_trans h2 this) (lt_irrefl _)
 let bY:Addr->Prop:=fun a=>π a\/Own env a
 haveI k₁:Keeps π bY ρ ρ s.heap ay:=.more (fun a z=>z.imp id (ri a)) up;refine cps fun G kG=>?_;obtain⟨oL,_,_,Y7,_⟩:=id C.toInCall.ns;refine kG ?_
 haveI ER:Dy Γ.T Γ.B bY ρ ay σ:={
  sig:=D.sig.keeps k₁ (fun a ob y_ e=>up a ob e) (fun a z m=>z.elim (fun x=>D.sig.a8 a x m) fun x=>by refine(D.sig.mut m).elim fun ob e=>?_;rw[ri a x]at e;exact nn e) (fun a z=>by
   rcases z with z|rfl|⟨x,e⟩
   ·exact(D.sig.there a z).elim fun ob e=>⟨ob,up a ob e⟩
   ·exact⟨oL,Y7⟩
   ·obtain⟨ob,e,_⟩:=C.cell x a e;exact⟨ob,e⟩)
  ao:=fun b ob e=>up b ob (D.ao b ob e)
  jW:=fun b ob e z=>by
   rcases z with(z|z)|z
   ·exact D.jW b ob e (.inl z)
   ·haveI:=D.ao b ob e;rw[ri b z]at this;exact nn this
   ·exact D.jW b ob e (.inr z)}
 have got:∀(x:Str) (i:Nat) (u:V),slot.lookup x=some i->((args++(P.fn f).dflt).map some++List.replicate ((P.fn f).slots-(P.fn f).params) none)[i]?=some (some u)->ns[i]?=some x/\∃u',(mD++ds.drop (ds.length-(P.fn f).dflt.length))[i]?=some u'/\Rel Γ.T bY ρ ay u u':=fun x i u e q=>by
  have li:i<(args++(P.fn f).dflt).length:=by
   by_cases l:i<(args++(P.fn f).dflt).length
   ·exact l
   ·rw[getElem?_append_right (by simpa using le_of_not_lt l)]at q;have:=List.eq_of_mem_replicate (List.mem_of_getElem? q);cases this
  rw[getElem?_append_left (by simpa using li)]at q
  have q':(args++(P.fn f).dflt)[i]?=some u:=by
   replace q:=(getElem?_map)▸q
   cases z:(args++(P.fn f).dflt)[i]? with
   |none=>haveI q:=z▸q;exact nn q
   |some u'=>replace q:=z▸q;cases q;rfl
  obtain⟨u',e',r⟩:=ez (dH ra (bj.mono (ρ:=[]) ⟨fun a o e y_=>D.jW a o e,fun a o e y_=>D.ao a o e,zero_le _,fun n p l y_=>absurd l (not_lt_zero n)⟩ _ _ rd)) q';have ln:i<ns.length:=by rw[length_append]at li;exact Wg hlen li nl
  have hn:=getElem?_eq_getElem ln;have:=hsl _ _ _ e (hs i _ hn).1;exact⟨this▸hn,u',e',r.mono k₁ _ _⟩
 haveI kj:cu Γ.T ⟨fd.scope,slot⟩ env bY ρ ay ((args++(P.fn f).dflt).map some++List.replicate ((P.fn f).slots-(P.fn f).params) none):={
  ns:=⟨_,C.toInCall.ns,fun x i u e q hl=>by
   obtain⟨hn,u',e',r⟩:=got x i u e q
   exact⟨u',rN _ ((eK x).trans hl) _ nd hn e',r⟩⟩
  cells:=fun x c e=>⟨_,C.cell x c e⟩
  held:=fun x i u e q hl=>by
   obtain⟨hn,u',e',r⟩:=got x i u e q;rcases hl with hl|hl
   ·refine((es.cell x (.inl hl)).2).elim fun c ec=>⟨c,u',ec,?_,r⟩;haveI:=C.cell x c ec;rwa [sR _ (by rw[eK];refine Rw (show fd.scope.names.lookup x=some .cell from hl) (?_);decide) _ nd hn e']at this
   ·exact absurd hl (Co x)
  a8:=.inr (.inl rfl)
  cV:=fun x c e=>.inr (.inr ⟨x,e⟩)}
 refine⟨((D.top Γ.Y.gy).nolimit).keeps up,codeAny_func ?_⟩
 have IF:∀π ρ h f',E6 Γ.T π ρ h fl f'->Rel Γ.T π ρ h v (match f' with|.ret v=>v|_=>.none):=fun π ρ h f' r=>by
  rcases hv with rfl|⟨rfl,rfl⟩
  ·obtain⟨v',e,r⟩:=r;subst e;exact r
  ·cases(r);rfl
 refine wpAny_mono (ev Γ _ env _ hchk (A.deeper env) _ bY ρ (fun f s'=>R (.ok (.ret (match f with|.ret v=>v|_=>.none))) s') ⟨es,rm.deeper,ER,kj⟩ fun f' aA h' tk' fr S' V' g=>?_) (fun y_ y_ x=>x) fun y_ y_ x=>x.elim;haveI kl:Keeps bY π aA aA h' h':=.less fun a z=>.inl z;exact hR _ aA h' tk' ((IF _ _ _ _ fr).mono kl _ _) (S'.less fun a z=>.inl z) ((aK.up up).fresh g fun a z=>.inr (ri a z))
end
end
section
section
variable {P:Prog} {Γ:Ctx P} {d:Nat} {cx:Cx} {env:Env} {A:Around} {s:Shared} {π:Addr->Prop} {ρ aA:bZ} {σ ab:St} {fr aB:Fr} {h h':Heap} {tk':Nat}
theorem At.step(a:At Γ d cx env A s π ρ σ fr)(S:aZ Γ.T π aA h' ab)(g:aK bG ρ s.heap aA h'):At Γ d cx env A {s with heap:=h',toks:=tk'} π aA ab fr:=⟨a.es,a.rm,a.D.grow S g fun y_ x=>x.elim,a.V.step a.D.sig g⟩
theorem At.wz(a:At Γ d cx env A s π ρ σ fr)(S:aZ Γ.T π aA h' ab)(V:cu Γ.T cx env π aA h' aB)(g:aK (Own env) ρ s.heap aA h'):At Γ d cx env A {s with heap:=h',toks:=tk'} π aA ab aB:=⟨a.es,a.rm,a.D.grow S g a.V.own,V⟩
theorem At.tok(a:At Γ d cx env A s π ρ σ fr):At Γ d cx env A {s with toks:=tk'} π ρ σ fr:=⟨a.es,a.rm,a.D,a.V⟩
theorem At.mX(a:At Γ d cx env A s π ρ σ fr):Γ.K.In s.heap:=a.D.mX Γ.Y.gy
theorem Rel.step{T:Tab}{v:V}{v':Value}(r:Rel T π ρ h v v')(g:aK bG ρ h aA h'):Rel T π aA h' v v':=r.mono (g.keeps fun y_ x=>x.elim) _ _
theorem bj.step{T:Tab}{v:List V}{v':List Value}(r:bj T π ρ h v v')(g:aK bG ρ h aA h'):bj T π aA h' v v':=r.mono (g.keeps fun y_ x=>x.elim) _ _
theorem dG{t:Sem Value}{v:V}{Q:Value->Shared->Prop}{σ:St}(y:bu Γ.T π ρ Γ.af Γ.w A s t v)(S:aZ Γ.T π ρ s.heap σ)(o:Out Γ π ρ s v σ Q):wpAny (model Γ.af Γ.w) A t Q aU s:=y Q fun v' h' tk' r up=>o v' ρ h' tk' r (S.up up.keep) (up.grow _ _)
theorem gR{v:V}{v':Value}{Q:Value->Shared->Prop}{σ:St}{tk':Nat}(r:Rel Γ.T π ρ s.heap v v')(S:aZ Γ.T π ρ s.heap σ)(o:Out Γ π ρ s v σ Q):Q v' {s with toks:=tk'}:=o v' ρ s.heap tk' r S (aK.refl _ _ _)
theorem Out.next{v:V}{Q:Value->Shared->Prop}(o:Out Γ π ρ s v ab Q)(g:aK bG ρ s.heap aA h'):Out Γ π aA {s with heap:=h',toks:=tk'} v ab Q:=fun v' zl eM ki r S k=>o v' zl eM ki r S (g.trans k)
theorem ta.next{b:Bool}{Q:Bool->Shared->Prop}(o:ta Γ π ρ s b ab Q)(g:aK bG ρ s.heap aA h'):ta Γ π aA {s with heap:=h',toks:=tk'} b ab Q:=fun zl eM ki S k=>o zl eM ki S (g.trans k)
theorem BU.next{fl:Fl}{Q:Flow->Shared->Prop}(o:BU Γ cx env π ρ s fl aB ab Q)(g:aK (Own env) ρ s.heap aA h'):BU Γ cx env π aA {s with heap:=h',toks:=tk'} fl aB ab Q:=fun v' zl eM ki r S V k=>o v' zl eM ki r S V (g.trans k)
theorem aK.own(g:aK bG ρ h aA h'):aK (Own env) ρ h aA h':=g.weak fun y_ x=>x.elim
theorem ic{o:Expr}{attr:Str}{env:Env}{whole:Sem Value}(h:oT o=true):attributeBase o attr env whole=whole:=by
 cases o with
 |Call g l kw pos=>replace h:eO 23 g=true:=h;cases g<;>first|rfl|exact absurd h bf
 |_=>rfl
theorem uQ{env:Env}:∀{l:List Expr},(∀e∈l,notStar e=true)->starEach l env=l.map fun e=>(false,eval e env)
 |[]=>@fun _=>rfl
 |e::l=>@fun h=>by
  haveI key:starEach (e::l) env=(false,eval e env)::starEach l env:=by have he:=h e mem_cons_self;clear h;cases e<;>first|rfl|exact absurd he bf
  exact key.trans (congrArg _ (uQ fun x hx=>h x (mem_cons_of_mem _ hx)))
theorem fM{l:List Expr}{env:Env}{pos:Pos}(h:∀e∈l,notStar e=true):backTo pos (starEach l env)=l.map fun e=>(false,eval e env):=by refine Rw (uQ h) (?_);unfold backTo;exact Rw map_map rfl
theorem dF{T:Tab}{N:Nm}:∀{xs:Xs} {l:List Expr},ik T N cx xs l=true->∀e∈l,notStar e=true
 |.nil=>@fun h=>bT.ind (M:=fun l=>∀e∈l,notStar e=true) (fun y_ h=>nomatch h) h
 |.cons a r=>by rename_i l;intro h;exact cI.ind (M:=fun l=>∀e∈l,notStar e=true) (fun e l h x hx=>(mem_cons.mp hx).elim (fun z=>z▸aL h) fun z=>dF (aR (aR h)) x z) h
theorem eA{e:Expr}(h:notStar e=true):∀x∈[e],notStar x=true:=fun x hx=>mem_singleton.mp hx▸h
theorem lz{e f:Expr}(h:notStar e=true)(k:notStar f=true):∀x∈[e,f],notStar x=true:=fun x hx=>(mem_cons.mp hx).elim (fun z=>z▸h) (eA k x)
noncomputable def mn(e:Expr):Bool:=eO 3 e&&(eO 0 e&&(eO 5 e&&eO 15 e))
theorem Ap{e:Expr}{whole:Sem Value}(hp:mn e=true):isTrue e env whole=(do let v <-whole;standAt e.pos;holding [v] (truthy v)):=by cases e<;>first|rfl|exact absurd hp bf
theorem zG{af:Program}{w:World}{e:Expr}{Q:Bool->Shared->Prop}{E:Value->Shared->Prop}(hp:mn e=true)(h:wpAny (model af w) A (eval e env) (fun v dT=>wpAny (model af w) A (truthy v) Q E dT) E s):wpAny (model af w) A (isTrue e env (eval e env)) Q E s:=isTrue_plain h (Ap hp)
theorem Goal.gen{v:V}{e:Expr}(hp:mn e=true)(h:gi Γ d cx env fr σ v ab e):Goal Γ d cx env fr σ v ab e:=⟨h,fun b hb A s π ρ Q a o=>zG hp (h A s π ρ _ a fun v' aA h' tk' r S g=>by subst hb;obtain rfl:=r;exact wpAny_truthy_bool (o aA h' tk' S g))⟩
theorem Goal.bool{b:Bool}{e:Expr}(h:gi Γ d cx env fr σ (.bool b) ab e)(t:Gk Γ d cx env fr σ b ab e):Goal Γ d cx env fr σ (.bool b) ab e:=⟨h,fun b' hb=>by cases hb;exact t⟩
theorem Goal.only{v:V}{e:Expr}(hv:∀b,v≠.bool b)(h:gi Γ d cx env fr σ v ab e):Goal Γ d cx env fr σ v ab e:=⟨h,fun b hb=>absurd hb (hv b)⟩
theorem jy{e:Expr}{l:List Expr}{v:V}{vs:List V}{ae:St}(hx:gi Γ d cx env fr σ v ae e)(hr:rD Γ d cx env fr ae vs ab l):rD Γ d cx env fr σ (v::vs) ab (e::l):=fun A s π ρ Q a o=>spliced_cons (hx _ _ _ _ _ a fun cH aE ay aI aT aF az=>hr _ _ _ _ _ (a.step aF az) fun aas bp aY bg bD aX aP=>o _ bp aY bg ⟨_,_,rfl,aT.step aP,bD⟩ aX (az.trans aP))
theorem pQ:rD Γ d cx env fr σ [] σ []:=fun A s π ρ Q a o=>spliced_nil (o [] ρ s.heap s.toks rfl a.D.sig (aK.refl _ _ _))
theorem gN{e:Expr}{v:V}(hx:gi Γ d cx env fr σ v ab e):wm Γ d cx env fr σ [v] ab [e]:=⟨rfl,fun h=>absurd h (cons_ne_nil _ _),jy hx pQ⟩
theorem oU{e e':Expr}{v v':V}{ae:St}(hx:gi Γ d cx env fr σ v ae e)(hy:gi Γ d cx env fr ae v' ab e'):wm Γ d cx env fr σ [v,v'] ab [e,e']:=⟨rfl,fun h=>absurd h (cons_ne_nil _ _),jy hx (gN hy).val⟩
theorem qW.nil{σ:St}:qW P d .nil fr σ [] σ:=fun Γ cx env l hc=>bT.ind ⟨rfl,fun y_=>rfl,pQ⟩ hc
theorem qW.cons{x:X}{xs:Xs}{v:V}{vs:List V}{ae:St}(hx:Ev P d x fr σ v ae)(hr:qW P d xs fr ae vs ab):qW P d (.cons x xs) fr σ (v::vs) ab:=fun Γ cx env l hc=>cI.ind
  (fun e l hc=>⟨congrArg (· +1) (hr Γ cx env l (aR (aR hc))).len,fun h=>absurd h (cons_ne_nil _ _),jy (hx Γ cx env e (aL (aR hc))).val (hr Γ cx env l (aR (aR hc))).val⟩) hc
theorem args_call{f:Value}{first:List Value}{l:List Expr}{vs:List V}{pos:Pos}{Q:Value->Shared->Prop}{Ph:Heap->Prop}(hx:wm Γ d cx env fr σ vs ab l)(hs:∀e∈l,notStar e=true)(a:At Γ d cx env A s π ρ σ fr)
  (hk:∀h,Ph h->∃k,(k=Keeper.frame\/k=Keeper.machine\/k=Keeper.boundFrame)/\Looks (model Γ.af Γ.w) h (keeperOf f) k)
  (h:IK Γ π ρ s vs ab fun dX dT=>Ph dT.heap/\wpAny (model Γ.af Γ.w) A (PySem.call f (first++dX) []) Q aU dT):wpAny (model Γ.af Γ.w) A (callWith pos f first (backTo pos (starEach l env)) []) Q aU s:=by
 refine Rw (fM hs) (callWith_of (by simp) hk ?_)
 cases l with
 |nil=>obtain rfl:=hx.nil rfl;obtain rfl:=length_eq_zero_iff.mp hx.len;exact evalArgs_nil3 (h [] ρ s.heap s.toks rfl a.D.sig (aK.refl _ _ _))
 |cons e l=>exact evalArgs_plain (hx.val _ _ _ _ _ a h)
end
end
section
section
variable {P:Prog} {d:Nat} {fr:Fr} {σ ae av bh:St}
theorem HT(v:V){Γ:Ctx P}{cx:Cx}{env:Env}{c:Const}{n:Nat}{p:Pos}(hc:Gs v c=true):gi Γ d cx env fr σ v σ (.Constant c n p):=by
 cases v with
 |none=>cases c<;>first|exact absurd hc bf|exact fun A s π ρ Q a o=>Constant_none (gR (v:=.none) rfl a.D.sig o)
 |bool b=>exact Ck.ind (M:=fun c=>gi Γ d cx env fr σ (.bool b) σ (.Constant c n p)) (fun x h A s π ρ Q a o=>Constant_bool (gR (v:=.bool b) (congrArg Value.bool (eq_of_beq h).symm) a.D.sig o)) hc
 |int i=>exact B7.ind (M:=fun c=>gi Γ d cx env fr σ (.int i) σ (.Constant c n p)) (fun x h A s π ρ Q a o=>wpAny_Constant_int (gR (v:=.int i) ⟨_,congrArg (Value.int · _) (eq_of_beq h).symm⟩ a.D.sig o)) hc
 |str i=>exact vp.ind (M:=fun c=>gi Γ d cx env fr σ (.str i) σ (.Constant c n p)) (fun x h A s π ρ Q a o=>Constant_str (gR (v:=.str i) ⟨_,congrArg (Value.str · _) (eq_of_beq h)⟩ a.D.sig o)) hc
 |_=>exact absurd hc bf
theorem Ev.cst{v:V}:Ev P d (.cst v) fr σ v σ:=fun Γ cx env e hc=>jk.ind (fun c n p h=>.gen rfl (HT v h)) hc
theorem eB{M:Expr->Prop}{cx:Cx}{x:Str}(f:lL cx x=true->∀p,M (.Name x p)){e:Expr}(h:fS cx x e=true):M e:=cG.ind (fun y p h=>eq_of_beq (aL h)▸f (aR h) p) h
theorem Ev.gc{g:Nat}:Ev P d (.gc g) fr σ (P.const g) σ:=fun Γ cx env e hc=>eB (fun h p=>.gen rfl fun A s π ρ Q a o=>
 let⟨_,en,r⟩:=Γ.Y.gy.consts g (aL hc)
 mS Γ.Y.gy a.D a.es en h (gR (a.D.const r) a.D.sig o)) (aR hc)
theorem Ev.var{i:Nat}{v:V}(hf:fr[i]?=some (some v)):Ev P d (.var i) fr σ v σ:=fun Γ cx env e hc=>cG.ind
 (fun x p h=>.gen rfl fun A s π ρ Q a o=>D6 a.D a.es a.V (eq_of_beq (aL h)) (aR h) hf fun v' r=>gR r a.D.sig o) hc
theorem Ev.neg{x:X}{i:Int}(hx:Ev P d x fr σ (.int i) ae):Ev P d (.neg x) fr σ (.int (-i)) ae:=fun Γ cx env e hc=>uY.ind
 (fun op e p h=>.only (fun y_ h=>nomatch h) fun A s π ρ Q a o=>by
  obtain rfl:=eq_of_beq (aL h);refine UnaryOp_ ((hx Γ _ _ _ (aR h)).val _ _ _ _ _ a fun v' aA h' tk' r S g=>?_);obtain⟨t,rfl⟩:=r
  exact PySem.P.neg_int (o _ aA h' _ ⟨_,rfl⟩ S g)) hc
theorem Ev.nt{x:X}{b:Bool}(hx:Ev P d x fr σ (.bool b) ae):Ev P d (.nt x) fr σ (.bool (!b)) ae:=fun Γ cx env e hc=>uY.ind
 (fun op e p h=>by
  obtain rfl:=eq_of_beq (aL h);haveI hx:=hx Γ cx env e (aR h)
  exact .bool (fun A s π ρ Q a o=>UnaryOp_ (hx.val _ _ _ _ _ a fun v' aA h' tk' r S g=>(r)▸not_of (wpAny_truthy_bool (o _ aA h' _ rfl S g))))
   (fun A s π ρ Q a o=>isTrue_not (hx.lU b rfl _ _ _ _ _ a fun aA h' tk' S g=>o aA h' tk' S g))) hc
theorem Ev.cmp{c:oH}{x y:X}{vx vy:V}{b:Bool}(hx:Ev P d x fr σ vx ae)(hy:Ev P d y fr ae vy av)(hb:eg c av vx vy=some b):Ev P d (.cmp c x y) fr σ (.bool b) av:=fun Γ cx env e hc=>
 rH.ind (fun l op r p h=>by
  obtain rfl:=eq_of_beq (aL h);replace h:=aR h;haveI hx:=(hx Γ cx env l (aL h)).val;haveI hy:=(hy Γ cx env r (aL (aR h))).val
  exact .bool (fun A s π ρ Q a o=>wpAny_Compare1 (hx _ _ _ _ _ a fun cH aE ay aI aT aF az=>hy _ _ _ _ _ (a.step aF az) fun eE bp aY bg bD aX aP=>
    eX a.rm.room aX (aT.step aP) bD hb (o _ bp aY bg rfl aX (az.trans aP))) (qZ (aR (aR h))))
   (fun A s π ρ Q a o=>wpAny_isTrue_Compare1 (hx _ _ _ _ _ a fun cH aE ay aI aT aF az=>hy _ _ _ _ _ (a.step aF az) fun eE bp aY bg bD aX aP=>
    eX a.rm.room aX (aT.step aP) bD hb (wpAny_truthy_bool (o bp aY bg aX (az.trans aP)))) (qZ (aR (aR h))))) hc
theorem Ev.iI{c c':oH}{x y z:X}{vx vy:V}{b b':Bool}(hx:Ev P d x fr σ vx ae)(hy:Ev P d y fr ae vy av)(hb:eg c av vx vy=some b)
  (hz:(b=false/\b'=false/\bh=av)\/(b=true/\∃vz,Ev P d z fr av vz bh/\eg c' bh vy vz=some b')):Ev P d (.iI c c' x y z) fr σ (.bool b') bh:=fun Γ cx env e hc=>
 rn.ind (fun l op LQ r r' p h=>by
  obtain rfl:=eq_of_beq (aL h);replace h:=aR h;obtain rfl:=eq_of_beq (aL h);replace h:=aR h;haveI hx:=(hx Γ cx env l (aL h)).val;replace h:=aR h;have hy:=(hy Γ cx env r (aL h)).val;replace h:=aR h;haveI h4:=qZ (aR h);haveI h3:=aL h;clear h;rcases hz with⟨rfl,rfl,rfl⟩|⟨rfl,vz,hz,WM⟩
  ·exact .bool (fun A s π ρ Q a o=>Compare_chain (hx _ _ _ _ _ a fun cH aE ay aI aT aF az=>chain_link (hy _ _ _ _ _ (a.step aF az) fun eE bp aY bg bD aX aP=>
     eX a.rm.room aX (aT.step aP) bD hb (wpAny_truthy_bool (o _ bp aY bg rfl aX (az.trans aP))))) h4)
    (fun A s π ρ Q a o=>isTrue_chain (hx _ _ _ _ _ a fun cH aE ay aI aT aF az=>test_link (hy _ _ _ _ _ (a.step aF az) fun eE bp aY bg bD aX aP=>
     eX a.rm.room aX (aT.step aP) bD hb (wpAny_truthy_bool (o bp aY bg aX (az.trans aP))))) h4)
  ·have hz:=(hz Γ cx env r' h3).val
   exact .bool (fun A s π ρ Q a o=>Compare_chain (hx _ _ _ _ _ a fun cH aE ay aI aT aF az=>chain_link (hy _ _ _ _ _ (a.step aF az) fun eE bp aY bg bD aX aP=>
     eX a.rm.room aX (aT.step aP) bD hb (wpAny_truthy_bool (chain_last (hz _ _ _ _ _ ((a.step aF az).step aX aP) fun m5 dv bA dD iO dA dz=>
      eX a.rm.room dA (bD.step dz) iO WM (o _ dv bA dD rfl dA (az.trans (aP.trans dz)))))))) h4)
    (fun A s π ρ Q a o=>isTrue_chain (hx _ _ _ _ _ a fun cH aE ay aI aT aF az=>test_link (hy _ _ _ _ _ (a.step aF az) fun eE bp aY bg bD aX aP=>
     eX a.rm.room aX (aT.step aP) bD hb (wpAny_truthy_bool (test_last (hz _ _ _ _ _ ((a.step aF az).step aX aP) fun m5 dv bA dD iO dA dz=>
      eX a.rm.room dA (bD.step dz) iO WM (wpAny_truthy_bool (o dv bA dD dA (az.trans (aP.trans dz))))))))) h4)) hc
theorem Ev.bin{c:rg}{x y:X}{vx vy v:V}(hx:Ev P d x fr σ vx ae)(hy:Ev P d y fr ae vy av)(hb:binop c av vx vy=some v):Ev P d (.bin c x y) fr σ v av:=fun Γ cx env e hc=>
 pS.ind (fun l op r p h=>by
  obtain rfl:=eq_of_beq (aL h)
  exact .gen rfl fun A s π ρ Q a o=>wpAny_BinOp ((hx Γ cx env l (aL (aR h))).val _ _ _ _ _ a fun cH aE ay aI aT aF az=>(hy Γ cx env r (aR (aR h))).val _ _ _ _ _ (a.step aF az) fun eE bp aY bg bD aX aP=>
   dG (Dv a.rm.room aX (aT.step aP) bD hb) aX ((o.next az).next aP))) hc
theorem Ev.eG{c x y:X}{b:Bool}{v:V}(Fu:Ev P d c fr σ (.bool b) ae)(hx:b=true->Ev P d x fr ae v av)(hy:b=false->Ev P d y fr ae v av):Ev P d (.eG c x y) fr σ v av:=fun Γ cx env e hc=>
 CH.ind (fun t e e' p h=>by
  have ht:=(Fu Γ cx env t (aL h)).lU b rfl;haveI h:=aR h;refine⟨fun A s π ρ Q a o=>IfExp_ (ht _ _ _ _ _ a fun aE ay aI aF az=>?_),fun b' eb A s π ρ Q a o=>isTrue_IfExp (ht _ _ _ _ _ a fun aE ay aI aF az=>?_)⟩
  ·cases b
   ·exact(hy rfl Γ cx env e' (aR h)).val _ _ _ _ _ (a.step aF az) (o.next az)
   ·exact(hx rfl Γ cx env e (aL h)).val _ _ _ _ _ (a.step aF az) (o.next az)
  ·cases b
   ·exact(hy rfl Γ cx env e' (aR h)).lU b' eb _ _ _ _ _ (a.step aF az) (o.next az)
   ·exact(hx rfl Γ cx env e (aL h)).lU b' eb _ _ _ _ _ (a.step aF az) (o.next az)) hc
end
end
section
structure L6{P:Prog}(Γ:Ctx P)(d:Nat)(cx:Cx)(env:Env)(fr:Fr)(σ:St)(k b:Bool)(ab:St)(l:List Expr):Prop where
 nil:l=[]->b=k/\ab=σ
 val:∀pos A s π ρ (Q:Value->Shared->Prop),l≠[]->At Γ d cx env A s π ρ σ fr->ta Γ π ρ s b ab (fun b=>Q (.bool b))->wpAny (model Γ.af Γ.w) A (eval (.BoolOp (bif k then .And else .Or) l pos) env) Q aU s
 lU:∀pos A s π ρ (Q:Bool->Shared->Prop) whole,At Γ d cx env A s π ρ σ fr->ta Γ π ρ s b ab Q->wpAny (model Γ.af Γ.w) A (isTrue (.BoolOp (bif k then .And else .Or) l pos) env whole) Q aU s
def Bo(P:Prog)(d:Nat)(k:Bool)(xs:Xs)(fr:Fr)(σ:St)(b:Bool)(ab:St):Prop:=∀(Γ:Ctx P) (cx:Cx) (env:Env) (l:List Expr),ik Γ.T Γ.N cx xs l=true->L6 Γ d cx env fr σ k b ab l
section
variable {P:Prog} {d:Nat} {fr:Fr} {σ ae av bh ab:St}
theorem Bo.nil{k:Bool}:Bo P d k .nil fr σ k σ:=fun Γ cx env l hc=>bT.ind
 ⟨fun y_=>⟨rfl,rfl⟩,fun y_ y_ y_ y_ y_ y_ h=>absurd rfl h,fun pos A s π ρ Q whole a o=>by
  haveI:=o ρ s.heap s.toks a.D.sig (aK.refl _ _ _);cases k
  ·exact isTrue_or_nil this
  ·exact isTrue_and_nil this⟩ hc
theorem Bo.stop{k:Bool}{x:X}{xs:Xs}(hx:Ev P d x fr σ (.bool !k) ab):Bo P d k (.cons x xs) fr σ (!k) ab:=fun Γ cx env l hc=>
 cI.ind (fun e l hc=>by
  have hx:=hx Γ cx env e (aL (aR hc));clear hc;refine⟨fun h=>absurd h (cons_ne_nil _ _),fun pos A s π ρ Q y_ a o=>?_,fun pos A s π ρ Q whole a o=>?_⟩
  ·have go:∀(Q':Value->Shared->Prop),(∀aE ay aI,aZ Γ.T π aE ay ab->aK bG ρ s.heap aE ay->Q' (.bool !k) {s with heap:=ay,toks:=aI})->wpAny (model Γ.af Γ.w) A (eval e env) Q' aU s:=fun Q' Mp=>
    hx.val _ _ _ _ _ a fun cH aE ay aI aT aF az=>(aT)▸Mp aE ay aI aF az
   cases l with
   |nil=>exact BoolOp_one (go _ o)
   |cons BW l=>
    cases k
    ·exact BoolOp_or (go _ fun aE ay aI aF az=>wpAny_truthy_bool (o aE ay aI aF az))
    ·exact BoolOp_and (go _ fun aE ay aI aF az=>wpAny_truthy_bool (o aE ay aI aF az))
  ·cases k
   ·exact isTrue_or (hx.lU _ rfl _ _ _ _ _ a o)
   ·exact isTrue_and (hx.lU _ rfl _ _ _ _ _ a o)) hc
theorem Bo.go{k b:Bool}{x:X}{xs:Xs}(hx:Ev P d x fr σ (.bool k) ae)(hr:Bo P d k xs fr ae b ab):Bo P d k (.cons x xs) fr σ b ab:=fun Γ cx env l hc=>
 cI.ind (fun e l hc=>by
  have hx:=hx Γ cx env e (aL (aR hc));have hr:=hr Γ cx env l (aR (aR hc));clear hc;refine⟨fun h=>absurd h (cons_ne_nil _ _),fun pos A s π ρ Q y_ a o=>?_,fun pos A s π ρ Q whole a o=>?_⟩
  ·have go:∀(Q':Value->Shared->Prop),(∀aE ay aI,aZ Γ.T π aE ay ae->aK bG ρ s.heap aE ay->Q' (.bool k) {s with heap:=ay,toks:=aI})->wpAny (model Γ.af Γ.w) A (eval e env) Q' aU s:=fun Q' Mp=>
    hx.val _ _ _ _ _ a fun cH aE ay aI aT aF az=>(aT)▸Mp aE ay aI aF az
   cases l with
   |nil=>obtain⟨rfl,rfl⟩:=hr.nil rfl;exact BoolOp_one (go _ o)
   |cons BW l=>
    cases k
    ·exact BoolOp_or (go _ fun aE ay aI aF az=>wpAny_truthy_bool (hr.val pos _ _ _ _ Q (cons_ne_nil _ _) (a.step aF az) (o.next az)))
    ·exact BoolOp_and (go _ fun aE ay aI aF az=>wpAny_truthy_bool (hr.val pos _ _ _ _ Q (cons_ne_nil _ _) (a.step aF az) (o.next az)))
  ·cases k
   ·exact isTrue_or (hx.lU _ rfl _ _ _ _ _ a fun aE ay aI aF az=>hr.lU pos _ _ _ _ Q _ (a.step aF az) (o.next az))
   ·exact isTrue_and (hx.lU _ rfl _ _ _ _ _ a fun aE ay aI aF az=>hr.lU pos _ _ _ _ Q _ (a.step aF az) (o.next az))) hc
theorem Ev.bo{k b:Bool}{xs:Xs}(h:Bo P d k xs fr σ b ab):Ev P d (.bo k xs) fr σ (.bool b) ab:=fun Γ cx env e hc=>BZ.ind (fun op l p hc=>by
  obtain rfl:=eq_of_beq (aL hc);haveI h:=h Γ cx env l (aR (aR hc))
  exact .bool (fun A s π ρ Q a o=>h.val p _ _ _ _ Q (cI.ind (M:=fun l=>l≠[]) (fun a r y_=>cons_ne_nil _ _) (aL (aR hc))) a fun aA h' tk' S g=>o _ aA h' tk' rfl S g) fun A s π ρ Q a o=>h.lU p _ _ _ _ Q _ a o) hc
theorem xo{n:Nat}(h:Nat.ble n 100=true):n<=lim:=le_trans (bl h) (by decide)
theorem Ev.aj{xs:Xs}{vs:List V}(hx:qW P d xs fr σ vs ae):Ev P d (.aj xs) fr σ (.aj vs) ae:=fun Γ cx env e hc=>dB.ind (fun l k p hc=>.gen rfl fun A s π ρ Q a o=>
  Tuple_ (fM (dF (aL hc))▸(hx Γ cx env l (aL hc)).val _ _ _ _ _ a fun dX aA h' tk' r S g=>dG (Er S r ((hx Γ cx env l (aL hc)).len▸xo (aR hc))) S (o.next g))) hc
theorem Ev.lst{xs:Xs}{vs:List V}(hx:qW P d xs fr σ vs ae):Ev P d (.lst xs) fr σ (.lst vs) ae:=fun Γ cx env e hc=>kN.ind (fun l p hc=>.gen rfl fun A s π ρ Q a o=>
  List_ (fM (dF (aL hc))▸(hx Γ cx env l (aL hc)).val _ _ _ _ _ a fun dX aA h' tk' r S g=>dG (H5 S r ((hx Γ cx env l (aL hc)).len▸xo (aR hc))) S (o.next g))) hc
theorem Ev.dS{xs:Xs}{vs:List V}(hx:qW P d xs fr σ vs ae):Ev P d (.dS xs) fr σ (.loc ae.length) (ae++[.list vs]):=fun Γ cx env e hc=>kN.ind (fun l p hc=>.gen rfl fun A s π ρ Q a o=>
  List_ (fM (dF (aL hc))▸(hx Γ cx env l (aL hc)).val _ _ _ _ _ a fun dX aA h' tk' r S g=>xD S r ((hx Γ cx env l (aL hc)).len▸xo (aR hc)) (o.next g))) hc
theorem At.mods{Γ:Ctx P}{cx:Cx}{env:Env}{A:Around}{s:Shared}{π:Addr->Prop}{ρ:bZ}(a:At Γ d cx env A s π ρ σ fr):s.heap.objs.size≠sysModules:=fun z=>by haveI h1:=(a.D.top Γ.Y.gy).g.lt;rw[z]at h1;exact absurd h1 (by decide)
theorem Ev.qB:Ev P d .qB fr σ (.loc σ.length) (σ++[O.dict []]):=fun Γ cx env e hc=>rz.ind (fun l r p hc=>
  bT.ind (M:=fun l=>Goal Γ d cx env fr σ (.loc σ.length) (σ++[O.dict []]) (.Dict l r p)) (bT.ind (M:=fun r=>Goal Γ d cx env fr σ (.loc σ.length) (σ++[O.dict []]) (.Dict [] r p)) (.gen rfl fun A s π ρ Q a o=>xY a.D.sig a.mods o) (aR hc)) (aL hc)) hc
theorem Ev.qT{x:X}{v v':V}(hx:Ev P d x fr σ v ae)(h:wj ae v=some (v',av))(hb:∀b,v'≠.bool b):Ev P d (.qT x) fr σ v' av:=fun Γ cx env e hc=>.only hb fun A s π ρ Q a o=>
  (hx Γ cx env e hc).val _ _ _ _ _ a fun w aA h' tk' r S g=>
   let⟨bp,bD,aX,aP⟩:=H6 (s:={s with heap:=h',toks:=tk'}) S r h
   o w bp h' tk' bD aX (g.trans aP)
theorem Br{slice:Expr}{o i:Value}(h:vK slice=true):subscripted slice false o i=operate [o,i] (getItem o i):=by cases slice<;>first|rfl|exact absurd h bf
theorem Ev.sub{x y:X}{vx vy v:V}(hx:Ev P d x fr σ vx ae)(hy:Ev P d y fr ae vy av)(h:kL av vx vy=some v):Ev P d (.sub x y) fr σ v av:=fun Γ cx env e hc=>iT.ind (fun u i p hc=>.gen rfl fun A s π ρ Q a o=>by
  refine Subscript_ ((hx Γ cx env u (aL (aR hc))).val _ _ _ _ _ a fun cH aE ay aI aT aF az=>(hy Γ cx env i (aR (aR hc))).val _ _ _ _ _ (a.step aF az) fun eE bp aY bg bD aX aP=>?_)
  obtain⟨t,id,ht,hl⟩:=(vP (af:=Γ.af) (w:=Γ.w) (s:={s with heap:=aY,toks:=bg}) a.rm.room aX (aT.step aP) bD h).1;exact tail_any ht hl (dG (vP (af:=Γ.af) (w:=Γ.w) (s:={s with heap:=aY,toks:=bg}) a.rm.room aX (aT.step aP) bD h).2 aX ((o.next az).next aP)) (Br (aL hc))) hc
theorem Ev.attr{x:X}{k:Nat}{vx v:V}(hx:Ev P d x fr σ vx ae)(h:nA P ae vx k=some v):Ev P d (.attr x k) fr σ v ae:=fun Γ cx env e hc=>fT.ind (fun u n p hc=>.gen rfl fun A s π ρ Q a o=>by
  obtain rfl:=eq_of_beq (aL hc);replace hc:=aR hc;refine Attribute_any_ ((hx Γ cx env u (aR (aR hc))).val _ _ _ _ _ a fun cH aE ay aI aT aF az=>?_) (by rw[arm_eval_Attribute,ic (aL (aR hc))])
  exact dG (Gy Γ.Y.gy.inj Γ.Y.gy.cls (a.step aF az).mX aF (bl (aL hc)) aT h) aF (o.next az)) hc
theorem zS{x:X}{v:V}(hx:Ev P d x fr σ v ae)(hn:iw x=true->v=.none/\ae=σ){Γ:Ctx P}{cx:Cx}{env:Env}{oe:Option Expr}(hc:l9 oe (iw x) (fun e=>bk Γ.T Γ.N cx x e)=true){A:Around}{s:Shared}{π:Addr->Prop}{ρ:bZ}{Q:Value->Shared->Prop}(a:At Γ d cx env A s π ρ σ fr)
  (o:Out Γ π ρ s v ae Q):wpAny (model Γ.af Γ.w) A (evalPart oe env) Q aU s:=l9.ind (M:=fun oe=>wpAny (model Γ.af Γ.w) A (evalPart oe env) Q aU s) (fun h=>wpAny_pure (o .none ρ s.heap s.toks ((hn h).1▸rfl) ((hn h).2▸a.D.sig) (aK.refl _ _ _))) (fun e h=>(hx Γ cx env e h).val _ _ _ _ _ a o) hc
theorem Ev.dV{x lo hi:X}{vx vl vh v:V}(hx:Ev P d x fr σ vx ae)(hl:Ev P d lo fr ae vl av)(hh:Ev P d hi fr av vh bh)(nl:iw lo=true->vl=.none/\av=ae)(nh:iw hi=true->vh=.none/\bh=av)(h:fp vx vl vh=some v):Ev P d (.dV x lo hi) fr σ v bh:=fun Γ cx env e hc=>
 iT.ind (fun e t p hc=>vU.ind (M:=fun t=>Goal Γ d cx env fr σ v bh (.Subscript e t p)) (fun l u st q hc=>.gen rfl fun A s π ρ Q a o=>by
  haveI hs:=l9.ind (fun y_=>rfl) (fun y_ h=>absurd h bf) (aL hc);subst hs;replace hc:=aR hc
  refine Subscript_ ((hx Γ cx env e (aL hc)).val _ _ _ _ _ a fun cH aE ay aI aT aF az=>wpAny_Slice (zS hl nl (aL (aR hc)) (a.step aF az) fun eE bp aY bg bD aX aP=>
   zS hh nh (aR (aR hc)) ((a.step aF az).step aX aP) fun m5 dv bA dD iO dA dz=>wpAny_pure ?_))
  have up:∀b o,bA.get? b=some o->(bA.push {cls:=.type "slice",data:=.fields #[eE,m5,.none]}).get? b=some o:=fun y_ y_ e=>Heap.get?_push_of_some _ e;haveI k:Keeps π π dv dv bA (bA.push {cls:=.type "slice",data:=.fields #[eE,m5,.none]}):=.up up
  obtain⟨⟨t,id,ht,mN⟩,y⟩:=DX (s:={s with heap:=bA.push {cls:=.type "slice",data:=.fields #[eE,m5,.none]},toks:=dD}) a.rm.room (dA.up up)
   (((aT.step aP).step dz).mono k _ _) ((bD.step dz).mono k _ _) (iO.mono k _ _) ⟨_,Heap.get?_push_size _ rfl,rfl,rfl⟩ h
  exact tail_any ht mN (dG y (dA.up up) (((o.next az).next aP).next (dz.trans (.up up)))) rfl) hc) hc
theorem vg{f:Nat}{vs:List V}{v:V}(h:Run P d f vs σ v ab){Γ:Ctx P}(hf:kJ Γ.K Γ.T Γ.N P Γ.fa Γ.B f){cx:Cx}{env:Env}{A:Around}{s:Shared}{π:Addr->Prop}{ρ:bZ}{dX:List Value}{Q:Value->Shared->Prop}
  (a:At Γ d cx env A s π ρ σ fr)(r:bj Γ.T π ρ s.heap vs dX)(o:Out Γ π ρ s v ab Q):wpAny (model Γ.af Γ.w) A (PySem.call (.ref (Γ.fa f)) dX []) Q aU s:=wpAny_call (h Γ hf A s π ρ dX _ a.rm.call a.D r o)
theorem Ev.call{f:Nat}{xs:Xs}{vs:List V}{v:V}(hx:qW P d xs fr σ vs ae)(h:Run P d f vs ae v av):Ev P d (.call f xs) fr σ v av:=fun Γ cx env e hc=>gu.ind (fun g l p hc=>
  eB (M:=fun g=>Goal Γ d cx env fr σ v av (.Call g l [] p)) (fun hg q=>.gen rfl fun A s π ρ Q a o=>by
   haveI oo:=Γ.Y.gy.fns f (aL hc);exact wpAny_Call_NameR (mS Γ.Y.gy a.D a.es oo.1 hg (args_call (hx Γ cx env l (aR (aR hc))) (dF (aR (aR hc))) a (keeps_K oo.2) fun dX aA h' tk' r S g=>⟨(a.step S g).mX,vg h (Γ.Y.K2 f (aL hc)) (a.step S g) r (o.next g)⟩))) (aL (aR hc))) hc
theorem fP{l:List Expr}{env:Env}{pos:Pos}(h:∀e∈l,notStar e=true)(hl:l.length<=25):methodCallForm (l.length+([]:List Keyword).length) (backTo pos (starEach l env)) (backToKw pos (keywordEach [] env))=true:=by
 refine Rw (fM h) (?_);haveI h1:(l.map fun e=>(false,eval e env)).all (fun x=>!x.1)=true:=by simp
 haveI h2:(backToKw pos (keywordEach [] env))=[]:=rfl;unfold methodCallForm;refine Rw h1 (Rw h2 (?_));simp;exact Pe hl
theorem Ev.aC{x:X}{k f:Nat}{xs:Xs}{vx v:V}{vs:List V}(h0:Ev P d x fr σ vx ae)(ef:lk P ae vx k=some f)(hx:qW P d xs fr ae vs av)(h:Run P d f (vx::vs) av v bh):Ev P d (.aC x k xs) fr σ v bh:=fun Γ cx env e hc=>nF.ind (fun ob nm ap l p hc=>.gen rfl fun A s π ρ Q a o=>by
  obtain rfl:=eq_of_beq (aL hc);replace hc:=aR hc;haveI h4:=aL (aL hc);haveI h5:=aR (aL hc);replace hc:=aR hc;haveI hl:=aL hc;replace hc:=aR hc;rw[arm_eval_Call,ic h4];refine wpAny_bind ((h0 Γ cx env ob (aL hc)).val _ _ _ _ _ a fun cH aE ay aI aT aF az=>wpAny_bind (wpAny_standAt ?_));have tP:=a.step (tk':=aI) aF az;unfold methodCall;refine Rw (fP (dF (aR hc)) (bl hl)) (?_)
  have ht:kJ Γ.K Γ.T Γ.N P Γ.fa Γ.B f/\keepIn Γ.K (.ref (Γ.fa f))=true:=by refine cps fun G kG=>?_;obtain⟨c,fs,q,ef⟩:=yC ef;obtain⟨_,_,_,_,_,_,_,ko,_⟩:=sW (s:={s with heap:=ay,toks:=aI}) aF aT q;exact kG ⟨Γ.Y.HW c k f ko.1 ef,Γ.Y.gy.meths c k f ko.1 ef⟩
  refine wpAny_bind (wpAny_holding (FW Γ.Y.gy.inj Γ.Y.gy.cls tP.mX aF aT ef ?_));unfold methodCallPos;refine Rw h5 (?_)
  exact wpAny_bind (wpAny_pure (args_call (hx Γ cx env l (aR hc)) (dF (aR hc)) tP (keeps_K ht.2) fun dX bp aY bg bD aX aP=>⟨(tP.step aX aP).mX,vg h ht.1 (tP.step aX aP) ⟨cH,dX,rfl,aT.step aP,bD⟩ ((o.next az).next aP)⟩))) hc
end
end
section
section
variable {P:Prog} {d:Nat} {fr:Fr} {σ ae av bh ab:St} {af:Program} {w:World}
theorem machine{f:Value}(hf:∀a,f≠.ref a):∀h,True->∃k,(k=Keeper.frame\/k=Keeper.machine\/k=Keeper.boundFrame)/\Looks (model af w) h (keeperOf f) k:=fun h y_=>
 ⟨.machine,.inr (.inl rfl),Looks.of_pure (by cases f<;>first|rfl|exact absurd rfl (hf _))⟩
theorem zx(b:B1):(vS b∈lB)/\bootBuiltins (vS b)=some b.fn:=by cases b<;>exact⟨by decide,by kernel_rfl⟩
theorem Hn(b:B1):∀a,b.fn≠.ref a:=by intro a;cases b<;>intro h<;>cases h
theorem Ev.rep{x n:X}{vx:V}{k:Int}(hx:Ev P d x fr σ vx ae)(hn:Ev P d n fr ae (.int k) av)(hk:0<=k/\k<=1000):Ev P d (.rep x n) fr σ (.loc av.length) (av++[O.list (List.replicate k.toNat vx)]):=fun Γ cx env e hc=>
 pS.ind (fun l op r p hc=>by
  obtain rfl:=eq_of_beq (aL hc)
  refine kN.ind (M:=fun l=>Goal Γ d cx env fr σ (.loc av.length) (av++[O.list (List.replicate k.toNat vx)]) (.BinOp l .Mult r p)) (fun l q hc=>one.ind (M:=fun l=>Goal Γ d cx env fr σ (.loc av.length) (av++[O.list (List.replicate k.toNat vx)]) (.BinOp (.List l q) .Mult r p))
   (fun nr hc=>.gen rfl fun A s π ρ Q a o=>?_) hc) (aR hc)
  refine wpAny_BinOp (List_ (fM (eA (aL hc))▸spliced_cons ((hx Γ cx env nr (aL (aR hc))).val _ _ _ _ _ a fun cH aE ay aI aT aF az=>spliced_nil (lG ?_ ((le_add_left _ _))))));haveI up:∀b o,ay.get? b=some o->(ay.push {cls:=.type "list",data:=.seq [cH].toArray}).get? b=some o:=fun y_ y_ e=>Heap.get?_push_of_some _ e;refine(hn Γ cx env r (aR (aR hc))).val _ _ _ _ _ (a.step (aF.up up) (az.trans (.up up))) fun eE bp aY bg bD aX aP=>?_;obtain⟨t,rfl⟩:=bD;haveI kl:=aP.keep _ _ (Heap.get?_push_size _ rfl) (fun m=>(cM (s:={s with heap:=ay,toks:=aI}) (S:=aF)) (.inr m)) fun x=>x;refine rK kl hk.1 hk.2 ?_;haveI si:∀b o,aY.get? b=some o->(aY.push {cls:=.type "list",data:=.seq (List.replicate k.toNat cH).toArray}).get? b=some o:=fun y_ y_ e=>Heap.get?_push_of_some _ e;haveI hp:¬π aY.objs.size:=fun z=>cM (s:={s with heap:=aY,toks:=bg}) (S:=aX) (.inl z)
  refine o _ (bp++[some (aY.objs.size,aY.objs.size)]) _ bg ⟨_,rfl,by simp[aX.len],fun p ep=>?_⟩
   (aX.add (cm _) hp si (by intro z;cases z) ⟨rfl,List.replicate k.toNat cH,0,Heap.get?_push_size _ rfl,bj.mono (.add _ (cm _) si) _ _ (lq ((aT.mono (.up up) _ _).step aP) k.toNat)⟩)
   (az.trans ((aK.up up).trans (aP.trans (.add _ (cm _) si))))
  rw[getElem?_append_right (Rw aX.len (le_refl _)),aX.len,sub_self]at ep
  cases ep;rfl) hc
theorem Ev.b1{b:B1}{x:X}{vx v:V}(hx:Ev P d x fr σ vx ae)(h:gU b ae vx=some v):Ev P d (.b1 b x) fr σ v ae:=fun Γ cx env e hc=>gu.ind (fun g l p hc=>one.ind (M:=fun l=>Goal Γ d cx env fr σ v ae (.Call g l [] p)) (fun e hc=>
  eB (M:=fun g=>Goal Γ d cx env fr σ v ae (.Call g [e] [] p)) (fun hg q=>.gen rfl fun A s π ρ Q a o=>by
   refine wpAny_Call_NameR (gO Γ.Y.gy a.D a.es (zx b).1 (zx b).2 hg (args_call (gN (hx Γ cx env e (aR (aR hc))).val) (eA (aL (aR hc))) a (machine (Hn b)) fun dX aA h' tk' aT S g=>⟨trivial,?_⟩));obtain⟨v',t,rfl,aT,rt⟩:=aT;obtain rfl:t=[]:=rt
   exact dG (Gr a.rm.room S aT h) S (o.next g)) (aL hc)) hc) hc
theorem Ev.max2{x y:X}{i j:Int}(hx:Ev P d x fr σ (.int i) ae)(hy:Ev P d y fr ae (.int j) av):Ev P d (.max2 x y) fr σ (.int (if i<j then j else i)) av:=fun Γ cx env e hc=>
 gu.ind (fun g l p hc=>two.ind (M:=fun l=>Goal Γ d cx env fr σ (.int (if i<j then j else i)) av (.Call g l [] p)) (fun e e' hc=>
  eB (M:=fun g=>Goal Γ d cx env fr σ (.int (if i<j then j else i)) av (.Call g [e,e'] [] p)) (fun hg q=>.gen rfl fun A s π ρ Q a o=>by
   refine wpAny_Call_NameR (gO (v:=.builtin "max") Γ.Y.gy a.D a.es (by decide) (by kernel_rfl) hg ?_);replace hc:=aR hc;haveI h1:=aL hc;replace hc:=aR hc;refine args_call (oU (hx Γ cx env e (aL (aR hc))).val (hy Γ cx env e' (aR (aR hc))).val) (lz h1 (aL hc)) a (machine (by intro a h;cases h)) fun dX aA h' tk' aT S g=>⟨trivial,?_⟩;obtain⟨v',t,rfl,aT,eE,BO,rfl,bD,rt⟩:=aT;obtain rfl:BO=[]:=rt
   exact dG (Hy a.rm.room aT bD) S (o.next g)) (aL hc)) hc) hc
theorem Ev.app{x y:X}{n:Nat}{zr l:List V}{vy:V}(hx:Ev P d x fr σ (.loc n) ae)(z5:ae[n]?=some (.list zr))(hy:Ev P d y fr ae vy av)(hl:av[n]?=some (.list l))(hz:l.length<lim):Ev P d (.app x y) fr σ .none (av.set n (.list (l++[vy]))):=fun Γ cx env e hc=>
 nF.ind (fun ob nm ap es p hc=>by
  obtain rfl:=eq_of_beq (aL hc);replace hc:=aR hc;refine one.ind (M:=fun es=>Goal Γ d cx env fr σ .none (av.set n (O.list (l++[vy]))) (.Call (.Attribute ob _ ap) es [] p)) (fun nr hd=>.gen rfl fun A s π ρ Q a o=>?_) (aR hc);refine wpAny_Call_method (ic (aL (aL hc))) (fP (eA (aL hd)) ((le_add_left _ _))) (aR (aL hc)) F.plainAttrs_list F.slot_list_append type_list_append ((hx Γ cx env ob (aL (aR hd))).val _ _ _ _ _ a fun cH aE ay aI aT aF az=>?_);obtain⟨q,Lo,N7,rV,rQ,_⟩:=sig_list (s:={s with heap:=ay,toks:=aI}) aF z5;obtain rfl:=cD aT rV;refine⟨rQ.isList.typeIs,fun b e=>⟨_,by cases e;exact rQ,rfl⟩,?_⟩;refine args_call (first:=[.ref q]) (gN (hy Γ cx env nr (aR (aR hd))).val) (eA (aL hd)) (a.step aF az) (machine (by intro a h;cases h)) fun dX bp aY bg bD aX aP=>⟨trivial,?_⟩;obtain⟨eE,t,rfl,bD,rt⟩:=bD;obtain rfl:t=[]:=rt;obtain⟨p',items,k,ep,AQ,ho,hq⟩:=Ab (s:={s with heap:=aY,toks:=bg}) aX (aT.step aP) bD hl hz fun dv bA dD dA dz=>o .none dv bA dD rfl dA (az.trans (aP.trans dz));cases ep
  exact call_meets F.slot_list_append ho.isList.typeIs entry_list_append (args_list_append _ _) (AutoListH.list_append_list_val_0 q items k eE AQ) ⟨ho,hq⟩) hc
theorem Ev.pop{x:X}{n:Nat}{l:List V}{v:V}(hx:Ev P d x fr σ (.loc n) ae)(hl:ae[n]?=some (.list l))(hv:l.getLast?=some v)(hz:l.length<=lim):Ev P d (.pop x) fr σ v (ae.set n (.list l.dropLast)):=fun Γ cx env e hc=>
 nF.ind (fun ob nm ap es p hc=>by
  obtain rfl:=eq_of_beq (aL hc);replace hc:=aR hc;refine bT.ind (M:=fun es=>Goal Γ d cx env fr σ v (ae.set n (O.list l.dropLast)) (.Call (.Attribute ob _ ap) es [] p)) (.gen rfl fun A s π ρ Q a o=>?_) (aL (aR hc));refine wpAny_Call_method (id:="list.pop") (ic (aL (aL hc))) (fP (fun y_ h=>nomatch h) ((zero_le _))) (aR (aL hc)) F.plainAttrs_list F.slot_list_pop F.type_list_pop ((hx Γ cx env ob (aR (aR hc))).val _ _ _ _ _ a fun cH aE ay aI aT aF az=>?_);obtain⟨q,Lo,N7,rV,rQ,_⟩:=sig_list (s:={s with heap:=ay,toks:=aI}) aF hl;obtain⟨p',ep,hw⟩:=H3 (af:=Γ.af) (w:=Γ.w) (A:=A) (s:={s with heap:=ay,toks:=aI}) (pos:=p) aF aT hl hv hz fun v' bp aY bg bD aX aP=>o v' bp aY bg bD aX (az.trans aP);obtain rfl:=cD aT rV;cases ep
  exact⟨rQ.isList.typeIs,fun b e=>⟨_,by cases e;exact rQ,rfl⟩,hw⟩) hc
theorem Ev.sQ{x y z:X}{n:Nat}{i:Int}{vz:V}(hx:Ev P d x fr σ (.loc n) ae)(z5:ae[n]?=some (.dict []))(hy:Ev P d y fr ae (.int i) av)(hz:Ev P d z fr av vz bh)(hl:bh[n]?=some (.dict [])):Ev P d (.sQ x y z) fr σ vz bh:=fun Γ cx env e hc=>
 nF.ind (fun ob nm ap es p hc=>by
  obtain rfl:=eq_of_beq (aL hc);replace hc:=aR hc;refine two.ind (M:=fun es=>Goal Γ d cx env fr σ vz bh (.Call (.Attribute ob _ ap) es [] p)) (fun nr qJ hd=>.gen rfl fun A s π ρ Q a o=>?_) (aR hc);haveI EI:=lz (aL hd) (aL (aR hd));replace hd:=aR (aR hd);refine wpAny_Call_method (ic (aL (aL hc))) (fP EI ((le_add_left _ _))) (aR (aL hc)) F.plainAttrs_dict F.slot_dict_get F.type_dict_get ((hx Γ cx env ob (aL hd)).val _ _ _ _ _ a fun cH aE ay aI aT aF az=>(cps fun G kG=>?_));obtain⟨⟨q,q'⟩,rV,IX,Fe,BA,_⟩:=aF.objs n _ z5 (by intro z;cases z);refine kG ?_;simp only at IX Fe BA;subst IX;obtain rfl:=cD aT rV;refine⟨⟨_,(BA trivial),rfl⟩,fun b e=>⟨_,by cases e;exact(BA trivial),rfl⟩,?_⟩;refine Rw (fM EI) (wpAny_dict_get2 (knd:=intKind Γ.af Γ.w) (by simpa using Fe) ((hy Γ cx env nr (aL (aR hd))).val _ _ _ _ _ (a.step aF az) fun eE bp aY bg bD aX aP=>((hz Γ cx env qJ (aR (aR hd))).val _ _ _ _ _ ((a.step aF az).step aX aP) fun m5 dv bA dD iO dA dz=>(cps fun G kG=>?_))));obtain⟨t,rfl⟩:=bD;obtain⟨⟨abt,ZW⟩,MN,Kl,_,Fh,_⟩:=dA.objs n _ hl (by intro z;cases z);refine kG ?_;simp only at Kl Fh;subst Kl;cases cD ((aT.step aP).step dz) MN;refine⟨i,fun y_=>none,by simp[intKind,Value.isInt],⟨_,_,_,Fh trivial,⟨rfl,rfl,rfl⟩,rfl,fun e he=>by simp at he,fun k=>rfl⟩,?_⟩
  exact o m5 dv bA _ iO dA (az.trans (aP.trans dz))) hc
theorem Ev.lower{x:X}{c:Nat}(hx:Ev P d x fr σ (.str [c]) ae)(cR:c<128):Ev P d (.lower x) fr σ (.str [lowers c]) ae:=fun Γ cx env e hc=>
 nF.ind (fun ob nm ap es p hc=>by
  obtain rfl:=eq_of_beq (aL hc);replace hc:=aR hc;refine bT.ind (M:=fun es=>Goal Γ d cx env fr σ (.str [lowers c]) ae (.Call (.Attribute ob _ ap) es [] p)) (.gen rfl fun A s π ρ Q a o=>?_) (aL (aR hc));refine wpAny_Call_method (ic (aL (aL hc))) (fP (fun y_ h=>nomatch h) ((zero_le _))) (aR (aL hc)) F.plainAttrs_str F.slot_str_lower F.type_str_lower ((hx Γ cx env ob (aR (aR hc))).val _ _ _ _ _ a fun cH aE ay aI aT aF az=>?_);obtain⟨t,rfl⟩:=aT;refine⟨typeIs_str _ _ _,fun b e=>(by cases e),?_⟩;refine args_call ⟨rfl,fun y_=>rfl,pQ⟩ (fun y_ h=>nomatch h) (a.step aF az) (machine (by intro a h;cases h)) fun dX bp aY bg bD aX aP=>⟨trivial,?_⟩;obtain rfl:dX=[]:=bD;haveI hA:∀c'∈(⟨[c].toArray⟩:Str).cps.toList,c'<128:=fun c' h=>by simp at h;obtain rfl:=Eq.symm h;exact cR
  haveI hl:Txt.lower ⟨[c].toArray⟩=⟨[lowers c].toArray⟩:=by refine Rw (lower_ascii hA) (?_);simp[lo1,lowers]
  refine SC.lower ?_ ?_
  ·exact Rw hl rfl
  ·exact Rw hl (o _ bp aY _ ⟨_,rfl⟩ aX (az.trans aP))) hc
theorem zL:∀{l:List V} {s:List Nat} {vs:List Value} {π:Addr->Prop} {ρ:bZ} {h:Heap} {T:Tab},gG l=some s->bj T π ρ h l vs->∃ys:List Str,StrsAre vs ys/\Str.join ⟨#[]⟩ ys=⟨s.toArray⟩/\(ys.map (·.length)).sum=s.length
 |[]=>by intro e r;obtain rfl:=oj e;cases r;exact⟨[],.nil,rfl,rfl⟩
 |x::l=>by
  intro e hh;obtain⟨v,t,ev,rv,rt⟩:=hh
  cases x with
  |str x=>
   obtain⟨s',e',rfl⟩:=Option.map_eq_some_iff.mp (e);obtain⟨tk,rfl⟩:=rv;obtain⟨ys,a,b,c⟩:=zL e' rt;subst ev;refine⟨⟨x.toArray⟩::ys,.cons _ _ a,?_,?_⟩
   ·cases ys with
    |nil=>obtain rfl:s'=[]:=length_eq_zero_iff.mp c.symm;simp[Str.join]
    |cons y ys=>show(⟨x.toArray⟩:Str)++⟨#[]⟩++Str.join ⟨#[]⟩ (y::ys)=_;refine Rw b (?_);show(⟨(x.toArray++#[])++s'.toArray⟩:Str)=_;simp
   ·simp only[map_cons,List.sum_cons,c,length_append];rfl
  |_=>exact nn e
theorem DM{vs:List Value}{ys:List Str}(h:StrsAre vs ys):ys.length=vs.length:=by
 induction h with
 |nil=>rfl
 |cons _ _ _ ih=>exact congrArg (· +1) ih
theorem Ev.join{x:X}{l:List V}{str:List Nat}(hx:Ev P d x fr σ (.lst l) ae)(ej:gG l=some str)(hz:l.length<=lim/\str.length<=lim):Ev P d (.join x) fr σ (.str str) ae:=fun Γ cx env e hc=>
 nF.ind (fun ob nm ap es p hc=>by
  obtain rfl:=eq_of_beq (aL hc);replace hc:=aR hc;haveI Hv:=aL hc;replace hc:=aR hc;refine one.ind (M:=fun es=>Goal Γ d cx env fr σ (.str str) ae (.Call (.Attribute ob _ ap) es [] p)) (fun nr hd=>?_) (aR hc);refine jk.ind (M:=fun ob=>kU ob ap p=true->Goal Γ d cx env fr σ (.str str) ae (.Call (.Attribute ob _ ap) [nr] [] p)) (fun c n q hs=>vp.ind (M:=fun c=>kU (.Constant c n q) ap p=true->Goal Γ d cx env fr σ (.str str) ae (.Call (.Attribute (.Constant c n q) _ ap) [nr] [] p)) (fun x hs Hv=>?_) hs) (aL hc) Hv;obtain rfl:=eq_of_beq hs;refine .gen rfl fun A s π ρ Q a o=>(wpAny_Call_method (ic (aL Hv)) (fP (eA (aL hd)) ((le_add_left _ _))) (aR Hv) F.plainAttrs_str F.slot_str_join F.type_str_join (Constant_str ⟨typeIs_str _ _ _,fun b e=>(by cases e),?_⟩));refine args_call (gN (hx Γ cx env nr (aR hd)).val) (eA (aL hd)) a.tok (machine (by intro a h;cases h)) fun dX bp aY bg bD aX aP=>⟨trivial,?_⟩;refine cps fun G kG=>?_;obtain⟨eE,t,rfl,⟨q,vs,n,rfl,_,ho,rr⟩,rt⟩:=bD;obtain rfl:t=[]:=rt;obtain⟨ys,hs,hj,hl⟩:=zL ej rr;refine kG ?_;haveI hly:ys.length<=lim:=by rw[DM hs,aQ rr];exact hz.1
  refine join_list ho.isList (hs) ?_ fun t' k=>?_
  ·haveI:=hz.2;unfold lim at this hly;exact Rw hl (Ot this)
  ·exact Rw (eq_of_beq (join_plain_closes _ _)) (Rw hj (o _ bp aY _ ⟨_,rfl⟩ aX aP))) hc
end
end
theorem Ev.new{P:Prog}{d:Nat}{fr:Fr}{σ ae av:St}{c:Nat}{xs:Xs}{vs:List V}(hx:qW P d xs fr σ vs ae)(h:Run P d (P.init c) (.loc ae.length::vs) (ae++[.inst c []]) .none av):Ev P d (.new c xs) fr σ (.loc ae.length) av:=fun Γ cx env e hc=>
 gu.ind (fun g l p hc=>eB (M:=fun g=>Goal Γ d cx env fr σ (.loc ae.length) av (.Call g l [] p)) (fun hg q=>.gen rfl fun A s π ρ Q a o=>by
  have h0:c<Γ.T.nc:=bl (aL hc);haveI oo:=Γ.Y.gy.XT c h0;haveI en:=oo.1;have C:=Γ.Y.gy.cls c h0;refine wpAny_Call_NameR (mS Γ.Y.gy a.D a.es en hg (args_call (hx Γ cx env l (aR (aR hc))) (dF (aR (aR hc))) a (keeps_K oo.2) fun dX aE ay aI aT aF az=>⟨(a.step aF az).mX,?_⟩));haveI tP:=a.step (tk':=aI) aF az;haveI FU:Γ.K.In ay:=tP.mX;refine wpAny_call (make_core (makes_of FU C.ZF) (looks_findIn FU C.init.1) (fun self=>bind_fn FU self (beq_iff_eq.mp C.init.2)) (.inl rfl) ?_);have up:∀b o,ay.get? b=some o->((ay.push emptyDict).push (instObj (Γ.T.cls c) ay.objs.size)).get? b=some o:=fun b o e=>Heap.get?_push_of_some _ (Heap.get?_push_of_some _ e);haveI sz:(ay.push emptyDict).objs.size=ay.objs.size+1:=Heap.size_push ..;haveI hx:((ay.push emptyDict).push (instObj (Γ.T.cls c) ay.objs.size)).get? (ay.objs.size+1)=some (instObj (Γ.T.cls c) ay.objs.size):=Lw sz (Heap.get?_push_size _ rfl);haveI hd:((ay.push emptyDict).push (instObj (Γ.T.cls c) ay.objs.size)).get? ay.objs.size=some (dictOf [] 0):=Heap.get?_push_of_some _ (Heap.get?_push_size _ rfl);haveI n0:=cm ay;haveI n1:ay.get? (ay.objs.size+1)=none:=Heap.get?_none_of_le (le_succ _);have PA:∀b,ay.get? b=none->¬π b:=fun b e z=>by refine(aF.there b z).elim fun ob q=>?_;rw[e]at q;exact nn q
  haveI hmu:∀b,ay.get? b=none->¬ff aE b:=fun b e z=>by refine(aF.mut z).elim fun ob q=>?_;rw[e]at q;exact nn q
  haveI hfree:¬(π (ay.objs.size+1)\/ff (aE++[some (ay.objs.size+1,ay.objs.size)]) (ay.objs.size+1)):=fun z=>z.elim (PA _ n1) fun hV=>by
   obtain⟨n,q,en,eq⟩:=hV;by_cases l:n<aE.length
   ·rw[getElem?_append_left l]at en;exact hmu _ n1 ⟨n,q,en,eq⟩
   ·rw[getElem?_append_right (le_of_not_lt l)]at en;haveI:=List.mem_of_getElem? en;simp only[mem_singleton,Option.some.injEq]at this;subst this;exact absurd eq (ne_of_lt (lt_succ_self _))
  haveI aX:aZ Γ.T π (aE++[some (ay.objs.size+1,ay.objs.size)]) ((ay.push emptyDict).push (instObj (Γ.T.cls c) ay.objs.size)) (ae++[.inst c []]):=aF.add n0 (PA _ n0) up (by intro z;cases z) ⟨hfree,hx,[],0,hd,⟨h0,(by decide),by simp,(zero_le _)⟩,rfl⟩;haveI aP:aK bG aE ay (aE++[some (ay.objs.size+1,ay.objs.size)]) ((ay.push emptyDict).push (instObj (Γ.T.cls c) ay.objs.size)):=.add _ n0 up
  have rl:∀{aA h'},aK bG (aE++[some (ay.objs.size+1,ay.objs.size)]) ((ay.push emptyDict).push (instObj (Γ.T.cls c) ay.objs.size)) aA h'->Rel Γ.T π aA h' (.loc ae.length) (.ref (ay.objs.size+1)):=fun{aA h'} g=>by
   have len:ae.length<(aE++[some (ay.objs.size+1,ay.objs.size)]).length:=by simp[aF.len]
   refine⟨_,rfl,lt_of_lt_of_le len g.len,fun q eq=>?_⟩;have:=g.old _ _ len eq;rw[getElem?_append_right (Rw aF.len (le_refl _)),aF.len,sub_self]at this;cases this;rfl
  refine h Γ (Γ.Y.HU c h0) _ ⟨_,_,_,_,_⟩ π _ _ _ a.rm.under (tP.D.grow aX aP (fun y_ x=>x.elim)) ⟨_,_,rfl,rl (aK.refl _ _ _),aT.step aP⟩ fun v' dv bA dD iO dA dz=>?_;obtain rfl:v'=.none:=iO
  exact⟨rfl,o _ dv bA dD (rl dz) dA (az.trans (aP.trans dz))⟩) (aL (aR hc))) hc
section
noncomputable def It.nx:It->St->Nat->Option (Option V)
 |.vals l,_,i=>some l[i]?
 |.live n,σ,i=>match σ[n]? with
  |some (.list l)=>some l[i]?
  |_=>none
section
variable (T:Tab) (af:Program) (w:World)
structure Walk(A:Around)(target:Expr)(ω:Addr->Prop)(I:Addr)(it:It)(W:(Addr->Prop)->Nat->bZ->Heap->Prop):Prop where
 frame:∀π de i ρ aA h h',W π i ρ h->Keeps π de ρ aA h h'->(∀a o,ω a->h.get? a=some o->h'.get? a=some o)->W de i aA h'
 item:∀π i (s:Shared) ρ σ v (Q:Value->Shared->Prop),(∀a,ω a->π a)->W π i ρ s.heap->aZ T π ρ s.heap σ->it.nx σ i=some (some v)->(∀v' h' tk',Rel T π ρ h' v v'->W π (i+1) ρ h'->aZ T π ρ h' σ->aK ω ρ s.heap ρ h'->Q v' {s with heap:=h',toks:=tk'})->wpAny (model af w) A (pyNext (.ref I)) (fun r dT=>∃v',r=some v'/\wpAny (model af w) A (letOwnedTupleGo target (.ref I) v') (fun y_=>Q v') aU dT) aU s
 self:∀π i (s:Shared) ρ (Q:Value->Shared->Prop),W π i ρ s.heap->Q (.ref I) s->wpAny (model af w) A (pyIter (.ref I)) Q aU s
 done:∀π i (s:Shared) ρ σ (Q:Option Value->Shared->Prop),W π i ρ s.heap->aZ T π ρ s.heap σ->it.nx σ i=some none->(∀h' tk',(∀b o,¬ω b->s.heap.get? b=some o->h'.get? b=some o)->Q none {s with heap:=h',toks:=tk'})->wpAny (model af w) A (pyNext (.ref I)) Q aU s
def u6(A:Around)(target:Expr)(π:Addr->Prop)(ρ:bZ)(s:Shared)(it:It)(ab:St)(Q:Value->Shared->Prop):Prop:=∀I ω W aA h' tk',Walk T af w A target ω I it W->W (fun a=>π a\/ω a) 0 aA h'->aZ T (fun a=>π a\/ω a) aA h' ab->aK bG ρ s.heap aA h'->(∀a,ω a->s.heap.get? a=none)->Q (.ref I) {s with heap:=h',toks:=tk'}
end
section
variable {T:Tab} {af:Program} {w:World} {A:Around} {target:Expr} {π:Addr->Prop} {ρ:bZ} {s:Shared} {σ:St}
theorem gL{I:Addr}{h h':Heap}(S:aZ T π ρ h σ)(pI:π I)(hs:Heap.SameBut I h h'){o:Obj}(ho:h'.get? I=some o):aZ T π ρ h' σ/\Keeps π π ρ ρ h h'/\aK (fun a=>a=I) ρ h ρ h':=let q:=ku S pI hs ho
 ⟨q.1,q.2,je rfl hs ho⟩
set_option backward.match.sparseCases true in
theorem gQ{it v:Value}{Q:Unit->Shared->Prop}(h:Q () s)
  (hn:∀r,it=.ref r->gW fun o c=>eF (s.heap.get? r=some o) (o.cls=.type c) (["enumerate","zip","dict_itemiterator","dict_reverseitemiterator","odict_iterator","itertools.zip_longest","itertools.pairwise"].contains c=false)):wpAny (model af w) A (letOwnedTupleGo target it v) Q aU s:=by
 have go:∀r a,it=.ref r->wpAny (model af w) A (do
   let o <-load r
   match o.cls,o.data with
   |.type n,.fields vs=>
    if["enumerate","zip","dict_itemiterator","dict_reverseitemiterator","odict_iterator","itertools.zip_longest","itertools.pairwise"].contains n&&vs[0]?==some (rawInt a)then
     rule "for.unpacks-the-owned-tuple"
     updateField r 0 .none
   |_,_=>pure ()) Q aU s:=fun r a e=>by
  refine cps fun G kG=>?_;obtain⟨⟨cls,di,da,sl⟩,c,ho,hc,hz⟩:=hn r e;refine kG (wpAny_bind (wpAny_load ho ?_));obtain rfl:cls=_:=hc
  cases da with
  |fields vs=>show wpAny _ _ (if(["enumerate","zip","dict_itemiterator","dict_reverseitemiterator","odict_iterator","itertools.zip_longest","itertools.pairwise"].contains c&&vs[0]?==some (rawInt a))=true then _ else _) _ _ _;exact Rw (if_neg (by exact Rw hz bf)) (wpAny_pure h)
  |_=>exact wpAny_pure h
 cases target with
 |Tuple=>cases it with
  |ref r=>cases v with
   |ref a=>exact go r a rfl
   |_=>exact wpAny_pure h
  |_=>exact wpAny_pure h
 |List=>cases it with
  |ref r=>cases v with
   |ref a=>exact go r a rfl
   |_=>exact wpAny_pure h
  |_=>exact wpAny_pure h
 |_=>exact wpAny_pure h
theorem gJ(S:aZ T π ρ s.heap σ)(o:Obj)(hf:o.isFreed=false):aZ T (fun a=>π a\/a=s.heap.objs.size) ρ (s.heap.push o) σ/\Keeps π (fun a=>π a\/a=s.heap.objs.size) ρ ρ s.heap (s.heap.push o)/\aK bG ρ s.heap ρ (s.heap.push o)/\(∀a,a=s.heap.objs.size->s.heap.get? a=none):=by
 haveI up:∀b ob,s.heap.get? b=some ob->(s.heap.push o).get? b=some ob:=fun b ob e=>Heap.get?_push_of_some _ e;haveI k:Keeps π (fun a=>π a\/a=s.heap.objs.size) ρ ρ s.heap (s.heap.push o):=.more (fun a z=>z.imp id fun(e:a=s.heap.objs.size)=>Rw e (cm _)) up;refine⟨S.keeps k (fun a ob y_ e=>up a ob e) (fun a z m=>?_) (fun a z=>?_),k,.up up,fun a e=>Rw e (cm _)⟩
 ·rcases z with z|rfl
  ·exact S.a8 a z m
  ·refine(S.mut m).elim fun ob q=>?_;rw[cm]at q;exact nn q
 ·rcases z with z|rfl
  ·exact(S.there a z).elim fun ob e=>⟨ob,up a ob e⟩
  ·exact⟨o,Heap.get?_push_size _ hf⟩
theorem AR(hh:A.handled=none){I:Addr}{l:List V}{a:Addr}{vs:List Value}{n:Nat}:Walk T af w A target (fun b=>b=I) I (.vals l) (fun π i ρ h=>h.IsListIter I a i/\IsL h a (List.toArray vs) n/\¬(π a\/ff ρ a)/\bj T π ρ h l vs) where
 frame:=fun π de i ρ aA h h' gk k ko=>by haveI a1:=gk.1;haveI a2:=gk.2.1;haveI a3:=gk.2.2.1;haveI a4:=gk.2.2.2;exact⟨a1.at fun o e=>ko _ o rfl e,k.keep _ _ a2 a3,k.fixed _ _ a2 a3,a4.mono k _ _⟩
 self:=fun π i s ρ Q x q=>wpAny_pyIter_listiter x.1 q
 item:=fun π i s ρ σ v Q hw ⟨a1,a2,a3,a4⟩ S e hQ=>by
  obtain⟨v',hv,rv⟩:=ez a4 (oj e);refine wpAny_pyNext_list_item a1 a2.isList (ew hv) fun h' hit hs=>⟨v',rfl,gQ ?_ fun r e=>?_⟩
  ·obtain⟨o,ho,_⟩:=id hit;haveI oo:=gL S (hw _ rfl) hs ho;haveI k:=oo.2.1;exact hQ v' h' s.toks (rv.mono k _ _) ⟨hit,k.keep _ _ a2 a3,k.fixed _ _ a2 a3,a4.mono k _ _⟩ oo.1 oo.2.2
  ·cases e;obtain⟨o,ho,hc,_⟩:=hit;exact⟨o,_,ho,hc,by decide⟩
 done:=fun π i s ρ σ Q ⟨a1,a2,a3,a4⟩ S e hQ=>by
  haveI hn:vs[i]?=none:=by rw[List.getElem?_eq_none_iff,aQ a4];exact(List.getElem?_eq_none_iff.mp (oj e))
  exact wpAny_pyNext_list_end hh a1 a2.isList (by simpa using hn) fun h' he=>hQ h' s.toks fun b o hb e=>he b o hb e
theorem xE(hh:A.handled=none){I:Addr}{l:List V}{a:Addr}{vs:List Value}{n:Nat}:Walk T af w A target (fun b=>b=I) I (.vals l) (fun π i ρ h=>h.IsTupleIter I a i/\IsT h a (List.toArray vs) n/\¬(π a\/ff ρ a)/\bj T π ρ h l vs) where
 frame:=fun π de i ρ aA h h' gk k ko=>by obtain⟨o,ho,r⟩:=gk.1;haveI a2:=gk.2.1;haveI a3:=gk.2.2.1;haveI a4:=gk.2.2.2;exact⟨⟨o,ko _ o rfl ho,r⟩,k.keep _ _ a2 a3,k.fixed _ _ a2 a3,a4.mono k _ _⟩
 self:=fun π i s ρ Q x q=>wpAny_pyIter_tupleiter x.1 q
 item:=fun π i s ρ σ v Q hw ⟨a1,a2,a3,a4⟩ S e hQ=>by
  obtain⟨v',hv,rv⟩:=ez a4 (oj e);refine wpAny_pyNext_tuple_item a1 (isTup a2) (ew hv) fun h' hit hs=>⟨v',rfl,gQ ?_ fun r e=>?_⟩
  ·obtain⟨o,ho,_⟩:=id hit;haveI oo:=gL S (hw _ rfl) hs ho;haveI k:=oo.2.1;exact hQ v' h' s.toks (rv.mono k _ _) ⟨hit,k.keep _ _ a2 a3,k.fixed _ _ a2 a3,a4.mono k _ _⟩ oo.1 oo.2.2
  ·cases e;obtain⟨o,ho,hc,_⟩:=hit;exact⟨o,_,ho,hc,by decide⟩
 done:=fun π i s ρ σ Q ⟨a1,a2,a3,a4⟩ S e hQ=>by
  haveI hn:vs[i]?=none:=by rw[List.getElem?_eq_none_iff,aQ a4];exact(List.getElem?_eq_none_iff.mp (oj e))
  exact wpAny_pyNext_tuple_end hh a1 (isTup a2) (by simpa using hn) fun h' he=>hQ h' s.toks fun b o hb e=>he b o hb e
theorem BC(hh:A.handled=none){I:Addr}{n:Nat}{a:Addr}{Kg:Nat}(hN:n<Kg):Walk T af w A target (fun b=>b=I) I (.live n) (fun π i ρ h=>h.IsListIter I a i/\Kg<=ρ.length/\∀p,ρ[n]?=some (some p)->a=p.1) where
 frame:=fun π de i ρ aA h h' gk k ko=>⟨gk.1.at fun o e=>ko _ o rfl e,le_trans gk.2.1 k.len,fun p e=>gk.2.2 p (k.old n p (lt_of_lt_of_le hN gk.2.1) e)⟩
 self:=fun π i s ρ Q x q=>wpAny_pyIter_listiter x.1 q
 item:=fun π i s ρ σ v Q hw hp S e hQ=>by
  refine cps fun G kG=>?_;obtain⟨l,hl,e'⟩:=listAt e;obtain⟨q,vs,m,ep,ho,rr⟩:=sig_list S hl;obtain rfl:=hp.2.2 _ ep;obtain⟨v',hv,rv⟩:=ez rr (oj e');refine kG (wpAny_pyNext_list_item hp.1 ho.isList (ew hv) fun h' hit hs=>⟨v',rfl,gQ ?_ fun r e=>?_⟩)
  ·obtain⟨o,ho,_⟩:=id hit;haveI oo:=gL S (hw _ rfl) hs ho;exact hQ v' h' s.toks (rv.mono oo.2.1 _ _) ⟨hit,hp.2.1,hp.2.2⟩ oo.1 oo.2.2
  ·cases e;obtain⟨o,ho,hc,_⟩:=hit;exact⟨o,_,ho,hc,by decide⟩
 done:=fun π i s ρ σ Q hp S e hQ=>by
  refine cps fun G kG=>?_;obtain⟨l,hl,e'⟩:=listAt e;obtain⟨q,vs,m,ep,ho,rr⟩:=sig_list S hl;obtain rfl:=hp.2.2 _ ep;refine kG ?_
  haveI hn:vs[i]?=none:=by rw[List.getElem?_eq_none_iff,aQ rr];exact(List.getElem?_eq_none_iff.mp (oj e'))
  exact wpAny_pyNext_list_end hh hp.1 ho.isList (by simpa using hn) fun h' he=>hQ h' s.toks fun b o hb e=>he b o hb e
theorem Cr:∀{n i:Nat} {a:Int},i<n->(up a n)[i]?=some (.int (a+i))
 |0,_=>@fun h=>absurd h (not_lt_zero _)
 |n+1,0=>by intro _;simp[FE]
 |n+1,i+1=>by intro h;simp only[FE,getElem?_cons_succ,Cr (lt_of_succ_lt_succ h)];congr 2;push_cast;exact Va
theorem BX:∀{n i:Nat} {a:Int},n<=i->(up a n)[i]?=none
 |0,_=>@fun _=>rfl
 |n+1,0=>@fun h=>absurd h Sf
 |n+1,i+1=>by intro h;simp only[FE];exact BX (le_of_succ_le_succ h)
theorem u0:∀{n i:Nat} {a:Int},i<n->(down a n)[i]?=some (.int (a-i))
 |0,_,_,h=>absurd h (not_lt_zero _)
 |n+1,0,a,_=>by simp[we]
 |n+1,i+1,a,h=>by simp only[we,getElem?_cons_succ,u0 (lt_of_succ_lt_succ h)];congr 2;push_cast;exact Qp
theorem uJ:∀{n i:Nat} {a:Int},n<=i->(down a n)[i]?=none
 |0,_,_,_=>rfl
 |n+1,0,a,h=>absurd h Sf
 |n+1,i+1,a,h=>by simp only[we];exact uJ (le_of_succ_le_succ h)
theorem xN(hh:A.handled=none){I:Addr}{l:List V}{a c:Int}{n:Nat}(hi:∀i,i<n->l[i]?=some (.int (a+i*c)))(he:∀i,n<=i->l[i]?=none):Walk T af w A target (fun b=>b=I) I (.vals l) (fun π i ρ h=>i<=n/\IsRangeIter h I (a+(i:Nat)*c) ((n:Int)-(i:Nat)) c) where
 frame:=fun π de i ρ aA h h' gk k ko=>⟨gk.1,ko _ _ rfl gk.2⟩
 self:=fun π i s ρ Q x q=>wpAny_pyIter_rangeiter x.2 q
 item:=fun π i s ρ σ v Q hw hp8 S e hQ=>by
  have cR:i<n:=by
   by_cases q:i<n
   ·exact q
   ·haveI e':some l[i]?=some (some v):=e;replace e':=(he i (le_of_not_lt q))▸e';cases e'
  haveI e':some l[i]?=some (some v):=e;replace e':=(hi i cR)▸e';cases e';refine wpAny_pyNext_range_item hp8.2 (Sj cR) fun h' hit hs=>⟨_,rfl,gQ ?_ fun r e=>?_⟩
  ·haveI oo:=gL S (hw _ rfl) hs hit;refine hQ _ h' _ ⟨_,rfl⟩ ⟨cR,?_⟩ oo.1 oo.2.2;haveI e1:a+((i+1:Nat):Int)*c=a+(i:Int)*c+c:=by push_cast;rw[Int.add_mul,Int.one_mul,Int.add_assoc]
   haveI e2:(n:Int)-((i+1:Nat):Int)=(n:Int)-(i:Int)-1:=by push_cast;exact N3
   exact Rw e1 (Rw e2 hit)
  ·cases e;exact⟨_,_,hit,rfl,by decide⟩
 done:=fun π i s ρ σ Q Z6 S e hQ=>by
  haveI DA:n<=i:=by
   by_cases q:i<n
   ·have e':some l[i]?=some none:=e;replace e':=(hi i q)▸e';cases e'
   ·exact le_of_not_lt q
  exact wpAny_pyNext_range_end hh Z6.2 (WZ DA) fun h' he=>hQ h' s.toks fun b o hb e=>he b o hb e
theorem signs_get:∀{s:List Nat} {i:Nat},(signs s)[i]?=(s[i]?).map fun c=>.str [c]
 |[],_=>rfl
 |a::r,0=>rfl
 |a::r,i+1=>by simp only[Fx];exact signs_get
theorem DO(hh:A.handled=none){I:Addr}{x:List Nat}{t:Tok}:Walk T af w A target (fun b=>b=I) I (.vals (signs x)) (fun π i ρ h=>h.IsStrIter I "str_ascii_iterator" ⟨x.toArray⟩ t i) where
 frame:=fun π de i ρ aA h h' gk k ko=>by obtain⟨o,ho,r⟩:=gk;exact⟨o,ko _ o rfl ho,r⟩
 self:=fun π i s ρ Q x q=>wpAny_pyIter_striter_ascii x q
 item:=fun π i s ρ σ v Q hw a1 S e hQ=>by
  haveI e':some (signs x)[i]?=some (some v):=e;replace e':=signs_get▸e'
  cases hc:x[i]? with
  |none=>haveI e':=hc▸e';exact nomatch e'
  |some c=>
   replace e':=hc▸e';cases e';refine wpAny_pyNext_ascii_item a1 (by simpa using hc) fun h' hit hs=>⟨_,rfl,gQ ?_ fun r e=>?_⟩
   ·obtain⟨o,ho,_⟩:=id hit;haveI oo:=gL S (hw _ rfl) hs ho;exact hQ _ h' _ ⟨_,rfl⟩ hit oo.1 oo.2.2
   ·cases e;obtain⟨o,ho,hc,_⟩:=hit;exact⟨o,_,ho,hc,by decide⟩
 done:=fun π i s ρ σ Q a1 S e hQ=>by
  haveI e':some (signs x)[i]?=some none:=e;haveI e':=signs_get▸e'
  haveI hn:x[i]?=none:=by cases hc:x[i]? with
   |none=>rfl
   |some c=>replace e':=hc▸e';cases e'
  exact wpAny_pyNext_ascii_end hh a1 (by simpa using hn) fun h' he=>hQ h' s.toks fun b o hb e=>he b o hb e
theorem Du(hh:A.handled=none){x:V}{x':Value}{it:It}(S:aZ T π ρ s.heap σ)(rx:Rel T π ρ s.heap x x')(e:wL σ x=some it){Q:Value->Shared->Prop}(o:u6 T af w A target π ρ s it σ Q):wpAny (model af w) A (pyIter x') Q aU s:=by
 cases x with
 |aj l=>obtain rfl:=oj e;obtain⟨a,vs,n,rfl,f,ho,rr⟩:=rx;refine wpAny_pyIter_tuple (isTup ho) ?_;haveI oo:=gJ S {cls:=.type "tuple_iterator",data:=.fields #[.ref a,.int 0 0]} rfl;haveI k:=oo.2.1;refine o _ (fun b=>b=s.heap.objs.size) _ ρ _ s.toks (xE hh) ⟨⟨_,Heap.get?_push_size _ rfl,rfl,rfl⟩,k.keep _ _ ho f,k.fixed _ _ ho f,rr.mono k _ _⟩ oo.1 oo.2.2.1 oo.2.2.2
 |lst l=>obtain rfl:=oj e;obtain⟨a,vs,n,rfl,f,ho,rr⟩:=rx;refine wpAny_pyIter_list ho.isList ?_;haveI oo:=gJ S {cls:=.type "list_iterator",data:=.fields #[.ref a,.int 0 0]} rfl;haveI k:=oo.2.1;refine o _ (fun b=>b=s.heap.objs.size) _ ρ _ s.toks (AR hh) ⟨⟨_,Heap.get?_push_size _ rfl,rfl,rfl⟩,k.keep _ _ ho f,k.fixed _ _ ho f,rr.mono k _ _⟩ oo.1 oo.2.2.1 oo.2.2.2
 |str x=>
  by_cases ha:x.all (· <128)=true
  ·obtain rfl:=oj ((if_pos ha).symm.trans e);obtain⟨t,rfl⟩:=rx;refine wpAny_pyIter_ascii (by simpa using ha) ?_;haveI oo:=gJ S {cls:=.type "str_ascii_iterator",data:=.fields #[.str ⟨x.toArray⟩ t,.int 0 0]} rfl;exact o _ (fun b=>b=s.heap.objs.size) _ ρ _ s.toks (DO hh) ⟨_,Heap.get?_push_size _ rfl,rfl,rfl⟩ oo.1 oo.2.2.1 oo.2.2.2
  ·exact nn ((if_neg ha).symm.trans e)
 |loc n=>obtain⟨l,hl,e⟩:=listAt e;obtain rfl:=oj e;obtain⟨q,vs,m,ep,ho,rr⟩:=sig_list S hl;obtain rfl:=cD rx ep;refine wpAny_pyIter_list ho.isList ?_;haveI oo:=gJ S {cls:=.type "list_iterator",data:=.fields #[.ref q,.int 0 0]} rfl;exact o _ (fun b=>b=s.heap.objs.size) _ ρ _ s.toks (BC hh (a:=q) ((List.getElem?_eq_some_iff.mp ep).1)) ⟨⟨_,Heap.get?_push_size _ rfl,rfl,rfl⟩,le_refl _,fun p e=>by replace e:=ep▸e;cases e;rfl⟩ oo.1 oo.2.2.1 oo.2.2.2
 |_=>exact nn e
end
end
section
def hG{P:Prog}(Γ:Ctx P)(d:Nat)(cx:Cx)(env:Env)(fr:Fr)(σ:St)(it:It)(ab:St)(target e:Expr):Prop:=∀A s π ρ (Q:Value->Shared->Prop),At Γ d cx env A s π ρ σ fr->u6 Γ.T Γ.af Γ.w A target π ρ s it ab Q->wpAny (model Γ.af Γ.w) A (eval e env) (fun x dT=>wpAny (model Γ.af Γ.w) A (pyIter x) Q aU dT) aU s
noncomputable def yd(e:Expr):Bool:=dB e fun y_ y_ y_=>true
def Iter(P:Prog)(d:Nat)(src:Src)(fr:Fr)(σ:St)(it:It)(ab:St):Prop:=∀(Γ:Ctx P) (cx:Cx) (env:Env) (e target:Expr),yy Γ.T Γ.N cx src e=true->(sO src=true->yd target=true)->hG Γ d cx env fr σ it ab target e
section
variable {T:Tab} {af:Program} {w:World}
theorem u6.next{A:Around}{target:Expr}{π:Addr->Prop}{ρ aA:bZ}{s:Shared}{it:It}{ab:St}{Q:Value->Shared->Prop}{h':Heap}{tk':Nat}(o:u6 T af w A target π ρ s it ab Q)(g:aK bG ρ s.heap aA h'):u6 T af w A target π aA {s with heap:=h',toks:=tk'} it ab Q:=fun I ω W bp aY bg wk w0 S k fr=>o I ω W bp aY bg wk w0 S (g.trans k) fun a z=>g.lH (fr a z)
theorem rO{A:Around}{target:Expr}{π:Addr->Prop}{ρ:bZ}{s:Shared}{σ:St}{Q:Value->Shared->Prop}{l:List V}{a b c:Int}{n:Nat}{t u v:Tok}{tk:Nat}(hh:A.handled=none)(S:aZ T π ρ s.heap σ)
  (hi:∀i,i<n->l[i]?=some (.int (a+i*c)))(he:∀i,n<=i->l[i]?=none)(xt:Builtin.Range.small a b c=true)(hn:Builtin.Range.rangeSize a b c=n)(o:u6 T af w A target π ρ s (.vals l) σ Q):wpAny (model af w) A (pyIter (.ref s.heap.objs.size)) Q aU {s with heap:=s.heap.push {cls:=.type "range",data:=.fields #[.int a t,.int b u,.int c v]},toks:=tk}:=by
 haveI up:∀x ob,s.heap.get? x=some ob->(s.heap.push {cls:=.type "range",data:=.fields #[.int a t,.int b u,.int c v]}).get? x=some ob:=fun x ob e=>Heap.get?_push_of_some _ e;refine wpAny_pyIter_range (IsRange.new _ a b c t u v) xt ?_;haveI oo:=gJ (s:={s with heap:=s.heap.push {cls:=.type "range",data:=.fields #[.int a t,.int b u,.int c v]},toks:=tk}) (S.up up) {cls:=.type "range_iterator",data:=.fields #[rawInt a,rawInt (Builtin.Range.rangeSize a b c),rawInt c]} rfl;refine o _ (fun b=>b=_) _ ρ _ tk (xN hh hi he) ⟨zero_le _,?_⟩ oo.1 ((aK.up up).trans oo.2.2.1) fun x z=>?_
 ·exact Rw (show a+((0:Nat):Int)*c=a by simp) (Rw (show((n:Int)-((0:Nat):Int))=n by simp) (Lw hn (Heap.get?_push_size _ rfl)))
 ·cases q:s.heap.get? x with
  |none=>rfl
  |some ob=>exact nn ((oo.2.2.2 x z)▸(up x ob q))
theorem sv(x y:Int):Builtin.Range.rangeSize x y (-1)=((x-y).toNat:Int):=by
 unfold Builtin.Range.rangeSize;refine Rw (if_neg (by decide)) (?_)
 split
 ·rw[show -(-1:Int)=1 by decide,Int.ediv_one];exact T5 (by assumption)
 ·exact Qv (by assumption)
theorem small_down{x y:Int}(hx:small x=true)(hy:small y=true):Builtin.Range.small x y (-1)=true:=by haveI a:=fH hx;haveI b:=fH hy;unfold Builtin.Range.small;rw[sv];simp only[Builtin.Range.rangeFitsLong,Bool.and_eq_true,Bool.or_eq_true,decide_eq_true_eq,beq_iff_eq,show¬((-1:Int)>0) by decide,if_false];exact Nj b.1 a.1 b.2 a.2
theorem FG{l:List V}{i:Nat}(h:i<l.length):l.reverse[i]?=l[l.length-1-i]?:=List.getElem?_reverse h
theorem CM{A:Around}{target:Expr}(hh:A.handled=none){I:Addr}{l:List V}{a:Addr}{vs:List Value}{n:Nat}:Walk T af w A target (fun b=>b=I) I (.vals l.reverse) (fun π i ρ h=>i<=l.length/\h.IsRevIter I a ((l.length:Int)-1-i)/\IsL h a (List.toArray vs) n/\¬(π a\/ff ρ a)/\bj T π ρ h l vs) where
 frame:=fun π de i ρ aA h h' ⟨a0,a1,a2,a3,a4⟩ k ko=>⟨a0,a1.at fun o e=>ko _ o rfl e,k.keep _ _ a2 a3,k.fixed _ _ a2 a3,a4.mono k _ _⟩
 self:=fun π i s ρ Q x q=>wpAny_pyIter_revIter x.2.1 q
 item:=fun π i s ρ σ v Q hw ⟨a0,a1,a2,a3,a4⟩ S e hQ=>by
  haveI e':some l.reverse[i]?=some (some v):=e
  have cR:i<l.length:=by simpa using((List.getElem?_eq_some_iff.mp (oj e')).1)
  haveI e':=(FG cR)▸e';obtain⟨v',hv,rv⟩:=ez a4 (oj e');haveI a1':s.heap.IsRevIter I a ((l.length-1-i:Nat):Int):=Rw (show((l.length-1-i:Nat):Int)=(l.length:Int)-1-i by exact TH cR) a1;refine wpAny_pyNext_rev_item a1' a2.isList (ew hv) fun h' hit hs=>⟨v',rfl,gQ ?_ fun r e=>?_⟩
  ·obtain⟨o,ho,_⟩:=id hit;haveI oo:=gL S (hw _ rfl) hs ho;haveI k:=oo.2.1;refine hQ v' h' s.toks (rv.mono k _ _) ⟨cR,?_,k.keep _ _ a2 a3,k.fixed _ _ a2 a3,a4.mono k _ _⟩ oo.1 oo.2.2;exact Rw (show(l.length:Int)-1-((i+1:Nat):Int)=((l.length-1-i:Nat):Int)-1 by exact TL cR) hit
  ·cases e;obtain⟨o,ho,hc,_⟩:=hit;exact⟨o,_,ho,hc,by decide⟩
 done:=fun π i s ρ σ Q ⟨a0,a1,a2,a3,a4⟩ S e hQ=>by haveI e':some l.reverse[i]?=some none:=e;haveI DA:=List.getElem?_eq_none_iff.mp (oj e');simp only[length_reverse]at DA;haveI:=Vf DA a0;subst this;exact wpAny_pyNext_rev_end hh ((show(l.length:Int)-1-(l.length:Int)=-1 by exact TA)▸a1) fun h' he=>hQ h' s.toks fun b o hb e=>he b o hb e
end
section
variable {P:Prog} {d:Nat} {fr:Fr} {σ ae av bh:St}
theorem Iter.seq{x:X}{v:V}{it:It}(hx:Ev P d x fr σ v ae)(h:wL ae v=some it):Iter P d (.seq x) fr σ it ae:=fun Γ cx env e target hc hz A s π ρ Q a o=>
 (hx Γ cx env e (aR hc)).val _ _ _ _ _ a fun cH aE ay aI aT aF az=>Du a.rm.handled aF aT h (o.next az)
theorem Iter.qQ{x:X}{n:Int}(hx:Ev P d x fr σ (.int n) ae)(hs:small n=true):Iter P d (.qQ x) fr σ (.vals (up 0 n.toNat)) ae:=fun Γ cx env e target hc hz=>gu.ind (fun g l p hc=>
 one.ind (M:=fun l=>hG Γ d cx env fr σ (.vals (up 0 n.toNat)) ae target (.Call g l [] p)) (fun e hc=>eB (M:=fun g=>hG Γ d cx env fr σ (.vals (up 0 n.toNat)) ae target (.Call g [e] [] p)) (fun hg q A s π ρ Q a o=>by
  refine wpAny_Call_NameR (gO (v:=.type "range") Γ.Y.gy a.D a.es (by decide) (by kernel_rfl) hg (args_call (gN (hx Γ cx env e (aR (aR hc))).val) (eA (aL (aR hc))) a (machine (by intro a h;cases h)) fun dX aE ay aI aT aF az=>⟨trivial,?_⟩));obtain⟨eE,t,rfl,⟨tn,rfl⟩,rt⟩:=aT;obtain rfl:t=[]:=rt;refine call_range_1 (rO a.rm.handled aF (fun i hi=>?_) (fun i hi=>BX hi) (small_one PE Oz (W6 (fH hs).1) (VJ (fH hs).2)) ?_ (o.next az))
  ·refine Rw (Cr hi) (?_);congr 2;exact Pg
  ·rw[rangeSize_one];split<;>(first|exact Nu (by assumption)|exact TC (by assumption))) (aL hc)) hc) hc
theorem Iter.nW{x y z:X}{i j:Int}(hx:Ev P d x fr σ (.int i) ae)(hy:Ev P d y fr ae (.int j) av)(hz:Ev P d z fr av (.int (-1)) bh)(hs:small i=true/\small j=true):Iter P d (.nW x y z) fr σ (.vals (down i (i-j).toNat)) bh:=fun Γ cx env e target hc y_=>
 gu.ind (fun g l p hc=>
 cI.ind (M:=fun l=>hG Γ d cx env fr σ (.vals (down i (i-j).toNat)) bh target (.Call g l [] p)) (fun e l hc=>two.ind (M:=fun l=>hG Γ d cx env fr σ (.vals (down i (i-j).toNat)) bh target (.Call g (e::l) [] p)) (fun e' nV hc=>
 eB (M:=fun g=>hG Γ d cx env fr σ (.vals (down i (i-j).toNat)) bh target (.Call g [e,e',nV] [] p)) (fun hg q A s π ρ Q a o=>by
  refine wpAny_Call_NameR (gO (v:=.type "range") Γ.Y.gy a.D a.es (by decide) (by kernel_rfl) hg ?_);replace hc:=aR hc;haveI n1:=aL hc;replace hc:=aR hc;haveI n2:=aL hc;replace hc:=aR hc;haveI n3:=aL hc;replace hc:=aR hc
  refine args_call ⟨rfl,fun h=>absurd h (cons_ne_nil _ _),jy (hx Γ cx env e (aL hc)).val (oU (hy Γ cx env e' (aL (aR hc))).val (hz Γ cx env nV (aR (aR hc))).val).val⟩
   (fun x hx=>(mem_cons.mp hx).elim (fun z=>z▸n1) (lz n2 n3 x)) a (machine (by intro a h;cases h)) fun dX aE ay aI aT aF az=>⟨trivial,?_⟩
  obtain⟨cH,JN,rfl,⟨aaZ,rfl⟩,eE,BO,rfl,⟨ZM,rfl⟩,m5,QP,rfl,⟨aa5,rfl⟩,rt⟩:=aT;obtain rfl:QP=[]:=rt;refine call_range_3 (by decide) ?_ (Or.inl (PyProof.noPylong_small UG));refine rO a.rm.handled aF (fun i hi=>?_) (fun i hi=>uJ hi) (small_down hs.1 hs.2) (sv _ _) (o.next az)
  refine Rw (u0 hi) (?_);congr 2;exact Vu) (aL hc)) hc) hc) hc
theorem Iter.rev{x:X}{l:List V}(hx:Ev P d x fr σ (.lst l) ae):Iter P d (.rev x) fr σ (.vals l.reverse) ae:=fun Γ cx env e target hc hz=>gu.ind (fun g l' p hc=>
 one.ind (M:=fun l'=>hG Γ d cx env fr σ (.vals l.reverse) ae target (.Call g l' [] p)) (fun e hc=>eB (M:=fun g=>hG Γ d cx env fr σ (.vals l.reverse) ae target (.Call g [e] [] p)) (fun hg q A s π ρ Q a o=>by
  refine wpAny_Call_NameR (gO (v:=.type "reversed") Γ.Y.gy a.D a.es (by decide) (by kernel_rfl) hg (args_call (gN (hx Γ cx env e (aR (aR hc))).val) (eA (aL (aR hc))) a (machine (by intro a h;cases h)) fun dX aE ay aI aT aF az=>⟨trivial,?_⟩));obtain⟨eE,t,rfl,⟨q,vs,n,rfl,f,ho,rr⟩,rt⟩:=aT;obtain rfl:t=[]:=rt;refine call_reversed_list ho.isList ?_
  haveI oo:=gJ (s:={s with heap:=ay,toks:=aI}) aF (revObj q ((List.toArray vs).size-1)) rfl;haveI k:=oo.2.1;haveI hit:(ay.push (revObj q ((List.toArray vs).size-1))).IsRevIter ay.objs.size q ((l.length:Int)-1-((0:Nat):Int)):=by refine⟨_,Heap.get?_push_size _ rfl,rfl,?_⟩;show Data.fields _=Data.fields _;refine Rw size_toArray (Rw (aQ rr) (?_));simp
  exact wpAny_pyIter_revIter hit ((o.next az) _ (fun b=>b=ay.objs.size) _ aE _ aI (CM a.rm.handled) ⟨zero_le _,hit,k.keep _ _ ho f,k.fixed _ _ ho f,rr.mono k _ _⟩ oo.1 oo.2.2.1 oo.2.2.2)) (aL hc)) hc) hc
end
end
section
section
variable {af:Program} {w:World} {A:Around} {E:Value->Shared->Prop} {s:Shared}
structure lJ(z TI TO i1 i2:Addr):Prop where
 TIz:TI≠z
 TOz:TO≠z
 i1z:i1≠z
 i2z:i2≠z
 TITO:TI≠TO
 TIi1:TI≠i1
 TIi2:TI≠i2
 TOi1:TO≠i1
 TOi2:TO≠i2
 i12:i1≠i2
noncomputable abbrev jX(h:Heap)(i:Addr)(x:List Nat)(t:Tok)(k:Nat):Prop:=h.IsStrIter i "str_ascii_iterator" ⟨x.toArray⟩ t k
theorem cQ{h h':Heap}{i a:Addr}{x:List Nat}{t:Tok}{k:Nat}(q:jX h i x t k)(hs:Heap.SameBut a h h')(n:i≠a):jX h' i x t k:=by obtain⟨o,e,r⟩:=q;exact⟨o,(hs.2 i n).trans e,r⟩
theorem rI{h h':Heap}{i:Addr}{x:List Nat}{t:Tok}{k:Nat}(q:jX h i x t k)(hs:∀o,h.get? i=some o->h'.get? i=some o):jX h' i x t k:=let⟨o,e,r⟩:=q;⟨o,hs o e,r⟩
theorem A8{z TI TO i1 i2:Addr}{k:Nat}{x y:List Nat}{t u:Tok}{c d:Nat}{a b:Value}{Q:Value->Shared->Prop}(D:lJ z TI TO i1 i2)
  (hz:IsZip s.heap z TI TO .none)(AW:IsPair s.heap TI (.ref i1) (.ref i2))(BF:IsPair s.heap TO a b)
  (h1:jX s.heap i1 x t k)(h2:jX s.heap i2 y u k)(hx:x[k]?=some c)(hy:y[k]?=some d)
  (hQ:∀h' tk' v1 v2,v1=.str ⟨#[c]⟩ s.toks->v2=.str ⟨#[d]⟩ (s.toks+1)->IsZip h' z TI TO (rawInt s.heap.objs.size)->IsPair h' TO v1 v2->jX h' i1 x t (k+1)->jX h' i2 y u (k+1)->IsPair h' s.heap.objs.size v1 v2->(∀c o,c≠z->c≠TO->c≠i1->c≠i2->s.heap.get? c=some o->h'.get? c=some o)->Q (.ref s.heap.objs.size) {s with heap:=h',toks:=tk'}):wpAny (model af w) A (Builtin.«zip.__next__» ⟨[.ref z],[]⟩) (fun fin s'=>∃v,fin=.done (.ret v)/\Q v s') E s:=by
 show wpAny _ _ (PySem.field (.ref z) 2>>=_) _ _ _;refine wpAny_bind (wpAny_field hz rfl (x:=.bool false) rfl (wpAny_bind (wpAny_field hz rfl (x:=.ref TI) rfl (wpAny_bind (wpAny_seqItems AW rfl (wpAny_bind (wpAny_bind (wpAny_field hz rfl (x:=.none) rfl (wpAny_pure (Rw (if_pos rfl) (wpAny_bind (wpAny_rule (wpAny_bind (wpAny_field hz rfl (x:=.ref TO) rfl (wpAny_bind (wpAny_setField_rec hz ((le_add_left _ _)) fun ay kQ gh=>?_))))))))))))))));replace kQ:IsZip ay z TI TO .ellipsis:=kQ;refine wpAny_bind (wpAny_bind (wpAny_bind (wpAny_onRaise (wpAny_bind (wpAny_nextOf_ascii_item (cQ h1 gh D.i1z) (by simpa using hx) fun aY E5 dC=>wpAny_pure ?_)))));haveI nk:=dC.extBut _ _ D.TOi1 (gh.extBut _ _ D.TOz BF);refine wpAny_bind (wpAny_seqItems nk rfl (wpAny_bind (wpAny_updateSeq_pair nk fun bA rG fi=>?_)));replace rG:IsPair bA TO (.str ⟨#[c]⟩ s.toks) b:=rG;refine wpAny_bind (wpAny_letGo (wpAny_pure (wpAny_bind (wpAny_bind (wpAny_onRaise (wpAny_bind (wpAny_nextOf_ascii_item (cQ (cQ (cQ h2 gh D.i2z) dC D.i12.symm) fi D.TOi2.symm) (by simpa using hy) fun qj LK kV=>wpAny_pure ?_)))))));haveI CG:=kV.extBut _ _ D.TOi2 rG;refine wpAny_bind (wpAny_seqItems CG rfl (wpAny_bind (wpAny_updateSeq_pair CG fun fB rC kO=>?_)));replace rC:IsPair fB TO (.str ⟨#[c]⟩ s.toks) (.str ⟨#[d]⟩ (s.toks+1)):=rC;refine wpAny_bind (wpAny_letGo (wpAny_pure (wpAny_pure (wpAny_bind (wpAny_seqItems rC rfl (wpAny_bind (wpAny_newTuple ?_)))))));haveI AQ:fB.objs.size=s.heap.objs.size:=Rw kO.1 (Rw kV.1 (Rw fi.1 (Rw dC.1 (Rw gh.1 rfl))));haveI BI:=kO.extBut _ _ D.TOz.symm (kV.extBut _ _ D.i2z.symm (fi.extBut _ _ D.TOz.symm (dC.extBut _ _ D.i1z.symm kQ)))
 haveI M7:∀c o,c≠z->c≠TO->c≠i1->c≠i2->s.heap.get? c=some o->fB.get? c=some o:=fun c o c1 c2 c3 c4 e=>
  kO.extBut _ _ c2 (kV.extBut _ _ c4 (fi.extBut _ _ c2 (dC.extBut _ _ c3 (gh.extBut _ _ c1 e))))
 refine wpAny_bind ?_;haveI LH:IsZip (fB.push {cls:=.type "tuple",data:=.seq #[.str ⟨#[c]⟩ s.toks,.str ⟨#[d]⟩ (s.toks+1)]}) z TI TO .ellipsis:=Heap.get?_push_of_some _ BI;refine wpAny_bind (wpAny_setField_rec LH ((le_add_left _ _)) fun qf zY GL=>?_);replace zY:IsZip qf z TI TO (rawInt fB.objs.size):=zY;refine wpAny_setField_rec zY ((le_add_left _ _)) fun BS wA ju=>?_;replace wA:IsZip BS z TI TO (rawInt fB.objs.size):=wA;have up:∀c o,c≠z->fB.get? c=some o->BS.get? c=some o:=fun c o c1 e=>ju.extBut _ _ c1 (GL.extBut _ _ c1 (Heap.get?_push_of_some _ e));haveI GH:IsPair BS fB.objs.size (.str ⟨#[c]⟩ s.toks) (.str ⟨#[d]⟩ (s.toks+1)):=ju.extBut _ _ (ne_of_gt (Heap.lt_size BI)) (GL.extBut _ _ (ne_of_gt (Heap.lt_size BI)) (Heap.get?_push_size _ rfl));rw[AQ]at wA GH;refine wpAny_pure ⟨_,rfl,?_⟩;exact Rw AQ (hQ BS _ _ _ rfl rfl wA (up _ _ D.TOz rC) (rI (cQ (cQ (cQ E5 fi D.TOi1.symm) kV D.i12) kO D.TOi1.symm) fun o e=>up _ o D.i1z e) (rI (cQ LK kO D.TOi2.symm) fun o e=>up _ o D.i2z e) GH fun c o c1 c2 c3 c4 e=>up c o c1 (M7 c o c1 c2 c3 c4 e))
theorem Dk{z TI TO i1 i2:Addr}{k:Nat}{x y:List Nat}{t u:Tok}{a b:Value}{Q:Fin->Shared->Prop}(hh:A.handled=none)(D:lJ z TI TO i1 i2)
  (hz:IsZip s.heap z TI TO .none)(AW:IsPair s.heap TI (.ref i1) (.ref i2))(BF:IsPair s.heap TO a b)
  (h1:jX s.heap i1 x t k)(h2:jX s.heap i2 y u k)(yE:x[k]?=none\/y[k]?=none)
  (hE:∀h' tk' e,(∀c o,c≠z->c≠TO->c≠i1->c≠i2->s.heap.get? c=some o->h'.get? c=some o)->(∃o,h'.get? e=some o/\o.cls=.type "StopIteration")->E (.ref e) {s with heap:=h',toks:=tk'}):wpAny (model af w) A (Builtin.«zip.__next__» ⟨[.ref z],[]⟩) Q E s:=by
 show wpAny _ _ (PySem.field (.ref z) 2>>=_) _ _ _;refine wpAny_bind (wpAny_field hz rfl (x:=.bool false) rfl (wpAny_bind (wpAny_field hz rfl (x:=.ref TI) rfl (wpAny_bind (wpAny_seqItems AW rfl (wpAny_bind (wpAny_bind (wpAny_field hz rfl (x:=.none) rfl (wpAny_pure (wpAny_bind (wpAny_rule (wpAny_bind (wpAny_field hz rfl (x:=.ref TO) rfl (wpAny_bind (wpAny_setField_rec hz ((le_add_left _ _)) fun ay kQ gh=>?_)))))))))))))));replace kQ:IsZip ay z TI TO .ellipsis:=kQ;refine wpAny_bind ?_;simp only[List.zipIdx_cons,List.zipIdx_nil,forIn_cons,forIn_nil];refine wpAny_bind (wpAny_bind (wpAny_onRaise ?_))
 cases hx:x[k]? with
 |none=>
  refine wpAny_bind (wpAny_nextOf_ascii_end hh (cQ h1 gh D.i1z) (by simpa using hx) fun aY e dC he=>?_);obtain⟨oe,A0,Ff⟩:=he;haveI Ga:=dC _ _ D.i1z.symm kQ;have LX:e≠z:=fun x=>by obtain rfl:=Eq.symm x;rw[Ga]at A0;obtain rfl:=oj A0;simp at Ff
  refine wpAny_setField_rec Ga ((le_add_left _ _)) fun bA y_ fi=>hE bA _ e (fun c o c1 y_ c3 y_ x=>fi.extBut _ _ c1 (dC _ _ c3 (gh.extBut _ _ c1 x))) ⟨oe,fi.extBut _ _ LX A0,Ff⟩
 |some c=>
  haveI hy:y[k]?=none:=by refine Or.elim yE (fun h=>?_) fun h=>?_;replace h:=hx▸h;cases h;exact h
  refine wpAny_bind (wpAny_nextOf_ascii_item (cQ h1 gh D.i1z) (by simpa using hx) fun aY E5 dC=>wpAny_pure ?_);haveI nk:=dC.extBut _ _ D.TOi1 (gh.extBut _ _ D.TOz BF);refine wpAny_bind (wpAny_seqItems nk rfl (wpAny_bind (wpAny_updateSeq_pair nk fun bA rG fi=>(wpAny_bind (wpAny_letGo (wpAny_pure (wpAny_bind (wpAny_bind (wpAny_onRaise (wpAny_bind (wpAny_nextOf_ascii_end hh (cQ (cQ (cQ h2 gh D.i2z) dC D.i12.symm) fi D.TOi2.symm) (by simpa using hy) fun qj e kV he=>?_)))))))))));obtain⟨oe,A0,Ff⟩:=he;haveI FC:=kV _ _ D.i2z.symm (fi.extBut _ _ D.TOz.symm (dC.extBut _ _ D.i1z.symm kQ));have LX:e≠z:=fun x=>by obtain rfl:=Eq.symm x;rw[FC]at A0;obtain rfl:=oj A0;simp at Ff
  refine wpAny_setField_rec FC ((le_add_left _ _)) fun fB y_ kO=>hE fB _ e (fun c o c1 c2 c3 c4 x=>kO.extBut _ _ c1 (kV _ _ c4 (fi.extBut _ _ c2 (dC.extBut _ _ c3 (gh.extBut _ _ c1 x))))) ⟨oe,kO.extBut _ _ LX A0,Ff⟩
theorem qN{z TI TO i1 i2:Addr}{k:Nat}{x y:List Nat}{t u:Tok}{c d:Nat}{a b:Value}{Q:Option Value->Shared->Prop}(D:lJ z TI TO i1 i2)
  (hz:IsZip s.heap z TI TO .none)(AW:IsPair s.heap TI (.ref i1) (.ref i2))(BF:IsPair s.heap TO a b)
  (h1:jX s.heap i1 x t k)(h2:jX s.heap i2 y u k)(hx:x[k]?=some c)(hy:y[k]?=some d)
  (hQ:∀h' tk' v1 v2,v1=.str ⟨#[c]⟩ s.toks->v2=.str ⟨#[d]⟩ (s.toks+1)->IsZip h' z TI TO (rawInt s.heap.objs.size)->IsPair h' TO v1 v2->jX h' i1 x t (k+1)->jX h' i2 y u (k+1)->IsPair h' s.heap.objs.size v1 v2->(∀c o,c≠z->c≠TO->c≠i1->c≠i2->s.heap.get? c=some o->h'.get? c=some o)->Q (some (.ref s.heap.objs.size)) {s with heap:=h',toks:=tk'}):wpAny (model af w) A (pyNext (.ref z)) Q E s:=by
 haveI hT:s.TypeIs (.ref z) "zip":=⟨_,hz,rfl⟩
 exact wpAny_bind (wpAny_attempt (wpAny_callSpecial?_slot hT F.slot_zip_next
  (wpAny_call_entry F.slot_zip_next hT F.entry_zip_next
   (A8 D hz AW BF h1 h2 hx hy fun h' tk' v1 v2 e1 e2 a1 a2 a3 a4 a5 a6=>wpAny_pure (hQ h' tk' v1 v2 e1 e2 a1 a2 a3 a4 a5 a6)) (F.args_zip_next_1 _))))
theorem td{z TI TO i1 i2:Addr}{k:Nat}{x y:List Nat}{t u:Tok}{a b:Value}{Q:Option Value->Shared->Prop}(hh:A.handled=none)(D:lJ z TI TO i1 i2)
  (hz:IsZip s.heap z TI TO .none)(AW:IsPair s.heap TI (.ref i1) (.ref i2))(BF:IsPair s.heap TO a b)
  (h1:jX s.heap i1 x t k)(h2:jX s.heap i2 y u k)(yE:x[k]?=none\/y[k]?=none)
  (hQ:∀h' tk',(∀c o,c≠z->c≠TO->c≠i1->c≠i2->s.heap.get? c=some o->h'.get? c=some o)->Q none {s with heap:=h',toks:=tk'}):wpAny (model af w) A (pyNext (.ref z)) Q E s:=by
 haveI hT:s.TypeIs (.ref z) "zip":=⟨_,hz,rfl⟩
 refine wpAny_bind (wpAny_attempt (wpAny_callSpecial?_slot hT F.slot_zip_next
  (wpAny_call_entry F.slot_zip_next hT F.entry_zip_next (Dk hh D hz AW BF h1 h2 yE fun h' tk' e hk he=>?_) (F.args_zip_next_1 _))))
 obtain⟨o,ho,hc⟩:=he;exact wpAny_bind (wpAny_isInstance ⟨o,ho,hc⟩ isSubtype_stop (wpAny_pure (hQ _ _ hk)))
noncomputable abbrev G7(h:Heap)(x:Str)(t:Tok):Heap:=h.push {cls:=.type "str_ascii_iterator",data:=.fields #[.str x t,.int 0 0]}
noncomputable abbrev Ib(h:Heap)(x y:Str)(t u:Tok):Heap:=(G7 h x t).push {cls:=.type "str_ascii_iterator",data:=.fields #[.str y u,.int 0 0]}
noncomputable abbrev Hg(h:Heap)(x y:Str)(t u:Tok):Heap:=(Ib h x y t u).push {cls:=.type "tuple",data:=.seq #[.ref h.objs.size,.ref (G7 h x t).objs.size]}
noncomputable abbrev Hl(h:Heap)(x y:Str)(t u:Tok):Heap:=(Hg h x y t u).push {cls:=.type "tuple",data:=.seq #[.none,.none]}
noncomputable abbrev DF(h:Heap)(x y:Str)(t u:Tok):Heap:=(Hl h x y t u).push {cls:=.type "zip",data:=.fields #[.none,.bool false,.bool false,.ref (Ib h x y t u).objs.size,.ref (Hg h x y t u).objs.size]}
theorem uj(x y:Value):Builtin.SmallTypes.newClass "zip" ⟨[.type "zip",x,y],[]⟩=pure (.type "zip",[x,y]):=by
 unfold Builtin.SmallTypes.newClass;dsimp only;haveI e1:isType (.type "zip")=pure true:=by rfl
 rw[e1,pure_bind];rw[sub_zip,pure_bind];rfl
theorem yV(x y:Str)(t u:Tok)(hx:x.cps.all (· <128)=true)(hy:y.cps.all (· <128)=true):Meets (Builtin.«zip.__new__» ⟨[.type "zip",.str x t,.str y u],[]⟩) (fun y_ R s=>R (.ok (.ret (.ref (Hl s.heap x y t u).objs.size))) {s with heap:=DF s.heap x y t u}):=.of_wp fun af w A R s h=>by unfold Builtin.«zip.__new__»;rw[uj,pure_bind];dsimp only;refine Rw (if_neg ((by decide))) (?_);unfold Builtin.SmallTypes.iterAll;simp only[forIn_cons,forIn_nil,bind_assoc,pure_bind];refine wpAny_bind (wpAny_holding (wpAny_pyIter_ascii hx (wpAny_bind (wpAny_holding (wpAny_pyIter_ascii hy (wpAny_bind (mF ?_ ((le_add_left _ _)))))))));refine wpAny_bind (mF ?_ ((le_add_left _ _)));refine wpAny_bind ?_;show wpAny _ _ (newObj (.type "zip") (.fields #[.none,.bool false,.bool false,.ref _,.ref _])) _ _ _;refine wpAny_newObj_type ?_ (by size_fits);exact wpAny_pure ⟨_,rfl,h⟩
theorem Al{x y:Str}{t u:Tok}{Q:Value->Shared->Prop}(hx:x.cps.all (· <128)=true)(hy:y.cps.all (· <128)=true)
  (h:∀h',IsZip h' (s.heap.objs.size+4) (s.heap.objs.size+2) (s.heap.objs.size+3) .none->IsPair h' (s.heap.objs.size+2) (.ref s.heap.objs.size) (.ref (s.heap.objs.size+1))->IsPair h' (s.heap.objs.size+3) .none .none->h'.IsStrIter s.heap.objs.size "str_ascii_iterator" x t 0->h'.IsStrIter (s.heap.objs.size+1) "str_ascii_iterator" y u 0->(∀c o,s.heap.get? c=some o->h'.get? c=some o)->Q (.ref (s.heap.objs.size+4)) {s with heap:=h'}):wpAny (model af w) A (call (.type "zip") [.str x t,.str y u]) Q E s:=by
 refine callType_new F.called_zip (by decide) (F.typeCall_zip_2 _ _) (F.newCall_zip_2 _ _) (fun obj=>F.args_object_init_3 obj _ _) F.entry_zip_new
  (yV x y t u hx hy) ?_
 haveI z1:(G7 s.heap x t).objs.size=s.heap.objs.size+1:=Heap.size_push ..;haveI z2:(Ib s.heap x y t u).objs.size=s.heap.objs.size+2:=by rw[Heap.size_push,z1]
 haveI z3:(Hg s.heap x y t u).objs.size=s.heap.objs.size+3:=by rw[Heap.size_push,z2]
 haveI z4:(Hl s.heap x y t u).objs.size=s.heap.objs.size+4:=by rw[Heap.size_push,z3]
 haveI g5:(DF s.heap x y t u).get? (Hl s.heap x y t u).objs.size=some _:=Heap.get?_push_size _ rfl;haveI g4:(DF s.heap x y t u).get? (Hg s.heap x y t u).objs.size=some _:=Heap.get?_push_of_some _ (Heap.get?_push_size _ rfl);haveI g3:(DF s.heap x y t u).get? (Ib s.heap x y t u).objs.size=some _:=Heap.get?_push_of_some _ (Heap.get?_push_of_some _ (Heap.get?_push_size _ rfl));haveI g2:(DF s.heap x y t u).get? (G7 s.heap x t).objs.size=some _:=Heap.get?_push_of_some _ (Heap.get?_push_of_some _ (Heap.get?_push_of_some _ (Heap.get?_push_size _ rfl)));haveI g1:(DF s.heap x y t u).get? s.heap.objs.size=some _:=Heap.get?_push_of_some _ (Heap.get?_push_of_some _ (Heap.get?_push_of_some _ (Heap.get?_push_of_some _ (Heap.get?_push_size _ rfl))));rw[z2,z3,z4]at g5;rw[z1,z2]at g3;rw[z3]at g4;rw[z1]at g2
 exact Rw z4 ⟨⟨_,g5,rfl⟩,h _ g5 g3 g4 ⟨_,g1,rfl,rfl⟩ ⟨_,g2,rfl,rfl⟩ fun c o x=>
  Heap.get?_push_of_some _ (Heap.get?_push_of_some _ (Heap.get?_push_of_some _ (Heap.get?_push_of_some _ (Heap.get?_push_of_some _ x))))⟩
end
section
variable {T:Tab} {af:Program} {w:World}
variable {A:Around} {s:Shared} {π:Addr->Prop} {ρ:bZ} {σ:St} {h h':Heap}
theorem AY{ω:Addr->Prop}(S:aZ T π ρ h σ)(hk:∀a o,¬ω a->h.get? a=some o->h'.get? a=some o)(VP:∀a,ω a->π a)(ho:∀a,ω a->∃o,h'.get? a=some o):aZ T π ρ h' σ/\Keeps π π ρ ρ h h'/\aK ω ρ h ρ h':=by
 haveI k:Keeps π π ρ ρ h h':=⟨fun y_ y_ y_ f=>f,fun a o e f=>hk a o (fun z=>f (.inl (VP a z))) e,le_refl _,fun y_ y_ y_ e=>e⟩;refine⟨S.keeps k (fun a o m e=>hk a o (fun z=>S.a8 a (VP a z) m) e) S.a8 fun a z=>?_,k,le_refl _,fun y_ y_ y_ e=>e,fun n p l e=>((Q7 ((List.getElem?_eq_some_iff.mp e).1) l).elim),fun a o e=>?_,fun a o e y_ z=>hk a o z e⟩
 ·by_cases q:ω a
  ·exact ho a q
  ·exact(S.there a z).elim fun o e=>⟨o,hk a o q e⟩
 ·by_cases q:ω a
  ·exact ho a q
  ·exact⟨o,hk a o q e⟩
theorem pv:∀{x y:List Nat} {i:Nat},(jS x y)[i]?=match x[i]?,y[i]? with
  |some a,some b=>some (.aj [.str [a],.str [b]])
  |_,_=>none
 |[],_,_=>rfl
 |a::r,[],i=>by show none=_;cases(a::r)[i]?<;>rfl
 |a::r,b::t,0=>rfl
 |a::r,b::t,i+1=>pv (x:=r)
theorem BB{x y:List Nat}{i:Nat}{v:V}(h:(jS x y)[i]?=some v):∃c d,x[i]?=some c/\y[i]?=some d/\V.aj [.str [c],.str [d]]=v:=by
 replace h:=pv.symm.trans h;revert h
 cases x[i]? with
 |none=>exact nn
 |some c=>cases y[i]? with
  |none=>exact nn
  |some d=>exact fun h=>⟨c,d,rfl,rfl,oj h⟩
def EU(z TI TO i1 i2:Addr)(a:Addr):Prop:=a=z\/a=TI\/a=TO\/a=i1\/a=i2
def wJ(z TI TO i1 i2:Addr)(x y:List Nat)(t u:Tok)(i:Nat)(h:Heap):Prop:=IsZip h z TI TO .none/\IsPair h TI (.ref i1) (.ref i2)/\(∃a b,IsPair h TO a b)/\jX h i1 x t i/\jX h i2 y u i
theorem nT{z TI TO i1 i2:Addr}{x y:List Nat}{t u:Tok}{i:Nat}{h:Heap}(q:wJ z TI TO i1 i2 x y t u i h):∀a,EU z TI TO i1 i2 a->∃o,h.get? a=some o:=fun a m=>by obtain⟨a1,a2,⟨_,_,a3⟩,⟨_,a4,_⟩,_,a5,_⟩:=q;rcases m with rfl|rfl|rfl|rfl|rfl<;>exact⟨_,‹_›⟩
theorem Dz(hh:A.handled=none){z TI TO i1 i2:Addr}{x y:List Nat}{t u:Tok}(D:lJ z TI TO i1 i2){es:List Expr}{k:Nat}{pos:Pos}:Walk T af w A (.Tuple es k pos) (EU z TI TO i1 i2) z (.vals (jS x y)) (fun π i ρ h=>wJ z TI TO i1 i2 x y t u i h) where
 frame:=fun π de i ρ aA h h' gk k ko=>by haveI a1:=gk.1;haveI a2:=gk.2.1;obtain⟨a,b,a3⟩:=gk.2.2.1;haveI a4:=gk.2.2.2.1;haveI a5:=gk.2.2.2.2;exact⟨ko _ _ (.inl rfl) a1,ko _ _ (.inr (.inl rfl)) a2,⟨a,b,ko _ _ (.inr (.inr (.inl rfl))) a3⟩,rI a4 fun o e=>ko _ o (.inr (.inr (.inr (.inl rfl)))) e,rI a5 fun o e=>ko _ o (.inr (.inr (.inr (.inr rfl)))) e⟩
 self:=fun π i s ρ Q q k=>wpAny_pyIter_zip q.1 k
 item:=fun π i s ρ σ v Q hw ⟨a1,a2,⟨a,b,a3⟩,a4,a5⟩ S e hQ=>by
  obtain⟨c,d,hc,hd,rfl⟩:=BB (oj e);haveI fresh:∀{c' o},s.heap.get? c'=some o->s.heap.objs.size≠c':=fun e=>ne_of_gt (Heap.lt_size e);refine cps fun G kG=>?_;obtain⟨o4,e4,_⟩:=id a4;obtain⟨o5,e5,_⟩:=id a5;refine kG (qN D a1 a2 a3 a4 a5 hc hd fun ay aI v1 v2 YT Z0 b1 b2 b3 b4 b5 GP=>⟨_,rfl,?_⟩);refine wpAny_letOwnedTupleGo_zip b1 fun aY c1 dC=>?_
  haveI hk:∀c o,¬EU z TI TO i1 i2 c->s.heap.get? c=some o->aY.get? c=some o:=fun c o n e=>
   (dC.2 c fun q=>n (.inl q)).trans (GP c o (fun q=>n (.inl q)) (fun q=>n (.inr (.inr (.inl q)))) (fun q=>n (.inr (.inr (.inr (.inl q))))) (fun q=>n (.inr (.inr (.inr (.inr q))))) e)
  haveI W:wJ z TI TO i1 i2 x y t u (i+1) aY:=⟨c1,(dC.2 _ D.TIz).trans (GP _ _ D.TIz D.TITO D.TIi1 D.TIi2 a2),⟨_,_,(dC.2 _ D.TOz).trans b2⟩,cQ b3 dC D.i1z,cQ b4 dC D.i2z⟩;haveI oo:=AY S hk hw (nT W);refine hQ _ aY aI ⟨_,[v1,v2],0,rfl,?_,((dC.2 _ (fresh a1)).trans b5),v1,[v2],rfl,⟨s.toks,YT⟩,v2,[],rfl,⟨s.toks+1,Z0⟩,rfl⟩ W oo.1 oo.2.2;exact cM (S:=S)
 done:=fun π i s ρ σ Q ⟨a1,a2,⟨a,b,a3⟩,a4,a5⟩ S e hQ=>by
  haveI e':some (jS x y)[i]?=some none:=e;haveI e':=pv▸e'
  haveI yE:x[i]?=none\/y[i]?=none:=by
   cases hx:x[i]? with
   |none=>exact .inl rfl
   |some c=>cases hy:y[i]? with
    |none=>exact .inr rfl
    |some d=>have e':=hy▸(hx▸e');cases e'
  exact td hh D a1 a2 a3 a4 a5 yE fun h' tk' hk=>hQ h' tk' fun c o n e=>
   hk c o (fun q=>n (.inl q)) (fun q=>n (.inr (.inr (.inl q)))) (fun q=>n (.inr (.inr (.inr (.inl q))))) (fun q=>n (.inr (.inr (.inr (.inr q))))) e
theorem HR(n:Nat):lJ (n+4) (n+2) (n+3) n (n+1):=by constructor<;>(intro h;haveI h':∀a b:Nat,a=b->a≠b->False:=fun y_ y_ e f=>f e;exact h' _ _ h (by simp))
theorem Ip(n a:Nat)(q:a=n+4\/a=n+2\/a=n+3\/a=n\/a=n+1):n<=a:=Qx q
theorem sk{x:List Nat}(h:x.all (· <128)=true):(⟨x.toArray⟩:Str).cps.all (· <128)=true:=by simpa using h
end
section
theorem Iter.zip{P:Prog}{d:Nat}{fr:Fr}{σ ae av:St}{x y:X}{l m:List Nat}(hx:Ev P d x fr σ (.str l) ae)(hy:Ev P d y fr ae (.str m) av)(hs:l.all (· <128)=true/\m.all (· <128)=true):Iter P d (.zip x y) fr σ (.vals (jS l m)) av:=fun Γ cx env e target hc hz=>
 dB.ind (M:=fun target=>hG Γ d cx env fr σ (.vals (jS l m)) av target e) (fun es k Lf y_=>gu.ind (fun g l' p hc=>
 two.ind (M:=fun l'=>hG Γ d cx env fr σ (.vals (jS l m)) av (.Tuple es k Lf) (.Call g l' [] p)) (fun e e' hc=>eB (M:=fun g=>hG Γ d cx env fr σ (.vals (jS l m)) av (.Tuple es k Lf) (.Call g [e,e'] [] p)) (fun hg q A s π ρ Q a o=>by
  refine wpAny_Call_NameR (gO (v:=.type "zip") Γ.Y.gy a.D a.es (by decide) (by kernel_rfl) hg ?_);replace hc:=aR hc;haveI n1:=aL hc;replace hc:=aR hc;refine args_call (oU (hx Γ cx env e (aL (aR hc))).val (hy Γ cx env e' (aR (aR hc))).val) (lz n1 (aL hc)) a (machine (by intro a h;cases h)) fun dX aE ay aI aT aF az=>⟨trivial,?_⟩;obtain⟨eE,t,rfl,⟨JN,rfl⟩,m5,t',rfl,⟨BO,rfl⟩,rt⟩:=aT;obtain rfl:t'=[]:=rt;refine Al (sk hs.1) (sk hs.2) fun aY a1 a2 a3 a4 a5 up=>?_;generalize hn:ay.objs.size=n at a1 a2 a3 a4 a5 ⊢;have W:wJ (n+4) (n+2) (n+3) n (n+1) l m JN BO 0 aY:=⟨a1,a2,⟨_,_,a3⟩,a4,a5⟩
  have new:∀a,EU (n+4) (n+2) (n+3) n (n+1) a->ay.get? a=none:=fun a q=>by refine Heap.get?_none_of_le ?_;exact Rw hn (Ip n a q)
  haveI kk:Keeps π (fun a=>π a\/EU (n+4) (n+2) (n+3) n (n+1) a) aE aE ay aY:=.more (fun a z=>z.imp id (new a)) up
  haveI aX:=aF.keeps kk (fun a ob y_ e=>up a ob e) (fun a z m=>z.elim (fun z=>aF.a8 a z m) fun z=>(aF.mut m).elim fun ob q=>(nn ((new a z)▸q))) fun a z=>by
    rcases z with z|z
    ·exact(aF.there a z).elim fun ob e=>⟨ob,up a ob e⟩
    ·exact nT W a z
  exact wpAny_pyIter_zip a1 ((o.next az) _ _ _ aE aY aI (Dz a.rm.handled (HR n)) W aX (.up up) new)) (aL hc)) hc) hc) (hz rfl)
end
end
section
section
variable {T:Tab} {af:Program} {w:World}
variable {cx:Cx} {env:Env} {A:Around} {s:Shared} {π:Addr->Prop} {ρ:bZ} {σ:St} {fr aB:Fr}
theorem gv(S:aZ T π ρ s.heap σ)(C:iF cx env)(H:cu T cx env π ρ s.heap fr){x:Str}{i:Nat}{v:V}{v':Value}{Q:Unit->Shared->Prop}{E:Value->Shared->Prop}(e:cx.slot.lookup x=some i)
  (hk:cx.scope.names.lookup x=some .local)(rv:Rel T π ρ s.heap v v')
  (h:∀h' tk',aZ T π ρ h' σ->cu T cx env π ρ h' (fr.set i (some v))->aK (fun a=>a=env.locals) ρ s.heap ρ h'->Q () {s with heap:=h',toks:=tk'}):wpAny (model af w) A (storeName env x v') Q E s:=by
 obtain⟨m,hn,b⟩:=H.ns;refine wpAny_storeName_local (C.loc x hk) hn (fun h' xK hs=>?_) (Rw C.kind rfl);refine cps fun G kG=>?_;obtain⟨o,es,ep,ho,r⟩:=id xK;refine kG ((ku S H.a8 hs ho).elim fun S' k=>(h h' _ S' ⟨⟨_,xK,fun y j u ey ej ky=>?_⟩,fun y a ea=>?_,fun y j u ey ej ky=>?_,H.a8,H.cV⟩ (je rfl hs ho)))
 ·rcases get_set ej with⟨rfl,rfl⟩|⟨ne,ej⟩
  ·obtain rfl:=C.slots _ _ _ e ey;exact⟨v',if_pos rfl,rv.mono k _ _⟩
  ·haveI:y≠x:=fun z=>ne (by obtain rfl:=Eq.symm z;rw[e]at ey;replace ey:=oj ey;subst ey;rfl);refine Rw (if_neg this) (?_);obtain⟨u',q,r⟩:=b y j u ey ej ky;exact⟨u',q,r.mono k _ _⟩
 ·exact(H.cells y a ea).elim fun u q=>⟨u,q.sameBut hs (C.off y a ea)⟩
 ·rcases get_set ej with⟨rfl,rfl⟩|⟨ne,ej⟩
  ·obtain rfl:=C.slots _ _ _ e ey;rw[hk]at ky;rcases ky with ky|ky<;>cases ky
  ·obtain⟨a,u',ea,ha,r⟩:=H.held y j u ey ej ky;exact⟨a,u',ea,ha.sameBut hs (C.off y a ea),r.mono k _ _⟩
noncomputable def qz(cx:Cx):List Str->List Nat->Prop
 |[],[]=>True
 |x::r,i::t=>cx.slot.lookup x=some i/\cx.scope.names.lookup x=some .local/\qz cx r t
 |_,_=>False
theorem nG:∀{es:List Expr} {ts:List Str},namesOf es ts=true->(assignEach es env).length=ts.length/\(assignEach es env).findIdx? (·.1)=none
 |[],[]=>@fun _=>⟨rfl,rfl⟩
 |[],_::_=>@fun h=>absurd h bf
 |_::_,[]=>@fun h=>absurd h bf
 |e::es,x::ts=>@fun h=>by haveI oo:=nG (aR h);refine cG.ind (M:=fun e=>(assignEach (e::es) env).length=(x::ts).length/\(assignEach (e::es) env).findIdx? (·.1)=none) (fun y p y_=>⟨congrArg (· +1) oo.1,?_⟩) (aL h);refine Rw (findIdx?_cons) (?_);simp[oo.2]
theorem qg:∀{tg:List Nat} {l:List V} {fr aB:Fr},gC tg l fr=some aB->l.length=tg.length
 |[],[],_,_,_=>rfl
 |_::tg,_::l,_,_,h=>by simp only[length_cons,qg (tg:=tg) h]
theorem uL:∀{ts:List Str} {tg:List Nat},qz cx ts tg->ts.length=tg.length
 |[],[],_=>rfl
 |_::ts,_::tg,h=>by simp only[length_cons,uL h.2.2]
theorem ma(C:iF cx env):∀{es:List Expr} {ts:List Str} {tg:List Nat} {l:List V} {vs:List Value} {fr aB:Fr} {s:Shared} {Q:Unit->Shared->Prop},namesOf es ts=true->qz cx ts tg->gC tg l fr=some aB->aZ T π ρ s.heap σ->cu T cx env π ρ s.heap fr->bj T π ρ s.heap l vs->(∀h' tk',aZ T π ρ h' σ->cu T cx env π ρ h' aB->aK (fun a=>a=env.locals) ρ s.heap ρ h'->Q () {s with heap:=h',toks:=tk'})->wpAny (model af w) A (assignInOrder ((assignEach es env).map (·.2)) vs) Q aU s
 |[],[]=>by
  rename_i tg l vs fr aB s Q;intro hn ht hs S H r h
  cases tg with
  |cons=>exact ht.elim
  |nil=>
   cases l with
   |cons=>exact nn hs
   |nil=>replace hs:=oj hs;obtain rfl:=Eq.symm hs;obtain rfl:vs=[]:=r;exact wpAny_pure (h s.heap s.toks S H (aK.refl _ _ _))
 |[],_::_=>@fun hn _ _ _ _ _ _=>absurd hn bf
 |_::_,[]=>@fun hn _ _ _ _ _ _=>absurd hn bf
 |e::es,x::ts=>by
  rename_i tg l vs fr aB s Q;intro hn ht hs S H r h
  cases tg with
  |nil=>exact ht.elim
  |cons i tg=>
   cases l with
   |nil=>exact nn hs
   |cons v l=>obtain⟨v',dX,rfl,rv,rr⟩:=r;refine cG.ind (M:=fun e=>wpAny (model af w) A (assignInOrder ((assignEach (e::es) env).map (·.2)) (v'::dX)) Q aU s) (fun y pos hy=>?_) (aL hn);obtain rfl:=Eq.symm (eq_of_beq hy);exact wpAny_bind (wpAny_holding (wpAny_assign_Name (gv S C H ht.1 ht.2.1 rv fun ay aI aF Uv az=>(ma C (aR hn) ht.2.2 hs aF Uv (rr.mono (az.keeps fun a e=>e▸H.a8) _ _) fun aY bg aX om aP=>h aY bg aX om (az.trans aP)))))
theorem rU(hh:A.handled=none)(C:iF cx env){target:Expr}{many:Bool}{ts:List Str}{tg:List Nat}{v:V}{v':Value}{Q:Unit->Shared->Prop}(hn:tb many target ts=true)(ht:qz cx ts tg)(hb:eD tg many v fr=some aB)
  (S:aZ T π ρ s.heap σ)(H:cu T cx env π ρ s.heap fr)(r:Rel T π ρ s.heap v v')
  (h:∀h' tk',aZ T π ρ h' σ->cu T cx env π ρ h' aB->aK (fun a=>a=env.locals) ρ s.heap ρ h'->Q () {s with heap:=h',toks:=tk'}):wpAny (model af w) A (assign target env v') Q aU s:=by
 cases many with
 |false=>
  haveI hb:=hb;refine one.ind (M:=fun ts=>qz cx ts tg->wpAny (model af w) A (assign target env v') Q aU s) (fun x hn ht=>cG.ind (M:=fun target=>wpAny (model af w) A (assign target env v') Q aU s) (fun y pos hy=>?_) hn) hn ht;obtain rfl:=Eq.symm (eq_of_beq hy)
  cases tg with
  |nil=>exact ht.elim
  |cons i tg=>
   obtain⟨h1,h2,h3⟩:=ht
   cases tg with
   |cons=>exact h3.elim
   |nil=>obtain rfl:=oj hb;exact wpAny_assign_Name (gv S C H h1 h2 r h)
 |true=>
  refine dB.ind (M:=fun target=>wpAny (model af w) A (assign target env v') Q aU s) (fun es k pos hn=>?_) hn
  cases v with
  |aj l=>
   haveI hb:=hb;obtain⟨a,vs,n,rfl,f,ho,rr⟩:=r;haveI oo:=nG (env:=env) hn;refine wpAny_assign_Tuple hh (isTup ho) ?_ oo.2 fun h' he=>?_
   ·exact Rw oo.1 (Rw (uL ht) (Rw size_toArray (Rw (aQ rr) (Rw (qg hb) rfl))))
   ·have up:=fun b o e=>he b o (ne_of_lt (Heap.lt_size e)) e;exact ma C hn ht hb (S.up up) (H.keeps (.up up) (fun y_ x=>x) (fun o e=>up _ o e) fun x c o y_ e=>up _ o e) (rr.mono (.up up) _ _) fun eM ki Zj Y8 g=>h eM ki Zj Y8 ((aK.up up).trans g)
  |_=>exact nn hb
end
end
section
noncomputable def cw(env:Env):List (Str×NameKind)->List (Str×Addr)->List (Str×Addr)
 |[],acc=>acc
 |(n,k)::r,acc=>cw env r (if k==.free then(n,(env.cells.lookup n).getD 0)::acc else acc)
theorem u7(env:Env)(n:Str)(k:NameKind)(r:List (Str×NameKind))(acc:List (Str×Addr)):cw env ((n,k)::r) acc=cw env r (if k==.free then(n,(env.cells.lookup n).getD 0)::acc else acc):=rfl
theorem iU{env:Env}:∀(l:List (Str×NameKind)) (acc:List (Str×Addr)),(∀p∈l,p.2=.free->∃c,env.cells.lookup p.1=some c)->forIn l acc (fun(x:Str×NameKind) cs=>if(x.2==.free)=true then(do let c <-cellOf env x.1;pure (ForInStep.yield ((x.1,c)::cs)))else(pure (ForInStep.yield cs):Sem _))=pure (cw env l acc)
 |[]=>@fun acc _=>Rw forIn_nil rfl
 |(n,k)::r=>@fun acc h=>by
  rw[forIn_cons];by_cases hk:(k==NameKind.free)=true
  ·obtain⟨c,hc⟩:=h (n,k) mem_cons_self (by simpa using hk);simp only[hk,if_true];haveI e:cellOf env n=pure c:=by unfold cellOf;exact Rw hc rfl
   refine Rw e (?_);simp only[pure_bind];rw[(fun acc=>iU r acc fun p hp=>h p (mem_cons_of_mem _ hp))];simp only[u7,hk,if_true,hc,Option.getD_some]
  ·have xS:(k==NameKind.free)=false:=by simpa using hk
   simp only[xS,Bool.false_eq_true,if_false,pure_bind];rw[(fun acc=>iU r acc fun p hp=>h p (mem_cons_of_mem _ hp))];simp only[u7,xS,Bool.false_eq_true,if_false]
theorem sP{scope:Scope}{env:Env}(h:∀p∈scope.names,p.2=.free->∃c,env.cells.lookup p.1=some c):closureFor scope env=pure (cw env scope.names []):=by haveI:=iU scope.names [] h;unfold closureFor;simp only[bind_pure_comp]at this ⊢;rw[bind_pure];exact this
theorem nB{env:Env}{x:Str}:∀(l:List (Str×NameKind)) (acc:List (Str×Addr)),x∉l.map (·.1)->(cw env l acc).lookup x=acc.lookup x
 |[]=>@fun acc _=>rfl
 |(n,k)::r=>@fun acc h=>by
  refine(nB r _ fun z=>h (mem_cons_of_mem _ z)).trans ?_;by_cases q:(k==.free)=true
  ·exact Rw (if_pos q) (Rw lookup_cons (Rw (beq_eq_false_iff_ne.mpr fun z=>h (mem_cons.mpr (.inl z))) rfl))
  ·exact Rw (if_neg q) rfl
theorem iN{env:Env}{x:Str}:∀(l:List (Str×NameKind)) (acc:List (Str×Addr)),(l.map (·.1)).Nodup->acc.lookup x=none->(cw env l acc).lookup x=if l.lookup x=some .free then some ((env.cells.lookup x).getD 0)else none
 |[]=>@fun acc _ ha=>ha.trans (if_neg fun e=>nn e).symm
 |(n,k)::r=>@fun acc nd ha=>by
  replace nd:=nodup_cons.mp nd;by_cases hx:x=n
  ·subst hx;refine(nB r _ nd.1).trans (Rw lookup_cons_self ?_);by_cases hk:k=.free
   ·subst hk;exact(lookup_cons_self (k:=x)).trans (if_pos rfl).symm
   ·exact Rw (if_neg (fun e=>hk (eq_of_beq e))) (Rw (if_neg fun q=>hk (oj q)) ha)
  ·haveI hl:∀{α:Type} {b:α} {es:List (Str×α)},List.lookup x ((n,b)::es)=List.lookup x es:=by intro α b es;exact Rw lookup_cons (Rw (beq_eq_false_iff_ne.mpr hx) rfl)
   refine Rw hl (iN r _ nd.2 ?_);by_cases q:(k==.free)=true
   ·exact Rw (if_pos q) (Rw hl ha)
   ·exact Rw (if_neg q) ha
theorem gm{scope:Scope}{env:Env}(x:Str):(relabel scope env).names.lookup x=(scope.names.lookup x).map fun k=>if(k==.free&&env.scope.kind==.function&&env.kindOf x==some .cell)=true then .cell else k:=by
 haveI:∀l:List (Str×NameKind),(l.map fun(n,k)=>if(k==NameKind.free&&env.scope.kind==.function&&env.kindOf n==some .cell)=true then(n,NameKind.cell)else(n,k)).lookup x=
   (l.lookup x).map fun k=>if(k==.free&&env.scope.kind==.function&&env.kindOf x==some .cell)=true then .cell else k:=by
  intro l
  induction l with
  |nil=>rfl
  |cons p r ih=>
   obtain⟨n,k⟩:=p;simp only[map_cons];by_cases hx:x=n
   ·subst hx
    split<;>rename_i hc<;>simp only[lookup_cons,beq_self_eq_true,Option.map_some,hc]<;>simp
   ·split<;>simp only[lookup_cons,(beq_eq_false_iff_ne.mpr hx),ih]
 exact this scope.names
theorem kX{P:Str->Bool}{x:Str}:∀(l:List (Str×Nat)),(l.filter fun p=>P p.1).lookup x=if P x=true then l.lookup x else none
 |[]=>by simp
 |(n,i)::r=>by
  haveI ih:=kX (P:=P) (x:=x) r;by_cases hx:x=n
  ·subst hx;by_cases hp:P x=true
   ·refine Rw (filter_cons_of_pos (by simpa using hp)) (Rw (if_pos hp) (?_));simp
   ·exact Rw (filter_cons_of_neg (by simpa using hp)) (Rw ih (Rw (if_neg hp) (Rw (if_neg hp) rfl)))
  ·haveI hb:=beq_eq_false_iff_ne.mpr hx;by_cases hp:P n=true
   ·refine Rw (filter_cons_of_pos (by simpa using hp)) (Rw lookup_cons (Rw hb (Rw ih (?_))));simp only[lookup_cons,hb]
   ·refine Rw (filter_cons_of_neg (by simpa using hp)) (Rw ih (?_));simp only[lookup_cons,hb]
theorem cJ{ts:List Str}:∀{tg:List Nat} {x:Str} {i:Nat},(ts.zip tg).lookup x=some i->x∈ts/\i∈tg:=by intro tg x i h;exact of_mem_zip (mem_of_lookup h)
theorem zip_inj:∀{ts:List Str} {tg:List Nat} {x y:Str} {i:Nat},tg.Nodup->(ts.zip tg).lookup x=some i->(ts.zip tg).lookup y=some i->x=y
 |[],_=>by intro _ h _;simp at h
 |_::_,[]=>by intro _ h _;simp at h
 |t::ts,j::tg=>by
  rename_i x y i;intro nd h h';rw[nodup_cons]at nd;simp only[zip_cons_cons,lookup_cons]at h h';by_cases hx:x=t<;>by_cases hy:y=t
  ·exact Rw hx (Rw hy rfl)
  ·subst hx;simp only[beq_self_eq_true,Option.some.injEq]at h;rw[beq_eq_false_iff_ne.mpr hy]at h';exact absurd (h▸(cJ h').2) nd.1
  ·subst hy;simp only[beq_self_eq_true,Option.some.injEq]at h';rw[beq_eq_false_iff_ne.mpr hx]at h;exact absurd (h'▸(cJ h).2) nd.1
  ·haveI h:=(beq_eq_false_iff_ne.mpr hx)▸h;haveI h':=(beq_eq_false_iff_ne.mpr hy)▸h';exact zip_inj nd.2 h h'
theorem u1{cx:Cx}{rest:List (Str×Nat)}(hl:∀t,t∈([]:List Str)->True):∀{ts:List Str} {tg:List Nat} {slot:List (Str×Nat)},ts.length=tg.length->ts.Nodup->(∀x∈ts,cx.scope.names.lookup x=some .local)->(∀x i,(ts.zip tg).lookup x=some i->cx.slot.lookup x=some i)->qz cx ts tg
 |[],[],_,_,_,_,_=>trivial
 |t::ts,i::tg,_,h,nd,hk,hs=>by rw[nodup_cons]at nd;refine⟨hs t i (by simp),hk t mem_cons_self,u1 (rest:=rest) hl (slot:=[]) (by simpa using h) nd.2 (fun x hx=>hk x (mem_cons_of_mem _ hx)) fun x j e=>hs x j ?_⟩;haveI hx:x≠t:=fun z=>nd.1 (z▸(cJ e).1);exact Rw zip_cons_cons (Rw lookup_cons (Rw (beq_eq_false_iff_ne.mpr hx) e))
section
variable {cx:Cx} {env:Env} {ts:List Str} {tg:List Nat} {sc:Scope} {C:Addr}
structure ry(cx:Cx)(env:Env)(ts:List Str)(tg:List Nat)(sc:Scope):Prop where
 len:ts.length=tg.length
 kind:sc.kind=.function
 ndt:ts.Nodup
 nd:(sc.names.map (·.1)).Nodup
 loc:∀x∈ts,sc.names.lookup x=some .local
 free:∀x,sc.names.lookup x=some .free->cx.scope.names.lookup x=some .cell
 EH:∀p∈sc.names,p.2≠.cell
 LS:∀p∈sc.names,p.2=.free->cx.scope.names.lookup p.1=some .cell
 V7:∀p∈sc.names,p.2=.local->sc.names.lookup p.1=some .local
 OJ:tg.Nodup
 apart:∀x i,cx.slot.lookup x=some i->i∉tg
theorem iM:∀{l:List (Str×NameKind)} {n:Str} {k:NameKind},(l.map (·.1)).Nodup->(n,k)∈l->l.lookup n=some k
 |(m,j)::r,n,k,nd,h=>by
  simp only[map_cons,nodup_cons]at nd;refine Or.elim (mem_cons.mp h) (fun e=>?_) fun h=>?_
  ·cases e;simp
  ·have:n≠m:=fun z=>nd.1 (z▸List.mem_map_of_mem h);exact Rw lookup_cons (Rw (beq_eq_false_iff_ne.mpr this) (iM nd.2 h))
theorem A2(hl:ts.length=tg.length)(hc:CL cx ts sc=true)(hf:yZ cx tg=true):ry cx env ts tg sc:=by
 haveI h5:=of_decide_eq_true (aR hc)
 have names:∀p∈sc.names,p.2=.local\/(p.2=.free/\cx.scope.names.lookup p.1=some .cell)\/p.2=.globalImplicit:=fun p hp=>by
  haveI q:=(all_eq_true.mp (aR (aL (aL hc)))) p hp;revert q;obtain⟨y,k⟩:=p
  cases k with
  |«local»=>exact fun _=>.inl rfl
  |free=>exact fun q=>.inr (.inl ⟨rfl,eq_of_beq (aL (aL q))⟩)
  |globalImplicit=>exact fun _=>.inr (.inr rfl)
  |_=>exact fun q=>absurd q bf
 refine⟨hl,eq_of_beq (aL (aL (aL (aL hc)))),of_decide_eq_true (aR (aL (aL (aL hc)))),h5,fun x hx=>eq_of_beq (all_eq_true.mp (aR (aL hc)) x hx),fun x e=>?_,fun p hp q=>?_,fun p hp q=>?_,fun p hp q=>?_,of_decide_eq_true (aL hf),fun x i e hi=>?_⟩
 ·rcases names (x,.free) (mem_of_lookup e)with q|q|q
  ·cases q
  ·exact q.2
  ·cases q
 ·rcases names p hp with z|z|z
  ·haveI z:=q▸z;cases z
  ·haveI z:=q▸z;cases z.1
  ·replace z:=q▸z;cases z
 ·rcases names p hp with z|z|z
  ·replace z:=q▸z;cases z
  ·exact z.2
  ·cases(q▸z)
 ·exact iM h5 (Lw q hp)
 ·haveI:=all_eq_true.mp (all_eq_true.mp (aR hf) i hi) (x,i) (mem_of_lookup e);simp at this
variable (I:ry cx env ts tg sc) (E:iF cx env)
include I E
theorem uo:closureFor sc env=pure (cw env sc.names []):=sP fun p hp q=>(E.cell p.1 (.inl (I.LS p hp q))).2
theorem ia{x:Str}{c:Addr}(h:(cw env sc.names []).lookup x=some c):sc.names.lookup x=some .free/\env.cells.lookup x=some c:=by
 rw[iN _ _ I.nd rfl]at h
 split at h
 ·rename_i q;obtain⟨_,c',hc⟩:=E.cell x (.inl (I.free x q));rw[hc]at h;replace h:=oj h;subst h;exact⟨q,hc⟩
 ·exact nn h
theorem jz{x:Str}{i:Nat}(h:(fC cx ts tg sc).slot.lookup x=some i):((ts.zip tg).lookup x=some i)\/(sc.names.lookup x=some .free/\cx.slot.lookup x=some i):=by
 unfold fC at h;rw[lookup_append]at h
 cases q:(ts.zip tg).lookup x with
 |some j=>rw[q]at h;exact .inl h
 |none=>
  rw[q,Option.none_or]at h;rw[(kX (P:=fun n=>sc.names.lookup n==some .free) (x:=x) cx.slot)]at h
  split at h
  ·rename_i z;exact .inr ⟨by simpa using z,h⟩
  ·exact nn h
theorem As(hC:∀x c,env.cells.lookup x=some c->c≠C):iF (fC cx ts tg sc) (compEnvC sc (cw env sc.names []) C env) where
 kind:=I.kind
 globals:=E.globals
 builtins:=E.builtins
 loc:=fun x e=>by show(relabel sc env).names.lookup x=_;rw[gm,show sc.names.lookup x=some .local from e];rfl
 glob:=fun x e=>by show(relabel sc env).names.lookup x=_;rw[gm,show sc.names.lookup x=some .globalImplicit from e];rfl
 cell:=fun x e=>by
  rcases e with e|e
  ·exact absurd rfl (I.EH _ (mem_of_lookup e))
  ·haveI e':sc.names.lookup x=some .free:=e;refine cps fun G kG=>?_;obtain⟨k,c,hc⟩:=E.cell x (.inl (I.free x e'));refine kG ⟨?_,c,?_⟩
   ·show(relabel sc env).names.lookup x=_;rw[gm,e'];simp[E.kind,k]
   ·exact Rw (iN _ _ I.nd rfl) (Rw (if_pos e') (Rw hc rfl))
 slots:=fun x y i e e'=>by
  rcases jz I E e with q|⟨_,q⟩<;>rcases jz I E e' with q'|⟨_,q'⟩
  ·exact zip_inj I.OJ q q'
  ·exact absurd (cJ q).2 (I.apart y i q')
  ·exact absurd (cJ q').2 (I.apart x i q)
  ·exact E.slots x y i q q'
 apart:=fun x y c e e'=>E.apart x y c (ia I E e).2 (ia I E e').2
 off:=fun x c e=>hC x c (ia I E e).2
theorem AD:qz (fC cx ts tg sc) ts tg:=u1 (rest:=[]) (fun y_ y_=>tr) (slot:=[]) I.len I.ndt I.loc fun x i e=>Rw lookup_append (Rw e rfl)
end
noncomputable def clear:List Nat->Fr->Fr
 |[],fr=>fr
 |i::r,fr=>clear r (fr.set i none)
theorem clear_1(i:Nat)(r:List Nat)(fr:Fr):clear (i::r) fr=clear r (fr.set i none):=rfl
theorem sS{i:Nat}{x:Option V}:∀{tg:List Nat} {fr:Fr},i∉tg->(clear tg fr).set i x=clear tg (fr.set i x)
 |[]=>@fun _=>rfl
 |j::r=>by intro h;simp only[mem_cons,not_or]at h;simp only[clear_1];exact Rw (sS h.2) (Rw (set_comm _ _ h.1) rfl)
theorem mr{j:Nat}:∀{tg:List Nat} {fr:Fr},j∉tg->(clear tg fr)[j]?=fr[j]?
 |[],_,_=>rfl
 |i::r,fr,h=>by simp only[mem_cons,not_or]at h;exact Rw (mr h.2) (Rw (getElem?_set_ne (Ne.symm h.1)) rfl)
theorem j5{j:Nat}:∀{tg:List Nat} {fr:Fr},j∈tg->(clear tg fr)[j]?=none\/(clear tg fr)[j]?=some none
 |i::r,fr,h=>by
  simp only[clear_1];by_cases hr:j∈r
  ·exact j5 hr
  ·rcases mem_cons.mp h with rfl|h
   ·refine Rw (mr hr) (?_);by_cases l:j<fr.length
    ·exact Rw (getElem?_set_self l) (.inr rfl)
    ·exact Rw (getElem?_eq_none (by simpa using l)) (.inl rfl)
   ·exact absurd h hr
theorem iY:∀{tg:List Nat} {l:List V} {fr:Fr},tg.Nodup->gC tg l (clear tg fr)=gC tg l fr
 |[],[]=>@fun _=>rfl
 |[],_::_=>@fun _=>rfl
 |_::_,[]=>@fun _=>rfl
 |i::r,v::l=>by intro nd;rw[nodup_cons]at nd;simp only[Dj,clear_1];rw[sS nd.1,set_set,iY nd.2]
theorem uf{tg:List Nat}{many:Bool}{v:V}{fr:Fr}(nd:tg.Nodup):eD tg many v (clear tg fr)=eD tg many v fr:=by
 cases many with
 |false=>exact iY nd
 |true=>cases v with
  |aj l=>exact iY nd
  |_=>rfl
end
section
structure wy(P:Prog)(d:Nat)(x:X)(fr:Fr)(σ:St)(b:Bool)(ab:St):Prop where
 ev:Ev P d x fr σ (.bool b) ab
 yes:iV x=true->b=true/\ab=σ
inductive fy(step:V->St->Option V->St->Prop)(it:It):Nat->Nat->List V->St->List V->St->Prop where
 |stop {n i:Nat} {acc:List V} {σ:St} (h:it.nx σ i=some none):fy step it n i acc σ acc σ
 |some {n i:Nat} {acc res:List V} {σ ae ab:St} {v x:V} (h:it.nx σ i=some (some v)) (e:step v σ (some x) ae) (l:acc.length<lim) (r:fy step it n (i+1) (acc++[x]) ae res ab):fy step it (n+1) i acc σ res ab
 |none {n i:Nat} {acc res:List V} {σ ae ab:St} {v:V} (h:it.nx σ i=some (some v)) (e:step v σ none ae) (r:fy step it n (i+1) acc ae res ab):fy step it (n+1) i acc σ res ab
def bV(P:Prog)(d:Nat)(elt:X)(tg:List Nat)(many:Bool)(cond:X)(fr:Fr)(v:V)(σ:St)(o:Option V)(ab:St):Prop:=match o with
 |some x=>gW fun aG ae=>eF (eD tg many v fr=some aG) (wy P d cond aG σ true ae) (Ev P d elt aG ae x ab)
 |none=>∃aG,eD tg many v fr=some aG/\wy P d cond aG σ false ab
section
variable {T:Tab} {B:Heap} {af:Program} {w:World}
theorem wB{A:Around}{R:Result->Shared->Prop}{s:Shared}{elt target iter:Expr}{ifs:List Expr}{scope:Scope}{pos:Pos}{it acc:Value}{env:Env}(I:Nat->Shared->Prop)
  (turn:∀n s,I n s->wpAny (model af w) A (pyNext it) (fun r dT=>match r with
   |none=>R (.ok .next) dT
   |some v=>wpAny (model af w) A (letOwnedTupleGo target it v) (fun y_ jI=>wpAny (model af w) A (assign target env v) (fun y_ j8=>
     wpAny (model af w) A (forIn ifs true fun c r=>if r=true then do let ok <-isTrue c env (eval c env);pure (ForInStep.yield ok)else pure (ForInStep.yield r)) (fun ok dQ=>
      if ok=true then wpAny (model af w) A (eval elt env) (fun x qh=>
       wpAny (model af w) A (PySem.call (.builtin "list.append") [acc,x]) (fun y_ qH=>∃m,m<n/\I m qH) aU qh) aU dQ
      else∃m,m<n/\I m dQ) aU j8) aU jI) aU dT) aU s)
  (n:Nat)(h:I n s):codeAny (model af w) A (.compLoop (.ListComp elt [⟨target,iter,ifs,0⟩] scope pos) 0 it acc env) R s:=by
 refine codeAny_loop rfl I (fun n s hI=>?_) n h;show wpAny _ A ((compTurn (.ListComp elt [⟨target,iter,ifs,0⟩] scope pos) 0 it acc env).onRaise (fun x=>do noteFrame x env;theTreesLotGoes x)) _ _ s;refine wpAny_noted ?_;rw[compTurn_list];have no:∀{α:Type} {t:Sem α} {Q:α->Shared->Prop} {E:Value->Shared->Prop} {s:Shared},wpAny (model af w) A t Q aU s->wpAny (model af w) A t Q E s:=fun h=>wpAny_mono h (fun y_ y_ x=>x) fun y_ y_ x=>x.elim;refine wpAny_bind (wpAny_standAt (wpAny_bind (no (wpAny_mono (turn n s hI) (fun r dT ay=>?_) fun y_ y_ x=>x))))
 cases r with
 |none=>exact wpAny_pure ay
 |some v=>
  refine wpAny_bind (no (wpAny_mono ay (fun y_ jI Bn=>?_) fun y_ y_ x=>x));refine wpAny_bind (no (wpAny_mono Bn (fun y_ j8 aY=>?_) fun y_ y_ x=>x));refine wpAny_bind (no (wpAny_mono aY (fun ok dQ bA=>?_) fun y_ y_ x=>x))
  cases ok with
  |false=>exact wpAny_pure ⟨rfl,bA⟩
  |true=>exact wpAny_bind (wpAny_bind (no (wpAny_mono bA (fun x qh qj=>wpAny_bind (no (wpAny_mono qj (fun y_ qH fB=>wpAny_pure (wpAny_pure ⟨rfl,fB⟩)) fun y_ y_ x=>x))) fun y_ y_ x=>x)))
theorem Keeps.trans{π bY FX:Addr->Prop}{ρ aE bp:bZ}{h ay aY:Heap}(a:Keeps π bY ρ aE h ay)(b:Keeps bY FX aE bp ay aY):Keeps π FX ρ bp h aY where
 fixed:=fun x o e f=>b.fixed x o (a.keep x o e f) (a.fixed x o e f)
 keep:=fun x o e f=>b.keep x o (a.keep x o e f) (a.fixed x o e f)
 len:=le_trans a.len b.len
 old:=fun n p l e=>a.old n p l (b.old n p (lt_of_lt_of_le l a.len) e)
theorem sI{π ω:Addr->Prop}{ρ aA:bZ}{h h':Heap}(g:aK bG ρ h aA h')(w:∀a,ω a->h.get? a=none):Keeps π (fun a=>π a\/ω a) ρ aA h h' where
 fixed:=fun a o e f z=>by
  rcases z with(z|z)|z
  ·exact f (.inl z)
  ·haveI e:=(w a z)▸e;exact nn e
  ·exact f (.inr (g.mut e z))
 keep:=fun a o e f=>g.keep a o e (fun m=>f (.inr m)) fun x=>x
 len:=g.len
 old:=g.old
theorem Dy.keeps{π de:Addr->Prop}{ρ aA:bZ}{h h':Heap}{σ ab:St}(D:Dy T B π ρ h σ)(S:aZ T de aA h' ab)(k:Keeps π de ρ aA h h'):Dy T B de aA h' ab:=⟨S,fun b o e=>k.keep b o (D.ao b o e) (D.jW b o e),fun b o e=>k.fixed b o (D.ao b o e) (D.jW b o e)⟩
theorem AM{cx:Cx}{env:Env}{ts:List Str}{tg:List Nat}{sc:Scope}{C:Addr}{π:Addr->Prop}{ρ:bZ}{h:Heap}{fr:Fr}{m:Str->Option Value}(I:ry cx env ts tg sc)(E:iF cx env)(V:cu T cx env π ρ h fr)(hn:h.Ns C m)(pC:π C):cu T (fC cx ts tg sc) (compEnvC sc (cw env sc.names []) C env) π ρ h (clear tg fr) where
 ns:=⟨m,hn,fun x i v e q hl=>by
  rcases jz I E e with z|⟨z,_⟩
  ·rcases j5 (cJ z).2 with y|y<;>(rw[y]at q;cases q)
  ·haveI mN:=hl
   haveI mN:=z▸mN;exact nomatch mN⟩
 cells:=fun x c e=>V.cells x c (ia I E e).2
 held:=fun x i v e q hl=>by
  rcases jz I E e with z|⟨z,z'⟩
  ·rcases j5 (cJ z).2 with y|y<;>(rw[y]at q;cases q)
  ·rw[mr (I.apart x i z')]at q;obtain⟨c,v',ec,hc,r⟩:=V.held x i v z' q (.inl (I.free x z));refine⟨c,v',?_,hc,r⟩;exact Rw (iN _ _ I.nd rfl) (Rw (if_pos z) (Rw ec rfl))
 a8:=pC
 cV:=fun x c e=>V.cV x c (ia I E e).2
end
theorem Iz{cx:Cx}{tg:List Nat}{many:Bool}{src:Src}{ts:List Str}{t:Expr}{sc:Scope}(h:Bh cx tg many src ts t sc=true)(hz:sO src=true):yd t=true:=by haveI h1:=aL h;haveI h2:=aR (aR (aR (aR h)));rw[hz]at h2;obtain rfl:many=true:=h2;exact dB.ind (M:=fun t=>yd t=true) (fun y_ y_ y_ y_=>rfl) h1
section
variable {P:Prog} {d:Nat} {fr:Fr} {σ ae av:St}
theorem Ds{cond:X}{b:Bool}(hc:wy P d cond fr σ b ae){Γ:Ctx P}{cx:Cx}{ifs:List Expr}{env:Env}(hk:(match ifs with|[]=>iV cond|e::r=>bT r&&bk Γ.T Γ.N cx cond e)=true){A:Around}{s:Shared}{π:Addr->Prop}{ρ:bZ}{Q:Bool->Shared->Prop}
  (a:At Γ d cx env A s π ρ σ fr)(o:ta Γ π ρ s b ae Q):wpAny (model Γ.af Γ.w) A (forIn ifs true fun c r=>if r=true then do let ok <-isTrue c env (eval c env);pure (ForInStep.yield ok)else pure (ForInStep.yield r)) Q aU s:=by
 cases ifs with
 |nil=>obtain⟨rfl,rfl⟩:=hc.yes hk;exact wpAny_tests_nil (o ρ s.heap s.toks a.D.sig (aK.refl _ _ _))
 |cons e r=>
  cases r with
  |nil=>exact wpAny_tests_one ((hc.ev Γ cx env e (aR hk)).lU b rfl _ _ _ _ _ a o)
  |cons=>exact absurd (aL hk) bf
set_option tactic.hygienic true in
theorem yh{elt:X}{tg:List Nat}{many:Bool}{src:Src}{cond:X}{it:It}{k:Nat}{res:List V}(hs:Iter P d src fr σ it ae)(hR:fy (bV P d elt tg many cond fr) it k 0 [] ae res av)
  {Γ:Ctx P}{cx:Cx}{env:Env}{e:Expr}{target iter:Expr}{ifs:List Expr}{sc:Scope}{pos:Pos}{ts:List Str}
  (ux:Bh cx tg many src ts target sc=true)(GU:yy Γ.T Γ.N cx src iter=true)(hc4:bk Γ.T Γ.N (fC cx ts tg sc) elt e=true)(Zb:(match ifs with|[]=>iV cond|e::r=>bT r&&bk Γ.T Γ.N (fC cx ts tg sc) cond e)=true)
  {A:Around}{s:Shared}{π:Addr->Prop}{ρ:bZ}{use:Option (Value->Sem Unit)}{Q:Value->Shared->Prop}(a:At Γ d cx env A s π ρ σ fr)
  (Hj:∀x,foldedSetIterable iter env x=pure x)
  (o:∀D C v' aA h' tk' m,v'=.ref D->C≠D->h'.Ns C m->Rel Γ.T (fun x=>π x\/x=C) aA h' (.lst res) v'->aZ Γ.T (fun x=>π x\/x=C) aA h' av->aK bG ρ s.heap aA h'->s.heap.get? C=none->compPost (model Γ.af Γ.w) A aU use Q v' C (.ok .next) {s with heap:=h',toks:=tk'}):wpAny (model Γ.af Γ.w) A (comprehension (.ListComp e [⟨target,iter,ifs,0⟩] sc pos) sc env (firstIterPos [⟨target,iter,ifs,0⟩] pos) (newList []) false (eval iter env) use) Q aU s:=by
 have I:ry cx env ts tg sc:=A2 (eq_of_beq_eq_true (aL (aR ux))) (aL (aR (aR ux))) (aL (aR (aR (aR ux))));have E:=a.es;refine wpAny_comprehension_free rfl Hj (uo I E) I.kind I.V7 (hs Γ cx env iter target GU (Iz ux) _ _ _ _ _ a fun J ω W aE ay aI wk w0 aF az aG=>(lG ?_ ((zero_le _))));refine wpAny_newFunctionEnv (fun x hx=>I.EH x hx) (by intro y hy;simp at hy) (fun bA DD Mm=>?_) I.kind;generalize By:ay.push {cls:=.type "list",data:=.seq ([]:List Value).toArray}=om at DD Mm ⊢;have sC:om.objs.size=ay.objs.size+1:=by rw[<-By,Heap.size_push]
 show codeAny (model Γ.af Γ.w) A (.compStart (.ListComp e [⟨target,iter,ifs,0⟩] sc pos) 0 (.ref J) (.ref ay.objs.size) (compEnvC sc (cw env sc.names []) om.objs.size env)) (compPost (model Γ.af Γ.w) A aU use Q (.ref ay.objs.size) om.objs.size) _;haveI nD:ay.get? ay.objs.size=none:=cm _;have nC:ay.get? om.objs.size=none:=Rw sC (Heap.get?_none_of_le (le_succ _));generalize Zd:ay.objs.size=D at nD sC ⊢;generalize hCC:om.objs.size=C at nC sC DD Mm ⊢;have CD:C≠D:=Rw sC (ne_of_gt (lt_succ_self _));have jT:=az.lH nC;have Cv:∀x,ω x->∃ob,ay.get? x=some ob:=fun x z=>aF.there x (.inr z);have Hz:¬ω C:=fun z=>by refine(Cv C z).elim fun ob q=>?_;rw[nC]at q;exact nn q
 have LY:¬ω D:=fun z=>by refine(Cv D z).elim fun ob q=>?_;rw[nD]at q;exact nn q
 have vX:=fun x z=>a.D.sig.there x z;have Iy:¬π C:=fun z=>by refine(vX C z).elim fun ob q=>?_;rw[jT]at q;exact nn q
 have Lv:¬π D:=fun z=>by refine(vX D z).elim fun ob q=>?_;rw[(az.lH nD)]at q;exact nn q
 have Gh:∀x,π x->¬ω x:=fun x z y=>by refine(vX x z).elim fun ob q=>?_;rw[aG x y]at q;exact nn q
 haveI si:∀b ob,ay.get? b=some ob->om.get? b=some ob:=fun b ob q=>Lw By (Heap.get?_push_of_some _ q)
 have E8:∀b ob,om.get? b=some ob->bA.get? b=some ob:=fun b ob q=>by haveI:b≠C:=Lw hCC (ne_of_lt (Heap.lt_size q));exact Mm.extBut b ob this (Heap.get?_push_of_some _ q)
 have up:=fun b ob q=>E8 b ob (si b ob q);have lD:=E8 D _ (Lw By (Lw Zd (Heap.get?_push_size _ rfl)))
 let bY:Addr->Prop:=fun x=>(π x\/ω x)\/(x=C\/x=D)
 have F8:Keeps (fun x=>π x\/ω x) bY aE aE ay bA:=.more (fun x z=>z.imp id fun y=>y.elim (fun e=>Rw e nC) fun e=>Rw e nD) up;refine cps fun G kG=>?_;obtain⟨oC,_,_,hoC,_⟩:=id DD;refine kG ?_
 haveI dA:=aF.keeps F8 (fun x ob y_ q=>up x ob q) (fun x z m=>by
   rcases z with z|z|z
   ·exact aF.a8 x z m
   ·obtain rfl:=z.symm;refine(aF.mut m).elim fun ob q=>?_;rw[nC]at q;exact nn q
   ·obtain rfl:=z.symm;refine(aF.mut m).elim fun ob q=>?_;rw[nD]at q;exact nn q) fun x z=>by
   rcases z with z|z|z
   ·exact(aF.there x z).elim fun ob q=>⟨ob,up x ob q⟩
   ·obtain rfl:=z.symm;exact⟨oC,hoC⟩
   ·obtain rfl:=z.symm;exact⟨_,lD⟩
 haveI Jf:=(sI az aG).trans F8;have kK:=fun x z ob q=>up x ob (az.keep x ob q (a.D.sig.a8 x z) fun y=>y);have Cb:=wk.frame _ _ 0 _ _ _ _ w0 F8 fun x ob y_ q=>up x ob q;have fJ:∀x,ω x->bY x:=fun x z=>.inl (.inr z);have pC:bY C:=.inr (.inl rfl);have pD:bY D:=.inr (.inr rfl)
 have E':=As I E fun x c e=>fun z=>by obtain⟨Wc,ob,q,_⟩:=a.V.cells x c e;haveI q:=jT▸(z▸q);exact nn q
 have wh:∀x c,env.cells.lookup x=some c->¬ω c/\c≠C/\c≠D:=fun x c e=>⟨Gh c (a.V.cV x c e),fun z=>Iy (z▸a.V.cV x c e),fun z=>Lv (z▸a.V.cV x c e)⟩;have wK:¬ω env.locals/\env.locals≠C/\env.locals≠D:=⟨Gh _ a.V.a8,fun z=>Iy (z▸a.V.a8),fun z=>Lv (z▸a.V.a8)⟩
 haveI loop:codeAny (model Γ.af Γ.w) A (.compLoop (.ListComp e [⟨target,iter,ifs,0⟩] sc pos) 0 (.ref J) (.ref D) (compEnvC sc (cw env sc.names []) C env)) (compPost (model Γ.af Γ.w) A aU use Q (.ref D) C) {s with heap:=bA,toks:=aI+([]:List (Str×Value)).length}:=by
  let Inv:Nat->Shared->Prop:=fun n s'=>Ex9 fun aA h' tk' ab i acc vs kk m=>AI (s'={s with heap:=h',toks:=tk'}) (W bY i aA h') (aK (fun x=>ω x\/x=C\/x=D) aE bA aA h') (IsL h' D (List.toArray vs) kk) (bj Γ.T bY aA h' acc vs) (h'.Ns C m) (cu Γ.T cx env bY aA h' fr) (Dy Γ.T Γ.B bY aA h' ab) (fy (bV P d elt tg many cond fr) it n i acc ab res av) (acc.length<=lim)
  refine wB Inv ?_ k ⟨aE,bA,_,ae,0,[],[],0,_,rfl,Cb,aK.refl _ _ _,lD,rfl,DD,(a.V.keeps Jf (fun x z=>.inl (.inl z)) (fun ob q=>kK _ a.V.a8 ob q) fun x c ob e q=>kK c (a.V.cV x c e) ob q),(a.D.keeps dA Jf),hR,zero_le _⟩;rintro n s' ⟨aA,h',tk',ab,i,acc,vs,kk,m,rfl,W',g',T4,ra,xK,V',D',HL,yp⟩
  have turn:∀(v:V) (gq:Fr) (b:Bool) (bh:St) (n:Nat) (qV:it.nx ab i=some (some v)) (oZ:eD tg many v fr=some gq) (pP:wy P d cond gq ab b bh)
    (go:∀iP iL jF vO,At Γ d (fC cx ts tg sc) (compEnvC sc (cw env sc.names []) C env) A {s with heap:=iL,toks:=jF} bY iP bh gq->W bY (i+1) iP iL->IsL iL D (List.toArray vs) kk->bj Γ.T bY iP iL acc vs->cu Γ.T cx env bY iP iL fr->iL.Ns C vO->aK (fun x=>ω x\/x=C\/x=D) aE bA iP iL->if b=true then wpAny (model Γ.af Γ.w) A (eval e (compEnvC sc (cw env sc.names []) C env)) (fun x qh=>wpAny (model Γ.af Γ.w) A (PySem.call (.builtin "list.append") [.ref D,x]) (fun y_ qH=>∃m,m<n+1/\Inv m qH) aU qh) aU {s with heap:=iL,toks:=jF}
     else∃m,m<n+1/\Inv m {s with heap:=iL,toks:=jF}),wpAny (model Γ.af Γ.w) A (pyNext (.ref J)) (fun r dT=>match r with
     |none=>compPost (model Γ.af Γ.w) A aU use Q (.ref D) C (.ok .next) dT
     |some v=>wpAny (model Γ.af Γ.w) A (letOwnedTupleGo target (.ref J) v) (fun y_ jI=>wpAny (model Γ.af Γ.w) A (assign target (compEnvC sc (cw env sc.names []) C env) v) (fun y_ j8=>
      wpAny (model Γ.af Γ.w) A (forIn ifs true fun c r=>if r=true then do let ok <-isTrue c (compEnvC sc (cw env sc.names []) C env) (eval c (compEnvC sc (cw env sc.names []) C env));pure (ForInStep.yield ok)else pure (ForInStep.yield r)) (fun ok dQ=>
       if ok=true then wpAny (model Γ.af Γ.w) A (eval e (compEnvC sc (cw env sc.names []) C env)) (fun x qh=>
        wpAny (model Γ.af Γ.w) A (PySem.call (.builtin "list.append") [.ref D,x]) (fun y_ qH=>∃m,m<n+1/\Inv m qH) aU qh) aU dQ
       else∃m,m<n+1/\Inv m dQ) aU j8) aU jI) aU dT) aU {s with heap:=h',toks:=tk'}:=by
   intro v gq b bh n qV oZ pP go
   let yO:Env:=compEnvC sc (cw env sc.names []) C env
   refine wpAny_mono (wk.item bY i {s with heap:=h',toks:=tk'} aA ab v (fun v' dT=>wpAny (model Γ.af Γ.w) A (assign target yO v') (fun y_ j8=>
    wpAny (model Γ.af Γ.w) A (forIn ifs true fun c r=>if r=true then do let ok <-isTrue c yO (eval c yO);pure (ForInStep.yield ok)else pure (ForInStep.yield r)) (fun ok dQ=>
     if ok=true then wpAny (model Γ.af Γ.w) A (eval e yO) (fun x qh=>
      wpAny (model Γ.af Γ.w) A (PySem.call (.builtin "list.append") [.ref D,x]) (fun y_ qH=>∃m,m<n+1/\Inv m qH) aU qh) aU dQ
     else∃m,m<n+1/\Inv m dQ) aU j8) aU dT) fJ W' D'.sig qV fun v' qj Az rv NJ rW kn=>?_) (fun r dT iW=>by obtain⟨v',er,hw⟩:=iW;subst er;exact hw) fun y_ y_ x=>x
   have vv:=V'.grow D'.sig kn fJ wK.1 fun x c e=>(wh x c e).1;haveI MJ:∀{h:Heap},aK ω aA h' aA h->∀ob,h'.get? C=some ob->h.get? C=some ob:=fun g ob q=>g.keep C ob q (D'.sig.a8 C pC) Hz;haveI ML:∀ob,h'.get? D=some ob->qj.get? D=some ob:=fun ob q=>kn.keep D ob q (D'.sig.a8 D pD) LY;refine rU (s:={s with heap:=qj,toks:=Az}) a.rm.handled E' (aL ux) (AD I E) ((uf I.OJ).trans oZ) rW (AM I E vv (xK.at' fun ob q=>MJ kn ob q) pC) rv fun fB pJ qt F4 jQ=>?_;haveI Ca:∀x,x=C->bY x:=fun x z=>z▸pC;haveI B4:=D'.keeps qt ((kn.keeps fJ).trans (jQ.keeps Ca));obtain⟨abq,aaY,_⟩:=F4.ns;have EL:At Γ d (fC cx ts tg sc) yO A {s with heap:=fB,toks:=pJ} bY aA ab gq:=⟨E',a.rm,B4,F4⟩;refine Ds pP Zb EL fun iP iL jF yo sD=>?_;haveI ke:=EL.step (tk':=jF) yo sD;haveI yb:=wk.frame _ _ _ _ _ _ _ (wk.frame _ _ _ _ _ _ _ NJ (jQ.keeps Ca) fun x ob z q=>jQ.keep x ob q (rW.a8 x (fJ x z)) fun y=>(by haveI z:=y▸z;exact Hz z)) (sD.keeps fun y_ z=>z.elim) fun x ob z q=>sD.keep x ob q (qt.a8 x (fJ x z)) fun y=>y;haveI tG:=sD.keep D _ (jQ.keep D _ (ML _ T4) (rW.a8 D pD) (Ne.symm CD)) (qt.a8 D pD) fun y=>y;haveI pd:=(ra.mono ((kn.keeps fJ).trans (jQ.keeps Ca)) _ _).step sD;haveI xO:=(vv.grow rW jQ Ca wK.2.1 fun x c e=>(wh x c e).2.1).step qt sD;obtain⟨vO,xu,_⟩:=ke.V.ns;exact go iP iL jF vO ke yb tG pd xO xu ((g'.trans ((kn.weak fun x z=>.inl z).trans (jQ.weak fun x z=>.inr (.inl z)))).trans (sD.weak fun y_ z=>z.elim))
  cases HL with
  |stop qV=>
   refine wk.done bY i {s with heap:=h',toks:=tk'} aA _ _ W' D'.sig qV fun eM ki hk=>?_;have mU:∀b ob,¬ω b->h'.get? b=some ob->eM.get? b=some ob:=fun b ob hb q=>hk b ob hb q;haveI kf:Keeps bY (fun x=>π x\/x=C) aA aA h' eM:=⟨fun x ob q f z=>f (z.elim (fun y=>y.elim (fun y=>.inl (.inl (.inl y))) fun y=>.inl (.inr (.inl y))) .inr),fun x ob q f=>mU x ob (fun y=>f (.inl (fJ x y))) q,le_refl _,fun y_ y_ y_ q=>q⟩
   have G:=((az.trans (.up up)).fresh g' fun x z=>.inr (by
    rcases z with z|z|z
    ·exact aG x z
    ·obtain rfl:=z.symm;exact jT
    ·obtain rfl:=z.symm;exact(az.lH nD)))
   haveI outer:∀x ob,s.heap.get? x=some ob->¬ω x:=fun x ob q z=>by rw[aG x z]at q;exact nn q
   refine o D C _ aA eM ki m rfl CD (xK.at' fun ob q=>hk _ ob Hz q) ⟨D,vs,kk,rfl,fun z=>z.elim (fun z=>z.elim Lv fun z=>CD z.symm) (D'.sig.a8 D pD),mU D _ LY T4,ra.mono kf _ _⟩ ?_ ⟨G.len,G.old,G.new,fun x ob q=>?_,fun x ob q f y=>mU x ob (outer x ob q) (G.keep x ob q f y)⟩ jT
   ·refine D'.sig.keeps kf (fun x ob mm q=>mU x ob (fun z=>D'.sig.a8 x (fJ x z) mm) q) (fun x z=>z.elim (fun z=>D'.sig.a8 x (.inl (.inl z))) fun z=>D'.sig.a8 x (z▸pC)) fun x z=>?_;rcases z with z|z
    ·exact(D'.sig.there x (.inl (.inl z))).elim fun ob q=>⟨ob,mU x ob (Gh x z) q⟩
    ·obtain rfl:=z.symm;exact(D'.sig.there C pC).elim fun ob q=>⟨ob,mU C ob Hz q⟩
   ·exact(G.i5 x ob q).elim fun Hq q'=>⟨Hq,mU x Hq (outer x ob q) q'⟩
  |some qV rf cR Bw=>
   rename_i n LU v x;refine cps fun G kG=>?_;obtain⟨gq,bh,oZ,pP,ui⟩:=rf;refine kG (turn v gq true bh n qV oZ pP fun iP iL jF vO ke yb tG pd xO xu Fs=>?_);have yo:=ke.D.sig;refine(ui Γ _ _ e hc4).val _ _ _ _ _ ke fun x' Ay qf FY rx KG qs=>?_;haveI E4:=ke.step (tk':=FY) KG qs;have AJ:IsL qf D (List.toArray vs) kk:=qs.keep D _ tG (yo.a8 D pD) fun y=>y;obtain⟨Wy,MW,_⟩:=E4.V.ns;have ju:Heap.SameBut D qf (qf.update D (Obj.mapSeq fun xs=>xs.push x')):=Heap.SameBut.update ..
   have F6:(qf.update D (Obj.mapSeq fun xs=>xs.push x')).get? D=some {cls:=.type "list",dict:=none,data:=.seq (List.toArray (vs++[x'])) (if(((List.toArray vs).push x').size==(List.toArray vs).size)=true then kk else kk+1),slots:=#[]}:=by refine Rw (Heap.get?_update_self (Obj.mapSeq fun xs=>xs.push x') AJ rfl) (?_);simp only[Obj.mapSeq,List.push_toArray]
   haveI oo:=ku KG pD ju F6;haveI ya:=oo.2;haveI PG:aK (fun x=>x=D) Ay qf Ay (qf.update D (Obj.mapSeq fun xs=>xs.push x')):=je rfl ju F6;refine call_meets F.slot_list_append (IsL.isList AJ |>.typeIs) entry_list_append (args_list_append _ _) (AutoListH.list_append_list_val_0 D (List.toArray vs) kk x' ?_) ⟨AJ,?_⟩
   ·refine Rw size_toArray (Rw (aQ (pd.step qs)) (Rw sizeLine_eq (?_)));unfold lim at yp;exact Q4 yp
   ·exact⟨n,lt_succ_self n,Ay,_,FY,LU,i+1,acc++[x],vs++[x'],_,Wy,rfl,wk.frame _ _ _ _ _ _ _ (wk.frame _ _ _ _ _ _ _ yb (qs.keeps fun y_ z=>z.elim) fun x ob z q=>qs.keep x ob q (yo.a8 x (fJ x z)) fun y=>y) ya fun y ob z q=>(ju.2 y fun z'=>LY (z'▸z)).trans q,Fs.trans ((qs.weak fun y_ z=>z.elim).trans (PG.weak fun y_ z=>.inr (.inr z))),F6,dH ((pd.step qs).mono ya _ _) ⟨x',[],rfl,rx.mono ya _ _,rfl⟩,MW.sameBut ju CD,(xO.step yo qs).keeps ya (fun y_ z=>z) (fun ob q=>(ju.2 _ wK.2.2).trans q) (fun y c ob e q=>(ju.2 _ (wh y c e).2.2).trans q),E4.D.keeps oo.1 ya,Bw,by simp;exact Yd cR⟩
  |none qV rf Bw=>rename_i n bh v;obtain⟨gq,oZ,pP⟩:=rf;exact turn v gq false bh n qV oZ pP fun iP iL jF vO ke yb tG pd xO xu Fs=>⟨n,lt_succ_self n,iP,iL,jF,bh,i+1,acc,vs,kk,vO,rfl,yb,Fs,tG,pd,xu,xO,ke.D,Bw,yp⟩
 exact codeAny_compStart_list loop (wpAny_mono (wk.self bY 0 _ aE (fun Zq s'=>codeAny (model Γ.af Γ.w) A (.compLoop (.ListComp e [⟨target,iter,ifs,0⟩] sc pos) 0 Zq (.ref D) (compEnvC sc (cw env sc.names []) C env)) (compPost (model Γ.af Γ.w) A aU use Q (.ref D) C) s') Cb loop) (fun y_ y_ x=>x) fun y_ y_ x=>x.elim)
end
end
theorem oV{e:Expr}{env:Env}(h:jK e=true)(x:Value):foldedSetIterable e env x=pure x:=by cases e<;>first|rfl|exact absurd h bf
theorem oF{T:Tab}{N:Nm}{cx:Cx}{src:Src}{e:Expr}(h:yy T N cx src e=true):jK e=true:=by
 cases src with
 |seq a=>exact aL h
 |qQ a=>exact gu.ind (M:=fun e=>jK e=true) (fun y_ y_ y_ y_=>rfl) h
 |nW a=>exact gu.ind (M:=fun e=>jK e=true) (fun y_ y_ y_ y_=>rfl) h
 |rev a=>exact gu.ind (M:=fun e=>jK e=true) (fun y_ y_ y_ y_=>rfl) h
 |zip a=>exact gu.ind (M:=fun e=>jK e=true) (fun y_ y_ y_ y_=>rfl) h
theorem C3{T:Tab}{π:Addr->Prop}{ρ aA:bZ}{h h' eM:Heap}{σ ab:St}{C:Addr}{v:V}{v':Value}(GZ:aZ T π ρ h σ)(jT:h.get? C=none)(r:Rel T (fun x=>π x\/x=C) aA h' v v')(S:aZ T (fun x=>π x\/x=C) aA h' ab)
  (g:aK bG ρ h aA h')(hs:Heap.SameBut C h' eM):Rel T π aA eM v v'/\aZ T π aA eM ab/\aK bG ρ h aA eM:=by
 haveI Iy:¬π C:=fun z=>by refine(GZ.there C z).elim fun ob q=>?_;haveI q:=jT▸q;exact nn q
 haveI k:Keeps (fun x=>π x\/x=C) π aA aA h' eM:=⟨fun x ob q f z=>f (z.imp .inl id),fun x ob q f=>(hs.2 x fun e=>f (.inl (.inr e))).trans q,le_refl _,fun y_ y_ y_ q=>q⟩;haveI nC:∀x ob,h.get? x=some ob->x≠C:=fun x ob q z=>by haveI q:=jT▸(z▸q);exact nn q
 refine⟨r.mono k _ _,S.keeps k (fun x ob mm q=>(hs.2 x fun z=>S.a8 x (.inr z) mm).trans q) (fun x z=>S.a8 x (.inl z)) fun x z=>?_,g.len,g.old,g.new,fun x ob q=>?_,fun x ob q f y=>(hs.2 x (nC x ob q)).trans (g.keep x ob q f y)⟩
 ·exact(S.there x (.inl z)).elim fun ob q=>⟨ob,(hs.2 x fun e=>Iy (e▸z)).trans q⟩
 ·exact(g.i5 x ob q).elim fun Hq q'=>⟨Hq,(hs.2 x (nC x ob q)).trans q'⟩
theorem Ev.comp{P:Prog}{d:Nat}{fr:Fr}{σ ae av:St}{elt:X}{tg:List Nat}{many:Bool}{src:Src}{cond:X}{it:It}{k:Nat}{res:List V}(hs:Iter P d src fr σ it ae)(hR:fy (bV P d elt tg many cond fr) it k 0 [] ae res av):Ev P d (.comp elt tg many src cond) fr σ (.lst res) av:=fun Γ cx env e hc=>oO.ind (M:=Goal Γ d cx env fr σ (.lst res) av) (fun e t i l sc p hc=>.gen rfl fun A s π ρ Q a o=>
  yh hs hR (aL hc) (aL (aR hc)) (aL (aR (aR hc))) (aR (aR (aR hc))) a (oV (oF (aL (aR hc)))) fun D C v' aA h' tk' m e lS hC r S g jT=>by
   subst e;refine⟨m,hC,fun eM WB=>?_⟩;refine cps fun G kG=>?_
   haveI oo:=C3 a.D.sig jT r S g WB;exact kG (o _ aA eM tk' oo.1 oo.2.1 oo.2.2)) hc
section
def vL{P:Prog}(Γ:Ctx P)(cx:Cx)(env:Env)(π:Addr->Prop)(ρ:bZ)(s:Shared)(aB:Fr)(ab:St)(Q:Unit->Shared->Prop):Prop:=∀aA h' tk',aZ Γ.T π aA h' ab->cu Γ.T cx env π aA h' aB->aK (Own env) ρ s.heap aA h'->Q () {s with heap:=h',toks:=tk'}
def MB{P:Prog}(Γ:Ctx P)(d:Nat)(cx:Cx)(env:Env)(v:V)(fr:Fr)(σ:St)(aB:Fr)(ab:St)(e:Expr):Prop:=∀A s π ρ v' (Q:Unit->Shared->Prop),At Γ d cx env A s π ρ σ fr->Rel Γ.T π ρ s.heap v v'->vL Γ cx env π ρ s aB ab Q->wpAny (model Γ.af Γ.w) A (assign e env v') Q aU s
def gd(P:Prog)(d:Nat)(t:Tg)(v:V)(fr:Fr)(σ:St)(aB:Fr)(ab:St):Prop:=∀(Γ:Ctx P) (cx:Cx) (env:Env) (e:Expr),sd Γ.T Γ.N cx t e=true->MB Γ d cx env v fr σ aB ab e
section
variable {P:Prog} {d:Nat} {fr:Fr} {σ ae av:St} {v:V}
theorem vL.next{Γ:Ctx P}{cx:Cx}{env:Env}{s:Shared}{π:Addr->Prop}{ρ aE:bZ}{ab:St}{aB:Fr}{ay:Heap}{aI:Nat}{Q:Unit->Shared->Prop}(o:vL Γ cx env π ρ s aB ab Q)(g:aK (Own env) ρ s.heap aE ay):vL Γ cx env π aE {s with heap:=ay,toks:=aI} aB ab Q:=fun aA h' tk' S V k=>o aA h' tk' S V (g.trans k)
theorem gd.var{i:Nat}:gd P d (.var i) v fr σ (fr.set i (some v)) σ:=fun Γ cx env e hc=>cG.ind (fun x p h A s π ρ v' Q a rv o=>
 wpAny_assign_Name (tK a.D a.es a.V (eq_of_beq (aL h)) ((Bool.or_eq_true _ _▸aR h).imp eq_of_beq eq_of_beq) rv fun h' tk' S V g=>o ρ h' tk' S V g)) hc
theorem gd.attr{x:X}{k m c:Nat}{fs:List (Nat×V)}(hx:Ev P d x fr σ (.loc m) ae)(e2:ae[m]?=some (.inst c fs))(e3:P.aC c k=none)(e4:fs.length<100):gd P d (.attr x k) v fr σ fr (ae.set m (.inst c (setField k v fs))):=fun Γ cx env e hc=>
 fT.ind (fun ve n p hc A s π ρ v' Q a rv o=>by
  obtain rfl:=eq_of_beq (aL hc);replace hc:=aR hc;rw[arm_assign_Attribute];refine wpAny_bind (wpAny_holding ((hx Γ cx env ve (aR hc)).val _ _ _ _ _ a fun cH aE ay aI aT aF az=>wpAny_bind (wpAny_standAt (wpAny_bind (wpAny_holding ?_)))))
  exact zC Γ.Y.gy.inj Γ.Y.gy.cls (a.step aF az).mX aF (bl (aL hc)) aT (rv.step az) e2 e3 e4 fun bp aY bg aX aP=>
   wpAny_release (o bp aY bg aX ((a.V.step a.D.sig az).step aF aP) (az.trans aP).own)) hc
theorem zA{x i:X}{m:Nat}{k:Int}{bh:St}(hx:Ev P d x fr σ (.loc m) ae)(hi:Ev P d i fr ae (.int k) av)
  (hs:∀{Γ:Ctx P} {A:Around} {π:Addr->Prop} {s':Shared} {aA:bZ} {Q':Unit->Shared->Prop} {o' i' EN:Value},aZ Γ.T π aA s'.heap av->Rel Γ.T π aA s'.heap (.loc m) o'->Rel Γ.T π aA s'.heap (.int k) i'->Rel Γ.T π aA s'.heap v EN->Left Γ.T π aA bh s' Q'->wpAny (model Γ.af Γ.w) A (setItem o' i' EN) Q' aU s'):gd P d (.item x i) v fr σ fr bh:=fun Γ cx env e hc=>
 iT.ind (fun ve se p hc A s π ρ v' Q a rv o=>by
  rw[arm_assign_Subscript];refine wpAny_bind (wpAny_holding ((hx Γ cx env ve (aL hc)).val _ _ _ _ _ a fun cH aE ay aI aT aF az=>wpAny_bind (wpAny_holding ((hi Γ cx env se (aR hc)).val _ _ _ _ _ (a.step aF az) fun eE bp aY bg bD aX aP=>wpAny_bind (wpAny_standAt (wpAny_bind (wpAny_holding ?_)))))))
  exact hs (s':={s with heap:=aY,toks:=bg}) aX (aT.step aP) bD ((rv.step az).step aP) fun dv bA dD dA dz=>wpAny_release
   (o dv bA dD dA (((a.V.step a.D.sig az).step aF aP).step aX dz) ((az.trans aP).trans dz).own)) hc
theorem gd.list{x i:X}{m j:Nat}{k:Int}{l:List V}(hx:Ev P d x fr σ (.loc m) ae)(hi:Ev P d i fr ae (.int k) av)(e3:av[m]?=some (.list l))(h0:0<=k)(hj:aw k l.length=some j):gd P d (.item x i) v fr σ fr (av.set m (.list (l.set j v))):=zA hx hi fun S r1 r2 r3 o'=>yt S r1 r2 r3 e3 h0 hj o'
theorem gd.dict{x i:X}{m:Nat}{k:Int}{l:List (Int×V)}(hx:Ev P d x fr σ (.loc m) ae)(hi:Ev P d i fr ae (.int k) av)(e3:av[m]?=some (.dict l))(e4:bx k l=none)(e5:l.length<lim):gd P d (.item x i) v fr σ fr (av.set m (.dict (dput k v l))):=zA hx hi fun S r1 r2 r3 o'=>zJ S r1 r2 r3 e3 e4 e5 o'
end
inductive Stores(P:Prog)(d:Nat):List Tg->List V->Fr->St->Fr->St->Prop where
 |nil {fr:Fr} {σ:St}:Stores P d [] [] fr σ fr σ
 |cons {t:Tg} {ts:List Tg} {v:V} {vs:List V} {fr aG aB:Fr} {σ ae ab:St} (h:gd P d t v fr σ aG ae) (r:Stores P d ts vs aG ae aB ab):Stores P d (t::ts) (v::vs) fr σ aB ab
theorem Stores.len{P:Prog}{d:Nat}{ts:List Tg}{l:List V}{fr aB:Fr}{σ ab:St}(h:Stores P d ts l fr σ aB ab):l.length=ts.length:=by
 induction h with
 |nil=>rfl
 |cons _ _ ih=>exact congrArg (· +1) ih
section
variable {P:Prog} {Γ:Ctx P} {d:Nat} {cx:Cx} {env:Env} {A:Around} {π:Addr->Prop}
theorem kY{T:Tab}{N:Nm}{t:Tg}{e:Expr}{es:List Expr}(h:sd T N cx t e=true):assignEach (e::es) env=(false,assign e env)::assignEach es env:=by
 cases t with
 |var i=>exact cG.ind (M:=fun e=>assignEach (e::es) env=(false,assign e env)::assignEach es env) (fun y_ y_ y_=>rfl) h
 |attr=>exact fT.ind (M:=fun e=>assignEach (e::es) env=(false,assign e env)::assignEach es env) (fun y_ y_ y_ y_=>rfl) h
 |item=>exact iT.ind (M:=fun e=>assignEach (e::es) env=(false,assign e env)::assignEach es env) (fun y_ y_ y_ y_=>rfl) h
theorem jC{T:Tab}{N:Nm}:∀{ts:List Tg} {es:List Expr},il T N cx ts es=true->(assignEach es env).length=ts.length/\(assignEach es env).findIdx? (·.1)=none/\es.length=ts.length
 |[],[]=>@fun _=>⟨rfl,rfl,rfl⟩
 |[],_::_=>@fun h=>absurd h bf
 |_::_,[]=>@fun h=>absurd h bf
 |t::ts,e::es=>@fun h=>by haveI oo:=jC (aR h);refine Rw (kY (aL h)) ⟨congrArg (· +1) oo.1,?_,congrArg (· +1) oo.2.2⟩;refine Rw (findIdx?_cons) (?_);simp[oo.2.1]
set_option tactic.hygienic true in
theorem Bp{ts:List Tg}{l:List V}{fr aB:Fr}{σ ab:St}(h:Stores P d ts l fr σ aB ab):∀{es:List Expr} {vs:List Value} {s:Shared} {ρ:bZ} {Q:Unit->Shared->Prop},il Γ.T Γ.N cx ts es=true->At Γ d cx env A s π ρ σ fr->bj Γ.T π ρ s.heap l vs->vL Γ cx env π ρ s aB ab Q->wpAny (model Γ.af Γ.w) A (assignInOrder ((assignEach es env).map (·.2)) vs) Q aU s:=by
 induction h with
 |nil=>
  intro es vs s ρ Q hc a r o
  cases es with
  |cons=>exact absurd hc bf
  |nil=>obtain rfl:vs=[]:=r;exact wpAny_pure (o ρ s.heap s.toks a.D.sig a.V (aK.refl _ _ _))
 |cons h _ ih=>
  intro es vs s ρ Q hc a r o
  cases es with
  |nil=>exact absurd hc bf
  |cons e es=>rename_i t ts v _ _ aG _ _ ae _ _;haveI hc:=hc;obtain⟨v',dX,rfl,rv,rr⟩:=r;exact Rw (kY (aL hc)) (wpAny_bind (wpAny_holding (h Γ cx env e (aL hc) _ _ _ _ _ _ a rv fun aE ay aI aF kj az=>ih (aR hc) (a.wz aF kj az) (rr.mono (az.keeps a.V.own) _ _) (o.next az))))
noncomputable def k5:List Tg->List V->Fr->Option Fr
 |[],[],fr=>some fr
 |.var i::ts,v::vs,fr=>k5 ts vs (fr.set i (some v))
 |_,_,_=>none
theorem uW:∀{ts:List Tg} {es:List Expr} {l:List V} {vs:List Value} {fr aB:Fr} {σ:St} {s:Shared} {ρ:bZ} {Q:Unit->Shared->Prop},il Γ.T Γ.N cx ts es=true->(∀e∈es,ip cx e=true)->k5 ts l fr=some aB->At Γ d cx env A s π ρ σ fr->bj Γ.T π ρ s.heap l vs->vL Γ cx env π ρ s aB σ Q->wpAny (model Γ.af Γ.w) A (assignInOrder ((es.map nameIn).map fun n=>bindName env n) vs) Q aU s
 |[],[]=>by
  rename_i l vs fr aB σ s ρ Q;intro hc hl hs a r o
  cases l with
  |cons=>exact nn hs
  |nil=>replace hs:=oj hs;subst hs;obtain rfl:vs=[]:=r;exact wpAny_pure (o ρ s.heap s.toks a.D.sig a.V (aK.refl _ _ _))
 |[],_::_=>@fun hc _ _ _ _ _=>absurd hc bf
 |_::_,[]=>@fun hc _ _ _ _ _=>absurd hc bf
 |t::ts,e::es=>by
  rename_i l vs fr aB σ s ρ Q;intro hc hl hs a r o
  cases l with
  |nil=>cases t<;>exact nn hs
  |cons v l=>
   cases t with
   |attr=>exact nn hs
   |item=>exact nn hs
   |var i=>obtain⟨v',dX,rfl,rv,rr⟩:=r;haveI he:=hl e mem_cons_self;refine cG.ind (M:=fun e=>ip cx e=true->wpAny (model Γ.af Γ.w) A (assignInOrder (((e::es).map nameIn).map fun n=>bindName env n) (v'::dX)) Q aU s) (fun x p h1 he=>?_) (aL hc) he;exact wpAny_bind (wpAny_holding (wpAny_bindName (tK a.D a.es a.V (eq_of_beq (aL h1)) (.inl (eq_of_beq he)) rv fun ay aI aF kj az=>(uW (aR hc) (fun y hy=>hl y (mem_cons_of_mem _ hy)) hs (a.wz aF kj az) (rr.mono (az.keeps a.V.own) _ _) (o.next az)))))
theorem mc{T:Tab}{N:Nm}:∀{ts us:List Tg} {es gs:List Expr},il T N cx ts es=true->il T N cx us gs=true->il T N cx (ts++us) (es++gs)=true
 |[],_,[]=>@fun _ h=>h
 |[],_,_::_=>@fun h _=>absurd h bf
 |_::_,_,[]=>@fun h _=>absurd h bf
 |t::ts,us,e::es=>by rename_i gs;intro h k;show(sd T N cx t e&&il T N cx (ts++us) (es++gs))=true;exact Rw (aL h) (Rw (mc (aR h) k) rfl)
theorem tw{T:Tab}{N:Nm}:∀{ts:List Tg} {es:List Expr},il T N cx ts es=true->il T N cx ts.reverse es.reverse=true
 |[],[]=>@fun _=>rfl
 |[],_::_=>@fun h=>absurd h bf
 |_::_,[]=>@fun h=>absurd h bf
 |t::ts,e::es=>by intro h;simp only[reverse_cons];refine mc (tw (aR h)) ?_;show(sd T N cx t e&&true)=true;exact Rw (aL h) rfl
theorem lu{e:Expr}{t:Option Expr}{line:Nat}(h:nK e=false):swapsWith e t line env=pure false:=by cases e<;>first|rfl|cases h
theorem D5{es:List Expr}{f:Expr->Bool}(hf:∀e,notStar e=true->f e=false)(h:∀e∈es,notStar e=true):es.any f=false:=by rw[List.any_eq_false];intro e he;exact Rw (hf e (h e he)) bf
theorem C4{ts:List Expr}{f:Expr->Option Str}(h:∀e∈ts,f e=none):ts.filterMap f=[]:=by rw[List.filterMap_eq_nil_iff];exact h
theorem uB{v:Expr}{ts:List Expr}{k:Nat}{pos:Pos}(h:eO 25 v=true):swappedStores [.Tuple ts k pos] v env=pure none:=by cases v<;>first|rfl|exact absurd h bf
theorem Ba{T:Tab}{N:Nm}{t:Tg}{e v:Expr}(h:sd T N cx t e=true):swappedStores [e] v env=pure none:=by
 cases t with
 |var i=>exact cG.ind (M:=fun e=>swappedStores [e] v env=pure none) (fun y_ y_ y_=>rfl) h
 |attr=>exact fT.ind (M:=fun e=>swappedStores [e] v env=pure none) (fun y_ y_ y_ y_=>rfl) h
 |item=>exact iT.ind (M:=fun e=>swappedStores [e] v env=pure none) (fun y_ y_ y_ y_=>rfl) h
end
end
section
structure HA(P:Prog)(d:Nat)(x:X)(fr:Fr)(σ:St)(v:V)(ab:St):Prop where
 ev:Ev P d x fr σ v ab
 no:iw x=true->v=.none/\ab=σ
noncomputable def After(k:Fr->St->Fl->Fr->St->Prop):Fl->Fr->St->Fl->Fr->St->Prop
 |.next,aG,ae,fl,aB,ab=>k aG ae fl aB ab
 |.cont,aG,ae,fl,aB,ab=>k aG ae fl aB ab
 |.brk,aG,ae,fl,aB,ab=>fl=.next/\aB=aG/\ab=ae
 |.ret v,aG,ae,fl,aB,ab=>fl=.ret v/\aB=aG/\ab=ae
noncomputable def Et(P:Prog)(d:Nat)(c:X)(b:Ss):Nat->Fr->St->Fl->Fr->St->Prop
 |0,_,_,_,_,_=>False
 |n+1,fr,σ,fl,aB,ab=>(Ev P d c fr σ (.bool false) ab/\fl=.next/\aB=fr)\/∃ae eQ aG av,Ev P d c fr σ (.bool true) ae/\cX P d b fr ae eQ aG av/\After (Et P d c b n) eQ aG av fl aB ab
noncomputable def uK(step:V->Fr->St->Fl->Fr->St->Prop)(it:It):Nat->Nat->Fr->St->Fl->Fr->St->Prop
 |0,_,_,_,_,_,_=>False
 |n+1,i,fr,σ,fl,aB,ab=>(it.nx σ i=some none/\fl=.next/\aB=fr/\ab=σ)\/∃v eQ aG ae,it.nx σ i=some (some v)/\step v fr σ eQ aG ae/\After (uK step it n (i+1)) eQ aG ae fl aB ab
def eU(P:Prog)(d:Nat)(tg:List Nat)(many:Bool)(b:Ss)(v:V)(fr:Fr)(σ:St)(fl:Fl)(aB:Fr)(ab:St):Prop:=∃aG,eD tg many v fr=some aG/\cX P d b aG σ fl aB ab
section
variable {P:Prog} {d:Nat} {fr aG aB:Fr} {σ ae av ab:St}
theorem cX.nil:cX P d .nil fr σ .next fr σ:=fun Γ cx env l hc=>bT.ind (M:=fun l=>cq Γ d cx env fr σ .next fr σ (execs l env)) (fun A s π ρ Q a o=>wpAny_execs_nil (o .next ρ s.heap s.toks rfl a.D.sig a.V (aK.refl _ _ _))) hc
theorem cX.next{st:S}{r:Ss}{fl:Fl}(h:Exec P d st fr σ .next aG ae)(hr:cX P d r aG ae fl aB ab):cX P d (.cons st r) fr σ fl aB ab:=fun Γ cx env l hc=>
 cI.ind (M:=fun l=>cq Γ d cx env fr σ fl aB ab (execs l env)) (fun b l hc A s π ρ Q a o=>wpAny_execs_cons (h Γ cx env b (aL hc) _ _ _ _ _ a fun f' aE ay aI aT aF kj az=>by
  obtain rfl:f'=.next:=aT
  exact hr Γ cx env l (aR hc) _ _ _ _ _ (a.wz aF kj az) (o.next az))) hc
theorem cX.stop{st:S}{r:Ss}{fl:Fl}(h:Exec P d st fr σ fl aB ab)(hn:fl≠.next):cX P d (.cons st r) fr σ fl aB ab:=fun Γ cx env l hc=>
 cI.ind (M:=fun l=>cq Γ d cx env fr σ fl aB ab (execs l env)) (fun b l hc A s π ρ Q a o=>wpAny_execs_cons (h Γ cx env b (aL hc) _ _ _ _ _ a fun f' aE ay aI aT aF kj az=>by
  cases fl with
  |next=>exact absurd rfl hn
  |brk=>obtain rfl:=aT;exact o .brk aE ay aI rfl aF kj az
  |cont=>obtain rfl:=aT;exact o .cont aE ay aI rfl aF kj az
  |ret v=>obtain⟨v',rfl,rv⟩:=aT;exact o (.ret v') aE ay aI ⟨v',rfl,rv⟩ aF kj az)) hc
theorem p8{t v:Expr}{line:Nat}{env:Env}:swapsWithSole [t] v line env=swapsWith v (some t) line env:=rfl
theorem Exec.asg{t:Tg}{x:X}{v:V}(hx:Ev P d x fr σ v ae)(hs:gd P d t v fr ae aB av):Exec P d (.asg t x) fr σ .next aB av:=fun Γ cx env st hc=>
 jE.ind (M:=fun st=>cq Γ d cx env fr σ .next aB av (exec st env)) (fun ts v p hc=>one.ind (M:=fun ts=>cq Γ d cx env fr σ .next aB av (exec (.Assign ts v p) env)) (fun tg hc A s π ρ Q a o=>
  wpAny_Assign_stores ((hx Γ cx env v (aR (aR hc))).val _ _ _ _ _ a fun cH aE ay aI aT aF az=>kY (aL (aR hc))▸hs Γ cx env tg (aL (aR hc)) _ {s with heap:=ay,toks:=aI} _ _ _ _ (a.step aF az) aT fun bp aY bg aX nj aP=>
   o .next bp aY bg rfl aX nj (az.own.trans aP)) (lu (qZ (aL hc))) (Ba (aL (aR hc)))) hc) hc
theorem Exec.ex{x:X}(hx:Ev P d x fr σ .none ae):Exec P d (.ex x) fr σ .next fr ae:=fun Γ cx env st hc=>Cc.ind (M:=fun st=>cq Γ d cx env fr σ .next fr ae (exec st env)) (fun v p hc A s π ρ Q a o=>
 wpAny_Expr_any ((hx Γ cx env v (aR hc)).val _ _ _ _ _ a fun cH aE ay aI aT aF az=>o .next aE ay aI rfl aF (a.V.step a.D.sig az) az.own) (by unfold interactive;exact Rw a.es.kind rfl) (lu (qZ (aL hc)))) hc
theorem Exec.ret{x:X}{v:V}(hx:HA P d x fr σ v ae):Exec P d (.ret x) fr σ (.ret v) fr ae:=fun Γ cx env st hc=>xp.ind (M:=fun st=>cq Γ d cx env fr σ (.ret v) fr ae (exec st env)) (fun o p hc=>
 l9.ind (M:=fun o=>cq Γ d cx env fr σ (.ret v) fr ae (exec (.Return o p) env)) (fun h A s π ρ Q a o=>by
   refine cps fun G kG=>?_;obtain⟨rfl,rfl⟩:=hx.no h
   exact kG (wpAny_Return_none (o (.ret .none) ρ s.heap s.toks ⟨.none,rfl,rfl⟩ a.D.sig a.V (aK.refl _ _ _))))
  (fun e h A s π ρ Q a o=>wpAny_Return_some ((hx.ev Γ cx env e h).val _ _ _ _ _ a fun cH aE ay aI aT aF az=>o (.ret cH) aE ay aI ⟨cH,rfl,aT⟩ aF (a.V.step a.D.sig az) az.own)) hc) hc
theorem Exec.brk:Exec P d .brk fr σ .brk fr σ:=fun Γ cx env st hc=>wo.ind (M:=fun st=>cq Γ d cx env fr σ .brk fr σ (exec st env)) (fun p y_ A s π ρ Q a o=>wpAny_Break (o .brk ρ s.heap s.toks rfl a.D.sig a.V (aK.refl _ _ _))) hc
theorem Exec.cont:Exec P d .cont fr σ .cont fr σ:=fun Γ cx env st hc=>rF.ind (M:=fun st=>cq Γ d cx env fr σ .cont fr σ (exec st env)) (fun p y_ A s π ρ Q a o=>wpAny_Continue (o .cont ρ s.heap s.toks rfl a.D.sig a.V (aK.refl _ _ _))) hc
theorem Exec.ifs{x:X}{l r:Ss}{b:Bool}{fl:Fl}(ht:Ev P d x fr σ (.bool b) ae)(hl:b=true->cX P d l fr ae fl aB ab)(hr:b=false->cX P d r fr ae fl aB ab):Exec P d (.ifs x l r) fr σ fl aB ab:=fun Γ cx env st hc=>
 wg.ind (M:=fun st=>cq Γ d cx env fr σ fl aB ab (exec st env)) (fun t b1 b2 p hc A s π ρ Q a o=>wpAny_If ((ht Γ cx env t (aL hc)).lU b rfl _ _ _ _ _ a fun aE ay aI aF az=>by
  cases b
  ·exact hr rfl Γ cx env b2 (aR (aR hc)) _ _ _ _ _ (a.step aF az) (o.next az.own)
  ·exact hl rfl Γ cx env b1 (aL (aR hc)) _ _ _ _ _ (a.step aF az) (o.next az.own))) hc
theorem Exec.cL{x:X}{b:Ss}{fl:Fl}{n:Nat}(h:Et P d x b n fr σ fl aB ab):Exec P d (.cL x b) fr σ fl aB ab:=fun Γ cx env st hc=>wN.ind (M:=fun st=>cq Γ d cx env fr σ fl aB ab (exec st env)) (fun t l r p hc=>bT.ind (M:=fun r=>cq Γ d cx env fr σ fl aB ab (exec (.While t l r p) env)) (fun A s π ρ Q a o=>by
  refine wpAny_While ?_
  let Inv:Nat->Shared->Prop:=fun n s'=>RN fun aA h' tk' ae aG=>kE (s'={s with heap:=h',toks:=tk'}) (At Γ d cx env A s' π aA ae aG) (aK (Own env) ρ s.heap aA h') (Et P d x b n aG ae fl aB ab)
  refine codeAny_whileLoop Inv ?_ n ⟨ρ,s.heap,s.toks,σ,fr,rfl,a,aK.refl _ _ _,h⟩;rintro n s' ⟨aA,h',tk',ae,aG,rfl,a',g',hw⟩
  cases n with
  |zero=>exact hw.elim
  |succ n=>
   rcases hw with⟨ht,rfl,rfl⟩|⟨av,eQ,dY,bh,ht,hb,ha⟩
   ·refine wpAny_mono ((ht Γ cx env t (aL (aR hc))).lU false rfl _ _ _ _ _ a' fun bp aY bg aX aP=>?_) (fun y_ y_ x=>x) fun y_ y_ x=>x.elim;exact wpAny_execs_nil (o .next bp aY bg rfl aX (a'.V.step a'.D.sig aP) (g'.trans aP.own))
   ·refine wpAny_mono ((ht Γ cx env t (aL (aR hc))).lU true rfl _ _ _ _ _ a' fun bp aY bg aX aP=>?_) (fun y_ y_ x=>x) fun y_ y_ x=>x.elim
    refine wpAny_mono (hb Γ cx env l (aR (aR hc)) _ _ _ _ (fun f dQ=>match f with
      |.next|.cont=>∃m,m<n+1/\Inv m dQ
      |.brk=>Q .next dQ
      |.ret v=>Q (.ret v) dQ) (a'.step aX aP) fun f' dv bA dD iO dA yG dz=>?_) (fun y_ y_ x=>x) fun y_ y_ x=>x.elim
    have gg:=g'.trans (aP.own.trans dz);have Gf:At Γ d cx env A {s with heap:=bA,toks:=dD} π dv bh dY:=(a'.step aX aP).wz dA yG dz
    cases eQ with
    |next=>obtain rfl:=iO;exact⟨n,lt_succ_self n,dv,bA,dD,bh,dY,rfl,Gf,gg,ha⟩
    |cont=>obtain rfl:=iO;exact⟨n,lt_succ_self n,dv,bA,dD,bh,dY,rfl,Gf,gg,ha⟩
    |brk=>obtain rfl:=iO;obtain⟨rfl,rfl,rfl⟩:=ha;exact o .next dv bA dD rfl dA yG gg
    |ret v=>obtain⟨v',rfl,rv⟩:=iO;obtain⟨rfl,rfl,rfl⟩:=ha;exact o (.ret v') dv bA dD ⟨v',rfl,rv⟩ dA yG gg) (aL hc)) hc
end
section
variable {T:Tab} {af:Program} {w:World}
theorem zd{A:Around}{R:Result->Shared->Prop}{s:Shared}{target:Expr}{it:Value}{body orelse:List Stmt}{env:Env}(I:Nat->Shared->Prop)
  (turn:∀n s,I n s->wpAny (model af w) A (pyNext it) (fun r dT=>match r with
   |none=>wpAny (model af w) A (execs orelse env) (fun f dQ=>R (.ok f) dQ) aU dT
   |some v=>wpAny (model af w) A (letOwnedTupleGo target it v) (fun y_ jI=>wpAny (model af w) A (assign target env v) (fun y_ j8=>wpAny (model af w) A (execs body env) (fun f dQ=>match f with
     |.next|.cont=>∃m,m<n/\I m dQ
     |.brk=>R (.ok .next) dQ
     |.ret v=>R (.ok (.ret v)) dQ) aU j8) aU jI) aU dT) aU s)
  (n:Nat)(h:I n s):codeAny (model af w) A (.forLoop target it body orelse env) R s:=by
 refine codeAny_loop' rfl I (fun n s hI=>?_) n h;refine wpAny_noted ?_;have no:∀{α:Type} {t:Sem α} {Q:α->Shared->Prop} {E:Value->Shared->Prop} {s:Shared},wpAny (model af w) A t Q aU s->wpAny (model af w) A t Q E s:=fun h=>wpAny_mono h (fun y_ y_ x=>x) fun y_ y_ x=>x.elim;refine wpAny_bind (wpAny_standAt (wpAny_bind (wpAny_onRaise (no (wpAny_mono (turn n s hI) (fun r dT ay=>?_) fun y_ y_ h'=>h')))))
 cases r with
 |none=>exact wpAny_pure (.inr ⟨rfl,codeAny_block (no ay)⟩)
 |some v=>
  refine wpAny_bind (no (wpAny_mono ay (fun y_ jI Bn=>?_) fun y_ y_ h'=>h'));refine wpAny_bind (no (wpAny_mono Bn (fun y_ j8 aY=>wpAny_bind (no (wpAny_mono aY (fun f dQ bA=>?_) fun y_ y_ h'=>h'))) fun y_ y_ h'=>h'))
  cases f with
  |next=>exact wpAny_pure (.inl ⟨rfl,bA⟩)
  |cont=>exact wpAny_pure (.inl ⟨rfl,bA⟩)
  |brk=>exact wpAny_pure bA
  |ret v=>exact wpAny_pure bA
theorem cu.off{cx:Cx}{env:Env}{π de:Addr->Prop}{ρ aA:bZ}{h h':Heap}{fr:Fr}(H:cu T cx env π ρ h fr)(p0:de env.locals)(p1:∀x c,env.cells.lookup x=some c->de c)(k:Keeps π de ρ aA h h')(l:∀o,h.get? env.locals=some o->h'.get? env.locals=some o)
  (c:∀x c o,env.cells.lookup x=some c->h.get? c=some o->h'.get? c=some o):cu T cx env de aA h' fr where
 ns:=by obtain⟨m,a,b⟩:=H.ns;exact⟨m,a.at' l,fun x i v e1 e2 e3=>by obtain⟨v',e,r⟩:=b x i v e1 e2 e3;exact⟨v',e,r.mono k _ _⟩⟩
 cells:=fun x a e=>by obtain⟨v,o,ho,d⟩:=H.cells x a e;exact⟨v,o,c x a o e ho,d⟩
 held:=fun x i v e1 e2 e3=>by obtain⟨a,v',e,⟨o,ho,d⟩,r⟩:=H.held x i v e1 e2 e3;exact⟨a,v',e,⟨o,c x a o e ho,d⟩,r.mono k _ _⟩
 a8:=p0
 cV:=p1
theorem oh{cx:Cx}{env:Env}{π ω:Addr->Prop}{ρ aE aA:bZ}{h ay h' eM:Heap}{U ab:St}{LD aB:Fr}(GZ:aZ T π ρ h U)(BN:cu T cx env π ρ h LD)(new:∀a,ω a->h.get? a=none)
  (az:aK bG ρ h aE ay)(g':aK (fun x=>Own env x\/ω x) aE ay aA h')(S:aZ T (fun a=>π a\/ω a) aA h' ab)(V:cu T cx env (fun a=>π a\/ω a) aA h' aB)(hk:∀b o,¬ω b->h'.get? b=some o->eM.get? b=some o):Keeps (fun a=>π a\/ω a) π aA aA h' eM/\aZ T π aA eM ab/\cu T cx env π aA eM aB/\aK (Own env) ρ h aA eM:=by
 have off:∀a,π a->¬ω a:=fun a z y=>by refine(GZ.there a z).elim fun o e=>?_;rw[new a y]at e;exact nn e
 haveI k:Keeps (fun a=>π a\/ω a) π aA aA h' eM:=⟨fun a o e f z=>f (z.imp .inl id),fun a o e f=>hk a o (fun z=>f (.inl (.inr z))) e,le_refl _,fun y_ y_ y_ e=>e⟩;haveI old:∀a o,h.get? a=some o->¬ω a:=fun a o e z=>by rw[new a z]at e;exact nn e
 have G:=(az.weak fun y_ z=>z.elim).fresh g' fun a z=>z.imp id (new a);refine⟨k,S.keeps k (fun a o m e=>hk a o (fun z=>S.a8 a (.inr z) m) e) (fun a z=>S.a8 a (.inl z)) (fun a z=>?_),V.off BN.a8 BN.cV k (fun o e=>hk _ o (off _ BN.a8) e) (fun x a o e q=>hk a o (off a (BN.cV x a e)) q),G.len,G.old,G.new,fun a o e=>?_,fun a o e m z=>hk a o (old a o e) (G.keep a o e m z)⟩
 ·exact(S.there a (.inl z)).elim fun o e=>⟨o,hk a o (off a z) e⟩
 ·exact(G.i5 a o e).elim fun o' e'=>⟨o',hk a o' (old a o e) e'⟩
theorem uO{cx:Cx}:∀{ts:List Str} {tg:List Nat},ts.length=tg.length->((ts.zip tg).all fun p=>cx.slot.lookup p.1==some p.2&&cx.scope.names.lookup p.1==some .local)=true->qz cx ts tg
 |[],[]=>@fun _ _=>trivial
 |[],_::_=>@fun h _=>by cases h
 |_::_,[]=>@fun h _=>by cases h
 |t::ts,i::tg=>@fun h k=>by simp only[zip_cons_cons,all_cons,Bool.and_eq_true,beq_iff_eq]at k;exact⟨k.1.1,k.1.2,uO (by simpa using h) (k.2)⟩
end
theorem Exec.dN{P:Prog}{d:Nat}{fr aB:Fr}{σ ae ab:St}{tg:List Nat}{many:Bool}{src:Src}{b:Ss}{it:It}{n:Nat}{fl:Fl}(hs:Iter P d src fr σ it ae)(h:uK (eU P d tg many b) it n 0 fr ae fl aB ab):Exec P d (.dN tg many src b) fr σ fl aB ab:=fun Γ cx env st hc=>
 xl.ind (M:=fun st=>cq Γ d cx env fr σ fl aB ab (exec st env)) (fun target iter l r p hc=>bT.ind (M:=fun r=>cq Γ d cx env fr σ fl aB ab (exec (.For target iter l r p) env)) (fun A s π ρ Q a o=>by
  replace hc:=aR hc;haveI hn:=aL hc;replace hc:=aR hc;haveI h1:=eq_of_beq_eq_true (aL hc);replace hc:=aR hc;haveI ht:=uO h1 (aL hc);replace hc:=aR hc
  have hz:sO src=true->yd target=true:=fun z=>by haveI h2:=aL hc;rw[z]at h2;obtain rfl:many=true:=h2;exact dB.ind (M:=fun t=>yd t=true) (fun y_ y_ y_ y_=>rfl) hn
  replace hc:=aR hc;refine wpAny_For (hs Γ cx env iter target (aL hc) hz _ _ _ _ _ a fun I ω W aE ay aI wk w0 aF az new=>?_) (oV (oF (aL hc)));have off:∀a,π a->¬ω a:=fun x z y=>by refine(a.D.sig.there x z).elim fun ob e=>?_;rw[new x y]at e;exact nn e
  haveI fJ:∀x,ω x->(fun x=>π x\/ω x) x:=fun x z=>.inr z;haveI k₁:Keeps π (fun x=>π x\/ω x) ρ aE s.heap ay:=sI az new;have kK:=fun x z ob q=>az.keep x ob q (a.D.sig.a8 x z) fun y=>y;haveI ER:Dy Γ.T Γ.B (fun x=>π x\/ω x) aE ay ae:=a.D.keeps aF k₁
  let Inv:Nat->Shared->Prop:=fun n s'=>Ug fun aA h' tk' av dY i=>zj (s'={s with heap:=h',toks:=tk'}) (W (fun x=>π x\/ω x) i aA h') (aK (fun x=>Own env x\/ω x) aE ay aA h') (cu Γ.T cx env (fun x=>π x\/ω x) aA h' dY) (Dy Γ.T Γ.B (fun x=>π x\/ω x) aA h' av) (uK (eU P d tg many b) it n i dY av fl aB ab)
  refine zd Inv ?_ n ⟨aE,ay,aI,ae,fr,0,rfl,w0,aK.refl _ _ _,(a.V.keeps k₁ (fun x z=>.inl z) (fun ob q=>kK _ a.V.a8 ob q) fun x c ob e q=>kK c (a.V.cV x c e) ob q),ER,h⟩;rintro n s' ⟨aA,h',tk',av,dY,i,rfl,W',g',V',D',HL⟩
  cases n with
  |zero=>exact HL.elim
  |succ n=>
   rcases HL with⟨qV,rfl,rfl,rfl⟩|⟨v,eQ,G3,bh,qV,⟨abi,ZJ,hb⟩,ha⟩
   ·refine wk.done _ i {s with heap:=h',toks:=tk'} aA _ _ W' D'.sig qV fun eM ki hk=>?_;haveI oo:=oh a.D.sig a.V new az g' D'.sig V' hk;exact wpAny_execs_nil (o .next aA eM ki rfl oo.2.1 oo.2.2.1 oo.2.2.2)
   ·refine wpAny_mono (wk.item _ i {s with heap:=h',toks:=tk'} aA av v (fun v' jI=>wpAny (model Γ.af Γ.w) A (assign target env v') (fun y_ j8=>wpAny (model Γ.af Γ.w) A (execs l env) (fun f dQ=>match f with
      |.next|.cont=>∃m,m<n+1/\Inv m dQ
      |.brk=>Q .next dQ
      |.ret v=>Q (.ret v) dQ) aU j8) aU jI) fJ W' D'.sig qV fun v' bA dD rv Cb dA dz=>?_) (fun r dT iW=>by obtain⟨v',er,h⟩:=iW;subst er;exact h) fun y_ y_ x=>x
    haveI yG:=V'.grow D'.sig dz fJ (off _ a.V.a8) fun x c e=>off c (a.V.cV x c e);refine rU (s:={s with heap:=bA,toks:=dD}) a.rm.handled a.es hn ht ZJ dA yG rv fun qj Az rW vv kn=>?_;have JD:∀x,x=env.locals->(fun x=>π x\/ω x) x:=fun x e=>Rw e (.inl a.V.a8);haveI K1:=(D'.grow dA dz fJ).grow rW kn JD;refine hb Γ cx env l (aR hc) A {s with heap:=qj,toks:=Az} _ aA _ ⟨a.es,a.rm,K1,vv⟩ fun f' vT fB pJ Cs qt CI jQ=>?_;have B4:=K1.grow qt jQ vv.own;have B8:=((g'.trans (dz.weak fun y_ z=>.inr z)).trans (kn.weak fun y_ z=>.inl (.inl z))).trans (jQ.weak fun y_ z=>.inl z)
    haveI JE:=wk.frame _ _ _ _ _ _ _ Cb ((kn.keeps JD).trans (jQ.keeps vv.own)) fun x ob z q=>
     jQ.keep x ob (kn.keep x ob q (dA.a8 x (.inr z)) fun e=>off _ a.V.a8 (e▸z)) (rW.a8 x (.inr z)) fun y=>by
      rcases y with e|⟨y,e⟩
      ·exact off _ a.V.a8 (e▸z)
      ·exact off x (a.V.cV y x e) z
    cases eQ with
    |next=>obtain rfl:=Cs;exact⟨n,lt_succ_self n,vT,fB,pJ,bh,G3,i+1,rfl,JE,B8,CI,B4,ha⟩
    |cont=>obtain rfl:=Cs;exact⟨n,lt_succ_self n,vT,fB,pJ,bh,G3,i+1,rfl,JE,B8,CI,B4,ha⟩
    |brk=>refine cps fun G kG=>?_;obtain rfl:=Cs;obtain⟨rfl,rfl,rfl⟩:=ha;refine kG ?_;haveI oo:=oh a.D.sig a.V new az B8 qt CI fun y_ y_ y_ e=>e;exact o .next vT fB pJ rfl oo.2.1 oo.2.2.1 oo.2.2.2
    |ret u=>
     obtain⟨EN,rfl,NH⟩:=Cs;obtain rfl:=ha.1;obtain rfl:=ha.2.1;obtain rfl:=ha.2.2
     haveI oo:=oh a.D.sig a.V new az B8 qt CI fun y_ y_ y_ e=>e;exact o (.ret EN) vT fB pJ ⟨EN,rfl,NH.mono oo.1 _ _⟩ oo.2.1 oo.2.2.1 oo.2.2.2) (aL hc)) hc
end
section
theorem jb:∀{l:List Str},l.Nodup->l.eraseDups=l
 |[]=>@fun _=>rfl
 |a::l=>@fun h=>by
  rw[nodup_cons]at h;refine Rw List.eraseDups_cons (?_)
  haveI:(l.filter fun b=>!b==a)=l:=by rw[List.filter_eq_self];intro x hx;simp only[Bool.not_eq_true',beq_eq_false_iff_ne];exact fun e=>h.1 (e▸hx)
  exact Rw this (Rw (jb h.2) rfl)
theorem sM{f:Expr->Option Str}:∀{ts:List Expr},(∀e∈ts,f e=some (nameIn e))->ts.filterMap f=ts.map nameIn
 |[]=>@fun _=>rfl
 |e::ts=>@fun h=>Rw filterMap_cons (Rw (h e mem_cons_self) (Rw (sM fun x hx=>h x (mem_cons_of_mem _ hx)) rfl))
section
variable {cx:Cx} {env:Env} {ts vs:List Expr} {k k':Nat} {pos pos':Pos}
theorem CU(h:((ts.length==2||ts.length==3)&&vs.length==ts.length)=true)(C:iF cx env):¬(!(ts.length==2||ts.length==3)||vs.length != ts.length||env.blockKind != .function)=true:=by
 haveI hb:env.blockKind=.function:=by unfold Env.blockKind;exact Rw C.kind rfl
 refine Rw (aL h) (Rw hb (Rw (eq_of_beq (aR h)) (?_)));simp
set_option backward.match.sparseCases true in
theorem oy(C:iF cx env)(h:tY cx true ts (.Tuple vs k' pos')=true):swappedStores [.Tuple ts k pos] (.Tuple vs k' pos') env=pure (some (ts.map nameIn))/\(∀e∈ts,ip cx e=true):=by
 haveI h:(bif (ts.length==2||ts.length==3)&&vs.length==ts.length then vs.all notStar&&(ts.all (ip cx)&&(decide ((ts.map nameIn).Nodup)&&(ts.all (fun e=>e.pos.line==(ts.head?.map (·.pos.line)).getD 0)&&(!vs.all (foldedForSure 8)&&!vs.all (constantsAlone 8)))))else false)=true:=h
 cases hlen:((ts.length==2||ts.length==3)&&vs.length==ts.length)with
 |false=>rw[hlen]at h;exact absurd h bf
 |true=>
  rw[hlen]at h;haveI h1:=aL h;replace h:=aR h;have hl:=all_eq_true.mp (aL h);replace h:=aR h;haveI nd:=of_decide_eq_true (aL h);replace h:=aR h;refine⟨?_,hl⟩;unfold swappedStores;dsimp only;refine Rw (if_neg (CU hlen C)) (Rw (if_neg (by exact Rw (D5 (fun e he=>by cases e<;>first|rfl|exact absurd he bf) (all_eq_true.mp h1)) bf)) (?_));rw[sM];rotate_left
  ·intro e he;haveI hp:=(all_eq_true.mp (aL h)) e he
   refine cG.ind (M:=fun e=>(e.pos.line==(ts.head?.map (·.pos.line)).getD 0)=true->(match e with
     |.Name id pos=>if(env.kindOf id==some .local&&pos.line==(ts.head?.map (·.pos.line)).getD 0)=true then some id else none
     |_=>none)=some (nameIn e)) (fun x ps ha hp=>?_) (hl e he) hp
   haveI:(env.kindOf x==some .local&&ps.line==(ts.head?.map (·.pos.line)).getD 0)=true:=Rw (C.loc x (eq_of_beq ha)) hp;exact if_pos this
  exact Rw (if_neg (by rw[jb nd,length_map];simp)) (Rw (if_neg (by exact Rw (qZ (aL (aR h))) bf)) (Rw (if_neg (by exact Rw (qZ (aR (aR h))) bf)) rfl))
theorem zu{v:Expr}(h:tY cx false ts v=true):swappedStores [.Tuple ts k pos] v env=pure none:=by
 cases hv:eO 25 v with
 |true=>exact uB hv
 |false=>
  haveI h:dB v (fun vs y_ y_=>bif (ts.length==2||ts.length==3)&&vs.length==ts.length then ts.all (eO 23)||vs.all (foldedForSure 8)else true)=true:=by unfold tY at h;haveI h:=hv▸h;exact h
  refine dB.ind (M:=fun v=>swappedStores [.Tuple ts k pos] v env=pure none) (fun vs k' pos' h=>?_) h;refine ite_eq_left_iff.mpr fun h1=>ite_eq_left_iff.mpr fun _=>ite_eq_left_iff.mpr fun h2=>ite_eq_left_iff.mpr fun h3=>?_;exfalso
  have hlen:((ts.length==2||ts.length==3)&&vs.length==ts.length)=true:=by simp only[Bool.not_eq_true,Bool.or_eq_false_iff,bne_eq_false_iff_eq,Bool.not_eq_false']at h1;refine Rw h1.1.1 (Rw h1.1.2 (?_));simp
  haveI h:=hlen▸h;refine Or.elim ((Bool.or_eq_true _ _).mp h) (fun h=>?_) fun h=>?_
  ·simp only[Bool.or_eq_true,not_or,Bool.not_eq_true,bne_eq_false_iff_eq]at h2
   rw[C4 (fun e he=>by
    have:=(all_eq_true.mp h) e he
    cases e<;>first|rfl|exact absurd this bf)]at h2
   have h0:=h2.1;cases(h0.symm▸hlen)
  ·exact h3 h
end
section
variable {P:Prog} {d:Nat} {fr aB:Fr} {σ ae av:St}
theorem Exec.bO{ts:List Tg}{x:X}{l:List V}(hx:Ev P d x fr σ (.aj l) ae)(hs:Stores P d ts l fr ae aB av):Exec P d (.bO false ts x) fr σ .next aB av:=fun Γ cx env st hc=>jE.ind (M:=fun st=>cq Γ d cx env fr σ .next aB av (exec st env)) (fun tl v p hc=>
 one.ind (M:=fun tl=>cq Γ d cx env fr σ .next aB av (exec (.Assign tl v p) env)) (fun tg hc=>dB.ind (M:=fun tg=>cq Γ d cx env fr σ .next aB av (exec (.Assign [tg] v p) env)) (fun ug k tp hc A s π ρ Q a o=>by
  haveI h4:=qZ (aL hc);replace hc:=aR hc;have h1:=aL (aR hc);haveI oo:=jC (env:=env) h1;refine wpAny_Assign_stores ((hx Γ cx env v (aR (aR hc))).val _ _ _ _ _ a fun cH aE ay aI aT aF az=>?_) (p8.trans (lu h4)) (zu (aL hc));obtain⟨q,vs,n,rfl,f,ho,rr⟩:=aT;show wpAny _ A (assign (.Tuple ug k tp) env (.ref q)) _ _ _;refine wpAny_assign_Tuple a.rm.handled (isTup ho) ?_ oo.2.1 fun h' he=>?_
  ·exact Rw oo.1 (Rw size_toArray (Rw (aQ rr) (Rw hs.len rfl)))
  ·have up:∀b o,ay.get? b=some o->h'.get? b=some o:=fun b o e=>he b o (ne_of_lt (Heap.lt_size e)) e
   exact Bp hs h1 ((a.step (tk':=aI) aF az).step (tk':=aI) (aF.up up) (.up up)) (rr.mono (.up up) _ _) fun bp aY bg aX nj aP=>o .next bp aY bg rfl aX nj ((az.trans (.up up)).own.trans aP)) hc) hc) hc
theorem nL:∀{ts:List Tg} {l:List V} {fr aB:Fr},k5 ts l fr=some aB->l.length=ts.length
 |[],[]=>@fun _=>rfl
 |[],_::_=>@fun h=>nn h
 |t::ts,[]=>by intro h;cases t<;>exact nn h
 |t::ts,v::vs=>by
  intro h
  cases t with
  |var i=>exact congrArg (· +1) (nL h)
  |attr=>exact nn h
  |item=>exact nn h
theorem Exec.Mg{ts:List Tg}{x:X}{l:List V}(hx:Ev P d x fr σ (.aj l) ae)(hs:k5 ts.reverse l.reverse fr=some aB):Exec P d (.bO true ts x) fr σ .next aB ae:=fun Γ cx env st hc=>jE.ind (M:=fun st=>cq Γ d cx env fr σ .next aB ae (exec st env)) (fun tl v p hc=>
 one.ind (M:=fun tl=>cq Γ d cx env fr σ .next aB ae (exec (.Assign tl v p) env)) (fun tg hc=>dB.ind (M:=fun tg=>cq Γ d cx env fr σ .next aB ae (exec (.Assign [tg] v p) env)) (fun ug k tp hc=>by
  haveI h4:=qZ (aL hc);replace hc:=aR hc;haveI h3:=aL hc;have h1:=aL (aR hc);haveI h2:=aR (aR hc);clear hc
  cases hv:eO 25 v with
  |true=>unfold tY at h3;rw[hv]at h3;exact absurd h3 bf
  |false=>
   haveI hT:dB v (fun y_ y_ y_=>true)=true:=by unfold tY at h3;rw[hv]at h3;exact dB.ind (M:=fun v=>dB v (fun y_ y_ y_=>true)=true) (fun y_ y_ y_ y_=>rfl) h3
   refine dB.ind (M:=fun v=>nK v=false->tY cx true ug v=true->bk Γ.T Γ.N cx x v=true->cq Γ d cx env fr σ .next aB ae (exec (.Assign [.Tuple ug k tp] v p) env)) (fun ve k' pos' y_ h4 h3 h2 A s π ρ Q a o=>?_) hT h4 h3 h2;rw[exec_Assign_arm];refine wpAny_bind (wpAny_standAt (Rw (p8.trans (lu h4)) (wpAny_bind (wpAny_pure (Rw (if_neg bf) (wpAny_bind ((hx Γ cx env _ h2).val _ _ _ _ _ a fun cH aE ay aI aT aF az=>(Rw (oy (k:=k) (pos:=tp) a.es h3).1 (wpAny_bind (wpAny_pure ?_))))))))));obtain⟨q,vs,n,rfl,f,ho,rr⟩:=aT;refine wpAny_bind (wpAny_rule ?_)
   haveI hl:(ug.map nameIn).length=(List.toArray vs).size:=by rw[length_map,(jC (env:=env) h1).2.2,size_toArray,aQ rr];simpa using(nL hs).symm
   refine Rw hl (wpAny_bind (wpAny_unpackItems_tuple a.rm.handled (isTup ho) fun h' he=>?_));have up:∀b o,ay.get? b=some o->h'.get? b=some o:=fun b o e=>he b o (ne_of_lt (Heap.lt_size e)) e;refine Rw (congrArg (List.map _) map_reverse.symm) (?_)
   exact wpAny_bind (uW (tw h1) (fun e he=>(oy (k:=k) (pos:=tp) a.es h3).2 e (List.mem_reverse.mp he)) hs ((a.step (tk':=aI) aF az).step (tk':=aI) (aF.up up) (.up up)) (vo (rr.mono (.up up) _ _)) fun bp aY bg aX nj aP=>(wpAny_pure (o .next bp aY bg rfl aX nj ((az.trans (.up up)).own.trans aP))))) hc) hc) hc
theorem Exec.sL{i k:Nat}{elt:X}{tg:List Nat}{many:Bool}{src:Src}{cond:X}{it:It}{res:List V}(hs:Iter P d src fr σ it ae)(hR:fy (bV P d elt tg many cond fr) it k 0 [] ae res av):Exec P d (.sL i elt tg many src cond) fr σ .next (fr.set i (some (.lst res))) av:=fun Γ cx env st hc=>
 jE.ind (M:=fun st=>cq Γ d cx env fr σ .next (fr.set i (some (.lst res))) av (exec st env)) (fun tl v p hc=>one.ind (M:=fun tl=>cq Γ d cx env fr σ .next (fr.set i (some (.lst res))) av (exec (.Assign tl v p) env)) (fun Yc hc=>
  cG.ind (M:=fun Yc=>cq Γ d cx env fr σ .next (fr.set i (some (.lst res))) av (exec (.Assign [Yc] v p) env)) (fun x px hn A s π ρ Q a o=>by
   have pK:=eq_of_beq (aL hn);have hk:=eq_of_beq (aR hn)
   cases hz:eO 8 v with
   |true=>exact absurd (oO.ind (M:=fun v=>eO 8 v=false) (fun y_ y_ y_ y_ y_ y_ y_=>rfl) (aR hc)) (Rw hz (fun h=>bf h.symm))
   |false=>
   refine oO.ind (M:=fun v=>bk Γ.T Γ.N cx (.comp elt tg many src cond) v=true->wpAny (model Γ.af Γ.w) A (exec (.Assign [.Name x px] v p) env) Q aU s) (fun e target iter ifs sc pp xS hE=>?_) (aR hc) (aR hc);haveI sw:∃b,swapsWith (.ListComp e [⟨target,iter,ifs,0⟩] sc pp) (some (.Name x px)) p.line env=pure b:=⟨_,rfl⟩;refine sw.elim fun b sw=>?_
   cases b with
   |false=>refine wpAny_Assign_Name ((Ev.comp hs hR Γ cx env _ hE).val _ _ _ _ _ a fun cH aE ay aI aT aF az=>?_) sw;exact gv aF a.es (a.V.step a.D.sig az) pK hk aT fun aY bg aX nj aP=>(o .next aE aY bg rfl aX nj (az.own.trans (aP.weak fun y_ z=>.inl z)))
   |true=>
    refine Rw (exec_Assign_Name_used _ _ _ _ sw) (wpAny_bind (wpAny_standAt (wpAny_bind (wpAny_bind (yh hs hR (aL xS) (aL (aR xS)) (aL (aR (aR xS))) (aR (aR (aR xS))) a (oV (oF (aL (aR xS)))) fun D C v' aA h' tk' m e lS hC r S g jT=>?_)))));subst e;have FI:∀y,y=C->s.heap.get? y=none:=fun y e=>Rw e jT;have off:∀y,π y->y≠C:=fun y z e=>by refine(a.D.sig.there y z).elim fun ob q=>?_;haveI q:=jT▸(e▸q);exact nn q
    haveI k:Keeps π (fun y=>π y\/y=C) ρ aA s.heap h':=sI g FI;have kK:=fun y z ob q=>g.keep y ob q (a.D.sig.a8 y z) fun q=>q;refine wpAny_assign_Name (gv S a.es (a.V.keeps k (fun y z=>.inl z) (fun ob q=>kK _ a.V.a8 ob q) fun y c ob e q=>kK c (a.V.cV y c e) ob q) pK hk r fun aY bg aX nj aP=>⟨m,hC.at' fun ob q=>aP.keep C ob q (S.a8 C (.inr rfl)) fun e=>off _ a.V.a8 e.symm,fun bA fi=>?_⟩)
    haveI oo:=oh a.D.sig a.V FI g (aP.weak fun y_ z=>.inl (.inl z)) aX nj fun b ob nb q=>(fi.2 b nb).trans q;exact wpAny_pure (wpAny_pure (o .next aA bA bg rfl oo.2.1 oo.2.2.1 oo.2.2.2))) (aL hc)) hc) hc
end
end
section
noncomputable def wU(o:Obj):Option (List Value):=match o.cls with
 |.type c=>match o.dict with
  |none=>match o.data with
   |.seq vs _=>bif c=="tuple"&&o.slots.isEmpty then some vs.toList else none
   |_=>none
  |some _=>none
 |_=>none
theorem Ed{o:Obj}{l:List Value}(h:wU o=some l):∃vs n,o={cls:=.type "tuple",data:=.seq vs n}/\vs.toList=l:=by
 obtain⟨c,d,da,sl⟩:=o
 cases c with
 |type c=>cases d with
  |none=>cases da with
   |seq vs n=>
    replace h:(bif c=="tuple"&&sl.isEmpty then some vs.toList else none)=some l:=h
    cases e:(c=="tuple"&&sl.isEmpty)with
    |false=>rw[e]at h;exact nn h
    |true=>rw[e]at h;haveI e:=Bool.and_eq_true_iff.mp e;exact⟨vs,n,Rw (eq_of_beq e.1) (Rw (Array.isEmpty_iff.mp e.2) rfl),oj h⟩
   |_=>exact nn h
  |some d=>exact nn h
 |_=>exact nn h
mutual
noncomputable def Ie(K:Frag):V->Value->Bool
 |.none,v=>match v with|.none=>true|_=>false
 |.bool b,v=>match v with|.bool c=>b==c|_=>false
 |.int i,v=>match v with|.int j _=>i==j|_=>false
 |.str s,v=>match v with|.str t _=>t==⟨s.toArray⟩|_=>false
 |.aj l,v=>match v with
  |.ref a=>match(K.lookup a).bind wU with
   |some vs=>zf K l vs
   |none=>false
  |_=>false
 |.lst _,_=>false
 |.obj _ _,_=>false
 |.loc _,_=>false
noncomputable def zf(K:Frag):List V->List Value->Bool
 |[],l=>l.isEmpty
 |x::r,l=>match l with
  |v::t=>Ie K x v&&zf K r t
  |[]=>false
end
section
variable {K:Frag} {T:Tab} {B:Heap}
theorem gw(a:Addr):¬(bG a\/ff [] a):=fun z=>z.elim id fun⟨n,p,e,_⟩=>by simp at e
mutual
theorem xP(X:K.In B):∀(x:V) (v:Value),Ie K x v=true->Rel T bG [] B x v
 |.none=>@fun v h=>by cases v<;>first|rfl|exact absurd h bf
 |.bool b=>@fun v h=>by cases v<;>first|exact congrArg Value.bool (eq_of_beq h).symm|exact absurd h bf
 |.int i=>@fun v h=>by cases v<;>first|(exact⟨_,congrArg (Value.int · _) (eq_of_beq h).symm⟩)|exact absurd h bf
 |.str s=>@fun v h=>by cases v<;>first|(exact⟨_,congrArg (Value.str · _) (eq_of_beq h)⟩)|exact absurd h bf
 |.aj l=>@fun v h=>by
  cases v with
  |ref a=>
   replace h:(match(K.lookup a).bind wU with|some vs=>zf K l vs|none=>false)=true:=h
   cases e:(K.lookup a).bind wU with
   |none=>haveI h:=e▸h;exact absurd h bf
   |some vs=>haveI h:=e▸h;refine cps fun G kG=>?_;obtain⟨o,e1,e2⟩:=Option.bind_eq_some_iff.mp e;obtain⟨ws,n,rfl,rfl⟩:=Ed e2;exact kG ⟨a,ws.toList,n,rfl,gw a,X _ _ e1,oQ X l ws.toList h⟩
  |_=>exact absurd h bf
 |.lst _=>@fun _ h=>absurd h bf
 |.obj _ _=>@fun _ h=>absurd h bf
 |.loc _=>@fun _ h=>absurd h bf
theorem oQ(X:K.In B):∀(x:List V) (v:List Value),zf K x v=true->bj T bG [] B x v
 |[]=>@fun l h=>isEmpty_iff.mp h
 |x::r=>@fun l h=>by
  cases l with
  |nil=>exact absurd h bf
  |cons v t=>exact⟨v,t,rfl,xP X x v (Bool.and_eq_true_iff.mp h).1,oQ X r t (Bool.and_eq_true_iff.mp h).2⟩
end
end
section
variable (K:Frag) (T:Tab) (N:Nm) (P:Prog) (fa:Nat->Addr) (iH:Nat->List (Str×Nat))
noncomputable def Cu(v:Value):Option (List Value):=match v with
 |.none=>some []
 |.ref t=>match K.lookup t with
  |some ⟨_,_,.seq ds _,_⟩=>some ds.toList
  |_=>none
 |_=>none
noncomputable def nsOk(sc:Scope)(slot:List (Str×Nat)):List Str->Nat->Bool
 |[],_=>true
 |x::r,i=>slot.lookup x==some i&&(match sc.names.lookup x with|some .local=>true|some .cell=>true|_=>false)&&nsOk sc slot r (i+1)
noncomputable def vZ(o:Obj):Option FuncData:=match o.data with|.func fd=>some fd|_=>none
noncomputable def xH(b:FuncBody):Option (List Stmt):=match b with|.stmts l=>some l|_=>none
noncomputable def IG(fd:FuncData):Bool:=fd.closure.isEmpty&&(!fd.scope.isCoroutine&&(!fd.scope.isGenerator&&(fd.scope.kind==.function&&(fd.globals==mainGlobals&&(fd.builtins==builtinsNs&&(codeIn K fd.code fd.qualname&&(fd.params.posonlyargs.isEmpty&&(fd.params.vararg.isNone&&(fd.params.kwonlyargs.isEmpty&&fd.params.kwarg.isNone)))))))))
noncomputable def Ku(f:Nat):Bool:=(K.lookup (fa f)).any fun o=>(vZ o).any fun fd=>(xH fd.body).any fun body=>(Cu K fd.defaults).any fun ds=>
 IG K fd&&(decide ((fd.params.args.map (·.arg)).Nodup)&&(Nat.beq (fd.params.args.map (·.arg)).length (P.fn f).params&&(Nat.ble ds.length (fd.params.args.map (·.arg)).length&&(zf K (P.fn f).dflt (ds.drop (ds.length-(P.fn f).dflt.length))&&(Nat.ble (P.fn f).dflt.length ds.length&&
 (nsOk fd.scope (iH f) (fd.params.args.map (·.arg)) 0&&(decide (((iH f).map (·.2)).Nodup)&&(fd.scope.names.all (fun x=>x.2 != .free)&&kz T N ⟨fd.scope,iH f⟩ (P.fn f).body body))))))))
end
theorem vM{sc:Scope}{slot:List (Str×Nat)}:∀{l:List Str} {k:Nat},nsOk sc slot l k=true->∀i x,l[i]?=some x->slot.lookup x=some (k+i)/\(sc.names.lookup x=some .local\/sc.names.lookup x=some .cell)
 |[],_,_,i=>@fun x e=>by simp at e
 |y::r,k,h,0=>@fun x e=>by
  replace e:=oj e;subst e;haveI h:=Bool.and_eq_true_iff.mp (Bool.and_eq_true_iff.mp h).1;refine⟨eq_of_beq h.1,?_⟩;have w:=h.2
  cases q:sc.names.lookup y with
  |none=>haveI w:=q▸w;exact absurd w bf
  |some kd=>haveI w:=q▸w;cases kd<;>first|exact .inl rfl|exact .inr rfl|exact absurd w bf
 |y::r,k,h,i+1=>@fun x e=>(Jj)▸vM (Bool.and_eq_true_iff.mp h).2 i x e
set_option tactic.hygienic true in
theorem uV:∀{l:List (Str×Nat)},(l.map (·.2)).Nodup->∀x y i,l.lookup x=some i->l.lookup y=some i->x=y
 |[]=>@fun _ x y i e _=>by simp at e
 |(z,j)::r=>@fun nd x y i e e'=>by
  simp only[map_cons,nodup_cons]at nd;rw[lookup_cons]at e e'
  split at e<;>split at e'
  ·rename_i h1 _ h2;rw[beq_iff_eq]at h1 h2;exact Rw h1 (Rw h2 rfl)
  ·replace e:=oj e;subst e;exact((fun u q=>nd.1 (mem_map.mpr ⟨(u,j),mem_of_lookup q,rfl⟩)) _ e').elim
  ·replace e':=oj e';subst e';exact((fun u q=>nd.1 (mem_map.mpr ⟨(u,j),mem_of_lookup q,rfl⟩)) _ e).elim
  ·exact uV nd.2 x y i e e'
theorem rq{α:Type}{o:Option α}{p:α->Bool}(h:o.any p=true):∃a,o=some a/\p a=true:=by
 cases o with
 |none=>exact absurd h bf
 |some a=>exact⟨a,rfl,h⟩
theorem Fy{o:Obj}{fd:FuncData}(h:vZ o=some fd):o.data=.func fd:=by unfold vZ at h;cases e:o.data<;>haveI h:=e▸h<;>first|exact nn h|exact congrArg Data.func (oj h)
theorem Eb{b:FuncBody}{l:List Stmt}(h:xH b=some l):b=.stmts l:=by cases b<;>first|(replace h:=oj h;subst h;rfl)|exact nn h
theorem Gx{K:Frag}{v:Value}{ds:List Value}(h:Cu K v=some ds):(v=.none/\ds=[])\/mQ fun t o n=>eF (v=.ref t) (K.lookup t=some o) (o.data=.seq ds.toArray n):=by
 cases v with
 |none=>replace h:=oj h;subst h;exact .inl ⟨rfl,rfl⟩
 |ref t=>
  haveI h:(match K.lookup t with|some ⟨_,_,.seq ds _,_⟩=>some ds.toList|_=>none)=some ds:=h
  cases e:K.lookup t with
  |none=>haveI h:=e▸h;exact nn h
  |some o=>replace h:=e▸h;obtain⟨c,dd,da,sl⟩:=o;cases da<;>first|exact nn h|(replace h:=oj h;subst h;exact .inr ⟨t,_,_,rfl,e,rfl⟩)
 |_=>exact nn h
theorem HP{K:Frag}{T:Tab}{N:Nm}{P:Prog}{fa:Nat->Addr}{iH:Nat->List (Str×Nat)}{B:Heap}(X:K.In B){f:Nat}(h:Ku K T N P fa iH f=true):kJ K T N P fa B f:=by refine cps fun G kG=>?_;obtain⟨o,ko,h⟩:=rq h;obtain⟨fd,hd,h⟩:=rq h;obtain⟨body,hb,h⟩:=rq h;obtain⟨ds,DG,h⟩:=rq h;refine kG ?_;haveI p1:=aL h;replace h:=aR h;haveI p2:=aR p1;haveI p3:=aR p2;haveI p4:=aR p3;haveI p5:=aR p4;haveI p7:=aR (aR p5);haveI p9:=aR (aR p7);haveI h1:=aR h;haveI h2:=aR h1;haveI h4:=aR (aR h2);haveI h6:=aR (aR h4);exact⟨o,fd,body,iH f,fd.params.args.map (·.arg),ds,Xh.mk (ko:=ko) (dd:=Fy hd) (db:=Eb hb) (dcl:=isEmpty_iff.mp (aL p1)) (dco:=qZ (aL p2)) (dge:=qZ (aL p3)) (dk:=eq_of_beq (aL p4)) (dg:=eq_of_beq (aL p5)) (dbn:=eq_of_beq (aL (aR p5))) (dcode:=aL p7) (p1:=isEmpty_iff.mp (aL (aR p7))) (p2:=rfl) (p3:=Option.isNone_iff_eq_none.mp (aL p9)) (p4:=isEmpty_iff.mp (aL (aR p9))) (p5:=Option.isNone_iff_eq_none.mp (aR (aR p9))) (nd:=of_decide_eq_true (aL h)) (nl:=eq_of_beq_eq_true (aL h1)) (dl:=bl (aL h2)) (ddf:=Gx DG) (rd:=oQ X _ _ (aL (aR h2))) (dle:=bl (aL h4)) (hs:=fun i x q=>(zero_add i▸vM (aL (aR h4)) i x q)) (hsl:=uV (of_decide_eq_true (aL h6))) (hfree:=fun x hx q=>absurd (q▸((all_eq_true.mp (aL (aR h6))) x hx)) (by decide)) (hchk:=aR (aR h6))⟩
noncomputable def AL(K:Frag)(T:Tab)(P:Prog)(fa:Nat->Addr)(c:Nat):Bool:=findIn K (.ref (T.cls c)) "__getattribute__"==some (some (.builtin "object.__getattribute__"))&&findIn K (.ref (T.cls c)) "__getattr__"==some none&&findIn K (.ref (T.cls c)) "__setattr__"==some (some (.builtin "object.__setattr__"))&&
 plainOver K (T.cls c)&&hasDictIn K (T.cls c)&&makesIn K (T.cls c)&&(findIn K (.ref (T.cls c)) "__init__"==some (some (.ref (fa (P.init c))))&&isFn K (.ref (fa (P.init c))))&&
 (List.range T.n).all fun k=>match P.aC c k with
  |none=>findIn K (.ref (T.cls c)) (T.fk k)==some none&&takerIn K (T.cls c) (T.fk k)==some none
  |some f=>findIn K (.ref (T.cls c)) (T.fk k)==some (some (.ref (fa f)))&&isFn K (.ref (fa f))
theorem FA{K:Frag}{T:Tab}{P:Prog}{fa:Nat->Addr}{c:Nat}(hm:∀k f,P.aC c k=some f->k<T.n)(h:AL K T P fa c=true):jG K T P fa c:=by
 unfold AL at h;simp only[Bool.and_eq_true,all_eq_true,mem_range]at h;refine cps fun G kG=>?_;obtain⟨⟨⟨⟨⟨⟨⟨c1,c2⟩,c3⟩,c4⟩,c5⟩,c6⟩,c7,c8⟩,c9⟩:=h;refine kG ⟨eq_of_beq c1,eq_of_beq c2,eq_of_beq c3,c4,c5,c6,fun k hk e=>?_,fun k f e=>?_,eq_of_beq c7,c8⟩
 ·haveI:=c9 k hk;rw[e]at this;simp only[Bool.and_eq_true]at this;exact⟨eq_of_beq this.1,eq_of_beq this.2⟩
 ·haveI:=c9 k (hm k f e);rw[e]at this;simp only[Bool.and_eq_true]at this;exact⟨hm k f e,eq_of_beq this.1,this.2⟩
end
end
section
set_option genCtorIdx false in inductive H where
 |ao (σ:St)
 |put (h:H) (n:Nat) (o:O)
 |add (h:H) (o:O)
noncomputable def H.ctorIdx(x:H):Nat:=H.casesOn x (fun y_=>0) (fun y_ y_ y_=>1) (fun y_ y_=>2)
abbrev H.z{σ:St}:H:=.ao σ
set_option genCtorIdx false in inductive Key where
 |loc (n:Nat)
 |at(n:Nat) (σ:St)
 |call (d f:Nat) (vs:List V) (σ:St)
 |cL (d:Nat) (c:X) (b:Ss) (fr:Fr) (σ:St)
 |dN (d:Nat) (tg:List Nat) (many:Bool) (b:Ss) (it:It) (fr:Fr) (σ:St)
 |comp (d:Nat) (elt:X) (tg:List Nat) (many:Bool) (cond:X) (fr:Fr) (it:It) (σ:St)
 |idx (l:List V) (k:Int)
 |fF (l:List Nat) (k:Int)
 |bx (l:List (Int×V)) (k:Int)
 |aw (k:Int) (n:Nat)
 |dV (a lo hi:V)
 |pop (l:List V)
 |join (l:List V)
 |bin (o:rg) (x y:V)
 |b1 (o:B1) (x:V)
noncomputable def Key.ctorIdx(x:Key):Nat:=Key.casesOn x (fun y_=>0) (fun y_ y_=>1) (fun y_ y_ y_ y_=>2) (fun y_ y_ y_ y_ y_=>3) (fun y_ y_ y_ y_ y_ y_ y_=>4) (fun y_ y_ y_ y_ y_ y_ y_ y_=>5) (fun y_ y_=>6) (fun y_ y_=>7) (fun y_ y_=>8) (fun y_ y_=>9) (fun y_ y_ y_=>10) (fun y_=>11) (fun y_=>12) (fun y_ y_ y_=>13) (fun y_ y_=>14)
set_option genCtorIdx false in inductive ix where
 |v (v:V)
 |vh (v:V) (h:H)
 |fl (f:Fl) (fr:Fr) (h:H)
 |lh (l:List V) (h:H)
 |c (c:Nat)
 |s (l:List Nat)
 |p (v:V) (l:List V)
noncomputable def ix.ctorIdx(x:ix):Nat:=ix.casesOn x (fun y_=>0) (fun y_ y_=>1) (fun y_ y_ y_=>2) (fun y_ y_=>3) (fun y_=>4) (fun y_=>5) (fun y_ y_=>6)
noncomputable def H.den:H->St
 |.ao σ=>σ
 |.put h n o=>h.den.set n o
 |.add h o=>h.den++[o]
noncomputable def H.len:H->Nat
 |.ao σ=>σ.length
 |.put h _ _=>h.len
 |.add h _=>h.len+1
noncomputable def H.wf:H->Prop
 |.ao _=>True
 |.put h n _=>n<h.len/\h.wf
 |.add h _=>h.wf
noncomputable def idx(l:List V)(k:Int):Option V:=(aw k l.length).bind fun j=>l[j]?
noncomputable def fF(l:List Nat)(k:Int):Option Nat:=(aw k l.length).bind fun j=>l[j]?
noncomputable def cg(step:V->Fr->St->Fl->Fr->St->Prop):List V->Fr->St->Fl->Fr->St->Prop
 |[],fr,σ,fl,aB,ab=>fl=.next/\aB=fr/\ab=σ
 |v::r,fr,σ,fl,aB,ab=>∃eQ aG ae,step v fr σ eQ aG ae/\After (cg step r) eQ aG ae fl aB ab
noncomputable def bw(step:V->St->Option V->St->Prop):List V->List V->St->List V->St->Prop
 |[],acc,σ,res,ab=>res=acc/\ab=σ
 |v::r,acc,σ,res,ab=>(∃x ae,step v σ (some x) ae/\acc.length<lim/\bw step r (acc++[x]) ae res ab)\/∃ae,step v σ none ae/\bw step r acc ae res ab
def Ce(P:Prog)(k:Key)(a:ix):Prop:=match k with
 |.call d f vs σ=>∃v h,a=.vh v h/\Run P d f vs σ v h.den
 |.cL d c b fr σ=>∃f aB h,a=.fl f aB h/\∃n,Et P d c b n fr σ f aB h.den
 |.dN d tg many b it fr σ=>∃f aB h,a=.fl f aB h/\∃n,uK (eU P d tg many b) it n 0 fr σ f aB h.den
 |.comp d elt tg many cond fr it σ=>∃l h,a=.lh l h/\∃n,fy (bV P d elt tg many cond fr) it n 0 [] σ l h.den
 |.idx l k=>∃v,a=.v v/\idx l k=some v
 |.fF l k=>∃c,a=.c c/\fF l k=some c
 |.bx l k=>∃v,a=.v v/\bx k l=some v
 |.aw k n=>∃j,a=.c j/\0<=k/\aw k n=some j
 |.dV x lo hi=>∃v,a=.v v/\fp x lo hi=some v
 |.pop l=>∃v l',a=.p v l'/\l.getLast?=some v/\l.dropLast=l'
 |.join l=>∃s,a=.s s/\gG l=some s
 |.bin o x y=>∃v,a=.v v/\∀σ,binop o σ x y=some v
 |.b1 o x=>∃v,a=.v v/\∀σ,gU o σ x=some v
 |_=>False
structure Fact(P:Prog) where
 k:Key
 a:ix
 h:Ce P k a
structure Cell where
 σ:St
 n:Nat
 o:O
 h:σ[n]?=some o
structure W(P:Prog) where
 h:H
 t:Nat
 g:List (Fact P)
set_option genCtorIdx false in inductive Jd where
 |nil
 |key (a b:Key)
 |prop (p:Prop)
 |app (x y:Jd)
noncomputable def Jd.ctorIdx(x:Jd):Nat:=Jd.casesOn x 0 (fun y_ y_=>1) (fun y_=>2) (fun y_ y_=>3)
set_option genCtorIdx false in inductive Q where
 |cmp (o:oH) (h:H) (x y:V)
 |call (d f:Nat) (vs:List V) (h:H)
 |key (k:Key)
 |put (n m:Nat)
 |cell (n:Nat) (σ:St)
 |emp (l:List V)
 |pop (l:List V)
 |Z9 (l:List (Int×V)) (k:Int)
 |wr (n:Nat) (h:H)
noncomputable def Q.ctorIdx(x:Q):Nat:=Q.casesOn x (fun y_ y_ y_ y_=>0) (fun y_ y_ y_ y_=>1) (fun y_=>2) (fun y_ y_=>3) (fun y_ y_=>4) (fun y_=>5) (fun y_=>6) (fun y_ y_=>7) (fun y_ y_=>8)
set_option genCtorIdx false in inductive Res (P:Prog) (α:Type) where
 |ok (a:α) (w:W P) (j:Jd)
 |ask (q:Q)
 |bad (n:Nat)
noncomputable def Res.ctorIdx{P:Prog}{α:Type}(x:Res P α):Nat:=Res.casesOn x (fun y_ y_ y_=>0) (fun y_=>1) (fun y_=>2)
section
variable (P:Prog)
noncomputable def ret{α:Type}(a:α):W P->Res P α:=fun w=>.ok a w .nil
noncomputable def bad{α:Type}(n:Nat):W P->Res P α:=fun y_=>.bad n
noncomputable def lift{α:Type}(n:Nat)(o:Option α):W P->Res P α:=match o with|some a=>ret P a|none=>bad P n
noncomputable def tok(q:H->Q):W P->Res P Nat:=fun w=>match w with
 |⟨h,t,g⟩=>bif Nat.beq t 0 then .ok 1 ⟨h,0,g⟩ .nil else bif Nat.beq (t%16) 15 then .ask (q h)else .ok (t%16) ⟨h,t / 16,g⟩ .nil
noncomputable def guard(p:Prop):W P->Res P Unit:=fun w=>.ok () w (.prop p)
noncomputable def same(a b:Key):W P->Res P Unit:=fun w=>.ok () w (.key a b)
noncomputable def heap:W P->Res P H:=fun w=>.ok w.h w .nil
noncomputable def fact(k:Key):W P->Res P ix:=fun w=>match w with
 |⟨h,t,g⟩=>match g with
  |⟨k',a,_⟩::g'=>.ok a ⟨h,t,g'⟩ (.key k k')
  |[]=>.ask (.key k)
noncomputable def kr(h:H):W P->Res P Unit:=fun w=>match w with
 |⟨_,t,g⟩=>match h with
  |.ao σ=>.ok () ⟨.ao σ,t,g⟩ .nil
  |h=>.ok () ⟨h,t,g⟩ (.prop h.wf)
noncomputable def rS(n:Nat)(o:O):W P->Res P Unit:=fun w=>match w with
 |⟨h,t,g⟩=>.ok () ⟨.put h n o,t,g⟩ .nil
noncomputable def alloc(o:O):W P->Res P Nat:=fun w=>match w with
 |⟨h,t,g⟩=>.ok h.len ⟨.add h o,t,g⟩ .nil
noncomputable def cK(v:V):W P->Res P Int:=match v with|.int i=>ret P i|_=>bad P 2
noncomputable def dU(v:V):W P->Res P Bool:=match v with|.bool i=>ret P i|_=>bad P 3
noncomputable def eH(v:V):W P->Res P Nat:=match v with|.loc i=>ret P i|_=>bad P 4
noncomputable def j6(v:V):W P->Res P (List V):=match v with|.lst i=>ret P i|_=>bad P 5
noncomputable def xr(v:V):W P->Res P (List V):=match v with|.aj i=>ret P i|_=>bad P 6
noncomputable def kB(v:V):W P->Res P (List Nat):=match v with|.str i=>ret P i|_=>bad P 7
noncomputable def lg(v:V):W P->Res P Unit:=match v with|.none=>ret P ()|_=>bad P 8
noncomputable def rA(o:O):W P->Res P (List V):=match o with|.list l=>ret P l|_=>bad P 9
noncomputable def rE(o:O):W P->Res P (Nat×List (Nat×V)):=match o with|.inst c l=>ret P (c,l)|_=>bad P 10
noncomputable def sr(a:ix):W P->Res P V:=match a with|.v v=>ret P v|_=>bad P 11
noncomputable def Hm(a:ix):W P->Res P (V×List V):=match a with|.p v l=>ret P (v,l)|_=>bad P 32
noncomputable def H4(a:ix):W P->Res P (List Nat):=match a with|.s v=>ret P v|_=>bad P 34
noncomputable def C0(a:ix):W P->Res P Nat:=match a with|.c v=>ret P v|_=>bad P 12
end
section
variable {P:Prog}
noncomputable def ak{α β:Type}(m:W P->Res P α)(f:α->W P->Res P β):W P->Res P β:=fun w=>
 match m w with
 |.ok a w' j=>match f a w' with
  |.ok b ZZ j'=>.ok b ZZ (.app j j')
  |.ask q=>.ask q
  |.bad n=>.bad n
 |.ask q=>.ask q
 |.bad n=>.bad n
end
section
variable (P:Prog) (cells:List Cell)
noncomputable def nq(n:Nat)(o:O):H->W P->Res P H
 |.ao _=>bad P 60
 |.put h m x=>ak (tok P fun y_=>.put n m) fun k=>bif Nat.beq k 1 then ak (same P (.loc n) (.loc m)) (fun y_=>ret P (.put h n o))else ak (guard P (n≠m)) fun y_=>ak (nq n o h) fun h'=>ret P (.put h' m x)
 |.add h x=>ak (tok P fun y_=>.put n h.len) fun k=>bif Nat.beq k 1 then ak (same P (.loc n) (.loc h.len)) (fun y_=>ret P (.add h o))else ak (nq n o h) fun h'=>ret P (.add h' x)
noncomputable def s7(h:H):W P->Res P Unit:=fun w=>match w with
 |⟨_,t,g⟩=>.ok () ⟨h,t,g⟩ .nil
noncomputable def B0(n:Nat)(o:O):W P->Res P Unit:=ak (heap P) fun h=>match h with
 |.ao _=>rS P n o
 |h=>ak (tok P fun h=>.wr n h) fun k=>bif Nat.beq k 1 then rS P n o else ak (nq P n o h) (s7 P)
noncomputable def j7(n:Nat):H->W P->Res P O
 |.ao σ=>ak (tok P fun y_=>.cell n σ) fun k=>ak (lift P 1 cells[k-1]?) fun c=>ak (same P (.at n σ) (.at c.n c.σ)) fun y_=>ret P c.o
 |.put h m o=>ak (tok P fun y_=>.put n m) fun k=>bif Nat.beq k 1 then ak (same P (.loc n) (.loc m)) (fun y_=>ret P o)else ak (guard P (n≠m)) (fun y_=>j7 n h)
 |.add h o=>ak (tok P fun y_=>.put n h.len) fun k=>bif Nat.beq k 1 then ak (same P (.loc n) (.loc h.len)) (fun y_=>ret P o)else j7 n h
noncomputable def look(n:Nat):W P->Res P O:=ak (heap P) (j7 P cells n)
noncomputable def write(n:Nat)(o:O):W P->Res P Unit:=ak (look P cells n) fun y_=>B0 P n o
noncomputable def dI(n:Nat):W P->Res P (List V):=ak (look P cells n) (rA P)
noncomputable def oY(n:Nat):W P->Res P (Nat×List (Nat×V)):=ak (look P cells n) (rE P)
noncomputable def pureO{α:Type}(n:Nat)(f:St->Option α):W P->Res P α:=ak (heap P) fun h=>lift P n (f h.den)
noncomputable def B6(l:List V):W P->Res P Bool:=ak (tok P fun y_=>.emp l) fun k=>
 bif Nat.beq k 1 then ret P l.isEmpty else bif Nat.beq k 2 then ak (guard P (l=[])) (fun y_=>ret P true)else ak (guard P (l≠[])) (fun y_=>ret P false)
noncomputable def rj(y:V):W P->Res P Unit:=ak (j6 P y) fun l=>match l with|[]=>ret P ()|_=>bad P 13
noncomputable def F3(o:oH)(x y:V):Option (Prop×Prop):=match x with
 |.int a=>match y with
  |.int b=>match o with
   |.lt=>some (a<b,¬a<b)
   |.le=>some (a<=b,¬a<=b)
   |.gt=>some (b<a,¬b<a)
   |.ge=>some (b<=a,¬b<=a)
   |.eq=>some (a=b,¬a=b)
   |.ne=>some (¬a=b,a=b)
   |_=>none
  |_=>none
 |.str a=>match y with
  |.str b=>match o with
   |.eq=>some (a=b,¬a=b)
   |.ne=>some (¬a=b,a=b)
   |_=>none
  |_=>none
 |_=>none
noncomputable def qK(o:oH)(x y:V):W P->Res P Bool:=ak (tok P fun h=>.cmp o h x y) fun k=>
 bif Nat.beq k 1 then pureO P 14 (fun σ=>eg o σ x y)
 else bif Nat.beq k 2 then ak (lift P 58 (F3 o x y)) fun p=>ak (guard P p.1) (fun y_=>ret P true)
 else bif Nat.beq k 3 then ak (lift P 59 (F3 o x y)) fun p=>ak (guard P p.2) (fun y_=>ret P false)
 else bif Nat.beq k 4 then ak (eH P x) fun n=>ak (rj P y) fun y_=>ak (dI P cells n) fun l=>ak (B6 P l) fun b=>
  match o with|.eq=>ret P b|.ne=>ret P (!b)|_=>bad P 15
 else ak (heap P) fun h=>ak (guard P (eg o h.den x y=some (Nat.beq k 5))) (fun y_=>ret P (Nat.beq k 5))
noncomputable def Cy(o:rg)(x y:V):W P->Res P V:=match o,x,y with
 |.add,.int a,.int b=>ret P (.int (a+b))
 |.sub,.int a,.int b=>ret P (.int (a-b))
 |.add,.loc n,.lst r=>ak (dI P cells n) fun l=>ak (guard P (l.length+r.length<=1000000)) fun y_=>ret P (.lst (l++r))
 |o,x,y=>ak (fact P (.bin o x y)) (sr P)
noncomputable def qA(l:List V)(k:Int):W P->Res P V:=ak (tok P fun y_=>.key (.idx l k)) fun t=>
 bif Nat.beq t 1 then lift P 16 (Internal.idx l k)else ak (fact P (.idx l k)) (sr P)
noncomputable def wY(l:List Nat)(k:Int):W P->Res P Nat:=ak (tok P fun y_=>.key (.fF l k)) fun t=>
 bif Nat.beq t 1 then lift P 17 (Internal.fF l k)else ak (fact P (.fF l k)) (C0 P)
noncomputable def wO(l:List (Int×V))(k:Int):W P->Res P V:=ak (tok P fun y_=>.key (.bx l k)) fun t=>
 bif Nat.beq t 1 then lift P 18 (bx k l)else ak (fact P (.bx l k)) (sr P)
noncomputable def B9(x y:V):W P->Res P V:=ak (cK P y) fun k=>match x with
 |.str s=>ak (wY P s k) fun c=>ret P (.str [c])
 |.aj l=>qA P l k
 |.lst l=>qA P l k
 |.loc n=>ak (look P cells n) fun o=>match o with
  |.list l=>qA P l k
  |.dict l=>wO P l k
  |_=>bad P 19
 |_=>bad P 20
noncomputable def Cz(x y z:V):W P->Res P V:=ak (tok P fun y_=>.key (.dV x y z)) fun t=>
 bif Nat.beq t 1 then lift P 21 (fp x y z)else ak (fact P (.dV x y z)) (sr P)
noncomputable def gp(n:Nat):W P->Res P Unit:=guard P (n<=1000000)
noncomputable def oD(x:V):W P->Res P (List V):=match x with
 |.aj l=>ret P l
 |.lst l=>ret P l
 |.loc n=>dI P cells n
 |_=>bad P 22
noncomputable def f7(x:V):W P->Res P (List V):=match x with
 |.lst l=>ret P l
 |.loc n=>dI P cells n
 |_=>bad P 23
noncomputable def HO(b:B1)(x:V):W P->Res P V:=match b with
 |.len=>match x with
  |.str s=>ak (gp P s.length) fun y_=>ret P (.int s.length)
  |x=>ak (oD P cells x) fun l=>ak (gp P l.length) fun y_=>ret P (.int l.length)
 |.list=>ak (f7 P cells x) fun l=>ak (gp P l.length) fun y_=>ret P (.lst l)
 |.tuple=>ak (f7 P cells x) fun l=>ak (gp P l.length) fun y_=>ret P (.aj l)
 |b=>ak (tok P fun y_=>.key (.b1 b x)) fun t=>bif Nat.beq t 1 then pureO P 24 (fun σ=>gU b σ x)else ak (fact P (.b1 b x)) (sr P)
noncomputable def oN(x:V):W P->Res P (Nat×List (Nat×V)):=match x with
 |.obj c fs=>ret P (c,fs)
 |.loc n=>oY P cells n
 |_=>bad P 25
noncomputable def uq{α:Type}(o:Option α):W P->Res P Unit:=match o with|none=>ret P ()|some _=>bad P 26
noncomputable def wu(x:V)(k:Nat):W P->Res P V:=ak (oN P cells x) fun p=>ak (uq P (P.aC p.1 k)) fun y_=>lift P 27 (field k p.2)
noncomputable def xi(x:V)(k:Nat):W P->Res P Nat:=ak (oN P cells x) fun p=>ak (uq P (field k p.2)) fun y_=>lift P 28 (P.aC p.1 k)
noncomputable def rJ(x:V):W P->Res P It:=match x with
 |.aj l=>ret P (.vals l)
 |.lst l=>ret P (.vals l)
 |.str s=>ak (guard P (s.all (· <128)=true)) fun y_=>ret P (.vals (signs s))
 |.loc n=>ak (dI P cells n) fun y_=>ret P (.live n)
 |_=>bad P 29
noncomputable def BP(x:V):W P->Res P V:=ak (eH P x) fun n=>ak (look P cells n) fun o=>match o with
 |.list l=>ak (write P cells n .dead) fun y_=>ret P (.lst l)
 |.inst c fs=>ak (write P cells n .dead) fun y_=>ret P (.obj c fs)
 |_=>bad P 30
noncomputable def Cp(l:List V):W P->Res P (V×List V):=ak (tok P fun y_=>.pop l) fun t=>
 bif Nat.beq t 1 then ak (lift P 31 l.getLast?) fun v=>ret P (v,l.dropLast)
 else ak (fact P (.pop l)) (Hm P)
noncomputable def wV(l:List V):W P->Res P (List Nat):=ak (tok P fun y_=>.key (.join l)) fun t=>
 bif Nat.beq t 1 then lift P 33 (gG l)else ak (fact P (.join l)) (H4 P)
noncomputable def uZ(o:O):W P->Res P Unit:=match o with|.dict []=>ret P ()|_=>bad P 35
noncomputable def BL(i:Int):W P->Res P Unit:=match i with|.negSucc 0=>ret P ()|_=>bad P 36
noncomputable def Ic(s:List Nat):W P->Res P Nat:=match s with|[c]=>ret P c|_=>bad P 37
noncomputable def iG(step:V->W P->Res P (Option V)):List V->List V->W P->Res P (List V)
 |[],acc=>ret P acc
 |v::r,acc=>ak (step v) fun o=>match o with
  |some x=>bif Nat.blt acc.length 1000000 then iG step r (acc++[x])else bad P 38
  |none=>iG step r acc
noncomputable def ks(step:V->Fr->W P->Res P (Fl×Fr)):List V->Fr->W P->Res P (Fl×Fr)
 |[],fr=>ret P (.next,fr)
 |v::r,fr=>ak (step v fr) fun p=>match p.1 with
  |.next=>ks step r p.2
  |.cont=>ks step r p.2
  |.brk=>ret P (.next,p.2)
  |.ret v=>ret P (.ret v,p.2)
noncomputable def vals(it:It):W P->Res P (List V):=match it with|.vals l=>ret P l|_=>bad P 39
noncomputable def uI(a:ix):W P->Res P V:=match a with|.vh v h=>ak (kr P h) (fun y_=>ret P v)|_=>bad P 53
noncomputable def CA(a:ix):W P->Res P V:=match a with|.lh v h=>ak (kr P h) (fun y_=>ret P (.lst v))|_=>bad P 45
noncomputable def u4(a:ix):W P->Res P (Fl×Fr):=match a with|.fl f fr h=>ak (kr P h) (fun y_=>ret P (f,fr))|_=>bad P 40
section
variable (d:Nat) (c:Nat->List V->W P->Res P V)
mutual
noncomputable def bI:X->Fr->W P->Res P V
 |.cst v,_=>ret P v
 |.gc g,_=>ret P (P.const g)
 |.var i,fr=>ak (lift P 41 fr[i]?) (lift P 42)
 |.neg a,fr=>ak (bI a fr) fun x=>ak (cK P x) fun i=>ret P (.int (-i))
 |.nt a,fr=>ak (bI a fr) fun x=>ak (dU P x) fun b=>ret P (.bool (!b))
 |.bo k es,fr=>ak (EF k es fr) fun b=>ret P (.bool b)
 |.cmp o a b,fr=>ak (bI a fr) fun x=>ak (bI b fr) fun y=>ak (qK P cells o x y) fun r=>ret P (.bool r)
 |.iI o p a b e,fr=>ak (bI a fr) fun x=>ak (bI b fr) fun y=>ak (qK P cells o x y) fun r=>bif r then ak (bI e fr) (fun z=>ak (qK P cells p y z) fun r=>ret P (.bool r))else ret P (.bool false)
 |.bin o a b,fr=>ak (bI a fr) fun x=>ak (bI b fr) fun y=>Cy P cells o x y
 |.eG e a b,fr=>ak (bI e fr) fun x=>ak (dU P x) fun r=>bif r then bI a fr else bI b fr
 |.aj es,fr=>ak (qr es fr) fun l=>ret P (.aj l)
 |.lst es,fr=>ak (qr es fr) fun l=>ret P (.lst l)
 |.dS es,fr=>ak (qr es fr) fun l=>ak (alloc P (.list l)) fun n=>ret P (.loc n)
 |.qB,_=>ak (alloc P (.dict [])) fun n=>ret P (.loc n)
 |.qT a,fr=>ak (bI a fr) (BP P cells)
 |.bad,_=>bad P 43
 |.rep a n,fr=>ak (bI a fr) fun x=>ak (bI n fr) fun y=>ak (cK P y) fun k=>ak (guard P (0<=k/\k<=1000)) fun y_=>ak (alloc P (.list (List.replicate k.toNat x))) fun n=>ret P (.loc n)
 |.sub a i,fr=>ak (bI a fr) fun x=>ak (bI i fr) fun y=>B9 P cells x y
 |.dV a lo hi,fr=>ak (bI a fr) fun x=>ak (bif iw lo then ret P .none else bI lo fr) fun y=>ak (bif iw hi then ret P .none else bI hi fr) fun z=>Cz P x y z
 |.attr a k,fr=>ak (bI a fr) fun x=>wu P cells x k
 |.call f es,fr=>ak (qr es fr) fun vs=>c f vs
 |.new cl es,fr=>ak (qr es fr) fun vs=>ak (alloc P (.inst cl [])) fun n=>ak (c (P.init cl) (.loc n::vs)) fun r=>ak (lg P r) fun y_=>ret P (.loc n)
 |.aC a k es,fr=>ak (bI a fr) fun x=>ak (xi P cells x k) fun f=>ak (qr es fr) fun vs=>c f (x::vs)
 |.b1 b a,fr=>ak (bI a fr) fun x=>HO P cells b x
 |.max2 a b,fr=>ak (bI a fr) fun x=>ak (cK P x) fun i=>ak (bI b fr) fun y=>ak (cK P y) fun j=>ret P (.int (if i<j then j else i))
 |.app a v,fr=>ak (bI a fr) fun x=>ak (eH P x) fun n=>ak (dI P cells n) fun y_=>ak (bI v fr) fun y=>ak (dI P cells n) fun l=>ak (guard P (l.length<1000000)) fun y_=>ak (write P cells n (.list (l++[y]))) fun y_=>ret P .none
 |.pop a,fr=>ak (bI a fr) fun x=>ak (eH P x) fun n=>ak (dI P cells n) fun l=>ak (Cp P l) fun p=>ak (gp P l.length) fun y_=>ak (write P cells n (.list p.2)) fun y_=>ret P p.1
 |.sQ a k e,fr=>ak (bI a fr) fun x=>ak (eH P x) fun n=>ak (look P cells n) fun o=>ak (uZ P o) fun y_=>ak (bI k fr) fun y=>ak (cK P y) fun y_=>ak (bI e fr) fun z=>ak (look P cells n) fun o=>ak (uZ P o) fun y_=>ret P z
 |.lower a,fr=>ak (bI a fr) fun x=>ak (kB P x) fun s=>ak (Ic P s) fun c=>ak (guard P (c<128)) fun y_=>ret P (.str [lowers c])
 |.join a,fr=>ak (bI a fr) fun x=>ak (j6 P x) fun l=>ak (wV P l) fun s=>ak (guard P (l.length<=1000000/\s.length<=1000000)) fun y_=>ret P (.str s)
 |.comp elt tg many src cond,fr=>ak (rB src fr) fun it=>ak (tok P fun h=>.key (.comp d elt tg many cond fr it h.den)) fun t=>
   bif Nat.beq t 1 then
    ak (vals P it) fun l=>ak (iG P (fun v=>ak (lift P 44 (eD tg many v fr)) fun aG=>ak (bif iV cond then ret P (.bool true)else bI cond aG) fun x=>ak (dU P x) fun r=>bif r then ak (bI elt aG) (fun y=>ret P (some y))else ret P none) l []) fun l=>ret P (.lst l)
   else ak (heap P) fun h=>ak (fact P (.comp d elt tg many cond fr it h.den)) (CA P)
noncomputable def qr:Xs->Fr->W P->Res P (List V)
 |.nil,_=>ret P []
 |.cons a r,fr=>ak (bI a fr) fun v=>ak (qr r fr) fun l=>ret P (v::l)
noncomputable def EF:Bool->Xs->Fr->W P->Res P Bool
 |k,.nil,_=>ret P k
 |k,.cons a r,fr=>ak (bI a fr) fun x=>ak (dU P x) fun b=>bif b==k then EF k r fr else ret P b
noncomputable def rB:Src->Fr->W P->Res P It
 |.seq a,fr=>ak (bI a fr) (rJ P cells)
 |.qQ a,fr=>ak (bI a fr) fun x=>ak (cK P x) fun n=>ak (guard P (small n=true)) fun y_=>ret P (.vals (up 0 n.toNat))
 |.nW a b e,fr=>ak (bI a fr) fun x=>ak (cK P x) fun i=>ak (bI b fr) fun y=>ak (cK P y) fun j=>ak (bI e fr) fun z=>ak (cK P z) fun k=>ak (BL P k) fun y_=>ak (guard P ((small i&&small j)=true)) fun y_=>ret P (.vals (down i (i-j).toNat))
 |.rev a,fr=>ak (bI a fr) fun x=>ak (j6 P x) fun l=>ret P (.vals l.reverse)
 |.zip a b,fr=>ak (bI a fr) fun x=>ak (kB P x) fun s=>ak (bI b fr) fun y=>ak (kB P y) fun t=>ak (guard P ((s.all (· <128)&&t.all (· <128))=true)) fun y_=>ret P (.vals (jS s t))
end
noncomputable def BR(l:List (Int×V))(k:Int):W P->Res P Unit:=ak (tok P fun y_=>.Z9 l k) fun t=>
 bif Nat.beq t 1 then uq P (bx k l)else guard P (bx k l=none)
noncomputable def nat?(k:Int):W P->Res P Unit:=match k with|.ofNat _=>ret P ()|_=>bad P 55
noncomputable def CC(k:Int)(n:Nat):W P->Res P Nat:=ak (tok P fun y_=>.key (.aw k n)) fun t=>
 bif Nat.beq t 1 then ak (nat? P k) (fun y_=>lift P 56 (aw k n))else ak (fact P (.aw k n)) (C0 P)
noncomputable def FF(t:Tg)(v:V)(fr:Fr):W P->Res P Fr:=match t with
 |.var i=>ret P (fr.set i (some v))
 |.attr a k=>ak (bI P cells d c a fr) fun x=>ak (eH P x) fun n=>ak (oY P cells n) fun p=>ak (uq P (P.aC p.1 k)) fun y_=>
   bif Nat.blt p.2.length 100 then ak (write P cells n (.inst p.1 (setField k v p.2))) fun y_=>ret P fr else bad P 46
 |.item a i=>ak (bI P cells d c a fr) fun x=>ak (eH P x) fun n=>ak (bI P cells d c i fr) fun y=>ak (cK P y) fun k=>ak (look P cells n) fun o=>match o with
  |.list l=>ak (CC P k l.length) fun j=>ak (write P cells n (.list (l.set j v))) fun y_=>ret P fr
  |.dict l=>ak (BR P l k) fun y_=>ak (guard P (l.length<1000000)) fun y_=>ak (write P cells n (.dict (dput k v l))) fun y_=>ret P fr
  |_=>bad P 47
noncomputable def Bq:List Tg->List V->Fr->W P->Res P Fr
 |[],vs,fr=>match vs with|[]=>ret P fr|_::_=>bad P 48
 |t::ts,vs,fr=>match vs with|[]=>bad P 49|v::vs=>ak (FF P cells d c t v fr) fun aG=>Bq ts vs aG
mutual
noncomputable def J4:S->Fr->W P->Res P (Fl×Fr)
 |.asg t e,fr=>ak (bI P cells d c e fr) fun v=>ak (FF P cells d c t v fr) fun aG=>ret P (.next,aG)
 |.sL i elt tg many src cond,fr=>ak (bI P cells d c (.comp elt tg many src cond) fr) fun v=>ret P (.next,fr.set i (some v))
 |.bO sw ts e,fr=>ak (bI P cells d c e fr) fun x=>ak (xr P x) fun l=>ak (bif sw then lift P 57 (k5 ts.reverse l.reverse fr)else Bq P cells d c ts l fr) fun aG=>ret P (.next,aG)
 |.ex e,fr=>ak (bI P cells d c e fr) fun x=>ak (lg P x) fun y_=>ret P (.next,fr)
 |.ret e,fr=>ak (bif iw e then ret P .none else bI P cells d c e fr) fun v=>ret P (.ret v,fr)
 |.ifs e a b,fr=>ak (bI P cells d c e fr) fun x=>ak (dU P x) fun r=>bif r then jt a fr else jt b fr
 |.cL e b,fr=>ak (heap P) fun h=>ak (fact P (.cL d e b fr h.den)) (u4 P)
 |.dN tg many src b,fr=>ak (rB P cells d c src fr) fun it=>ak (tok P fun h=>.key (.dN d tg many b it fr h.den)) fun t=>
   bif Nat.beq t 1 then
    ak (vals P it) fun l=>ks P (fun v aG=>ak (lift P 50 (eD tg many v aG)) fun dY=>jt b dY) l fr
   else ak (heap P) fun h=>ak (fact P (.dN d tg many b it fr h.den)) (u4 P)
 |.brk,fr=>ret P (.brk,fr)
 |.cont,fr=>ret P (.cont,fr)
 |.stuck,_=>bad P 51
noncomputable def jt:Ss->Fr->W P->Res P (Fl×Fr)
 |.nil,fr=>ret P (.next,fr)
 |.cons a r,fr=>ak (J4 a fr) fun p=>match p.1 with
  |.next=>jt r p.2
  |f=>ret P (f,p.2)
end
end
noncomputable def Ti(f:Fl):W P->Res P V:=match f with
 |.ret v=>ret P v
 |.next=>ret P .none
 |_=>bad P 52
noncomputable def eV(d:Nat):Nat->Nat->List V->W P->Res P V
 |0,f,vs=>ak (tok P fun h=>.call d f vs h) fun y_=>ak (heap P) fun h=>ak (fact P (.call d f vs h.den)) (uI P)
 |k+1,f,vs=>ak (tok P fun h=>.call (d+k+1) f vs h) fun t=>bif Nat.beq t 1 then
   ak (lift P 54 (frame (P.fn f) vs)) fun fr=>ak (jt P cells (d+k) (eV d k) (P.fn f).body fr) fun p=>Ti P p.1
  else ak (heap P) fun h=>ak (fact P (.call (d+k+1) f vs h.den)) (uI P)
end
end
section
variable {P:Prog}
noncomputable def Jd.ok:Jd->Prop
 |.nil=>True
 |.key a b=>a=b
 |.prop p=>p
 |.app x y=>x.ok/\y.ok
def aW{α:Type}(m:W P->Res P α)(Q:α->St->Prop)(σ:St):Prop:=∀(w:W P) (a:α) (w':W P) (j:Jd),w.h.den=σ->w.h.wf->m w=.ok a w' j->j.ok->w'.h.wf/\Q a w'.h.den
theorem H.gb:∀h:H,h.den.length=h.len
 |.ao _=>rfl
 |.put h n o=>(length_set ..).trans h.gb
 |.add h o=>(length_append ..).trans (congrArg (· +1) h.gb)
theorem aH{σ:St}{n:Nat}{o:O}(h:σ[n]?=some o):n<σ.length:=(List.getElem?_eq_some_iff.mp h).1
namespace wp
variable {α β:Type} {Q:α->St->Prop} {σ:St}
theorem ret{a:α}(h:Q a σ):aW (Internal.ret P a) Q σ:=fun w b w' j gz hw e y_=>by cases e;exact⟨hw,gz▸h⟩
theorem bad{n:Nat}:aW (Internal.bad P n) Q σ:=fun w b w' j y_ y_ e y_=>by cases e
theorem ak{m:W P->Res P β}{f:β->W P->Res P α}(h:aW m (fun a ae=>aW (f a) Q ae) σ):aW (Internal.ak m f) Q σ:=fun w b w' j gz hw e hj=>by
 unfold Internal.ak at e
 cases h1:m w with
 |ask=>rw[h1]at e;cases e
 |bad=>rw[h1]at e;cases e
 |ok a F5 Ry=>
  replace e:=h1▸e;dsimp only at e
  cases h2:f a F5 with
  |ask=>rw[h2]at e;cases e
  |bad=>rw[h2]at e;cases e
  |ok b' abp abr=>replace e:=h2▸e;cases e;haveI oo:=h w a F5 Ry gz hw h1 hj.1;exact oo.2 F5 _ _ _ rfl oo.1 h2 hj.2
theorem mono{Q':α->St->Prop}{m:W P->Res P α}(h:aW m Q' σ)(i:∀a ab,Q' a ab->Q a ab):aW m Q σ:=fun w b w' j gz hw e hj=>⟨(h w b w' j gz hw e hj).1,i _ _ (h w b w' j gz hw e hj).2⟩
theorem lift{n:Nat}{o:Option α}(h:∀a,o=some a->Q a σ):aW (Internal.lift P n o) Q σ:=by
 cases o with
 |none=>exact bad
 |some a=>exact ret (h a rfl)
theorem tok{q:H->Internal.Q}{Q:Nat->St->Prop}(h:∀k,Q k σ):aW (Internal.tok P q) Q σ:=fun hV b w' j gz hw e _=>by
 obtain⟨h0,t,g⟩:=hV;unfold Internal.tok at e;dsimp only at e
 cases hb:Nat.beq t 0 with
 |true=>replace e:=hb▸e;cases e;exact⟨hw,gz▸h _⟩
 |false=>
  replace e:=hb▸e
  cases hc:Nat.beq (t%16) 15 with
  |true=>rw[hc]at e;cases e
  |false=>rw[hc]at e;cases e;exact⟨hw,gz▸h _⟩
theorem guard{p:Prop}{Q:Unit->St->Prop}(h:p->Q () σ):aW (Internal.guard P p) Q σ:=fun w b w' j gz hw e hj=>by cases e;exact⟨hw,gz▸h hj⟩
theorem same{a b:Key}{Q:Unit->St->Prop}(h:a=b->Q () σ):aW (Internal.same P a b) Q σ:=fun w y_ w' j gz hw e hj=>by cases e;exact⟨hw,gz▸h hj⟩
theorem heap{Q:H->St->Prop}(h:∀h:H,h.den=σ->h.wf->Q h σ):aW (Internal.heap P) Q σ:=fun w y_ w' j gz hw e hj=>by cases e;exact⟨hw,gz.symm▸h _ gz hw⟩
theorem fact{k:Key}{Q:ix->St->Prop}(h:∀a,Ce P k a->Q a σ):aW (Internal.fact P k) Q σ:=fun⟨h0,t,g⟩ _ w' j gz hw e hj=>by
 cases g with
 |nil=>cases e
 |cons f r=>cases e;exact⟨hw,gz▸h _ (Rw (hj) f.h)⟩
theorem kr{h0:H}{Q:Unit->St->Prop}(h:Q () h0.den):aW (Internal.kr P h0) Q σ:=fun hV _ w' j gz hw e hj=>by
 cases h0 with
 |ao σ=>cases e;exact⟨trivial,h⟩
 |put h n o=>cases e;exact⟨hj,h⟩
 |add h o=>cases e;exact⟨hj,h⟩
theorem alloc{o:O}{Q:Nat->St->Prop}(h:Q σ.length (σ++[o])):aW (Internal.alloc P o) Q σ:=fun hV _ w' j gz hw e hj=>by obtain⟨h0,t,g⟩:=hV;cases e;subst gz;exact⟨hw,(h0.gb▸h)⟩
theorem rS{n:Nat}{o:O}{Q:Unit->St->Prop}(hn:n<σ.length)(h:Q () (σ.set n o)):aW (Internal.rS P n o) Q σ:=fun hV _ w' j gz hw e hj=>by obtain⟨h0,t,g⟩:=hV;cases e;subst gz;exact⟨⟨(h0.gb)▸hn,hw⟩,h⟩
theorem iD{b:Bool}{m n:W P->Res P α}(h:b=true->aW m Q σ)(h':b=false->aW n Q σ):aW (bif b then m else n) Q σ:=by
 cases b
 ·exact h' rfl
 ·exact h rfl
theorem tk{q:H->Internal.Q}{m n:W P->Res P α}(h:aW m Q σ)(h':aW n Q σ):aW (Internal.ak (Internal.tok P q) fun t=>bif Nat.beq t 1 then m else n) Q σ:=ak (tok fun y_=>iD (fun y_=>h) fun y_=>h')
theorem s7{h0:H}{Q:Unit->St->Prop}(hw':h0.wf)(h:Q () h0.den):aW (Internal.s7 P h0) Q σ:=fun hV _ w' j gz hw e hj=>by cases e;exact⟨hw',h⟩
theorem nq{n:Nat}{o:O}:∀{h:H} {Q:H->St->Prop},h.wf->(∀h':H,h'.wf->n<h.len->h'.len=h.len->h'.den=h.den.set n o->Q h' σ)->aW (Internal.nq P n o h) Q σ
 |.ao τ=>@fun hw hq=>bad
 |.put h m x=>@fun hw hq=>ak (tok fun k=>iD
   (fun y_=>ak (same fun e=>ret (by
    injection e with e1
    subst e1
    exact hq (.put h n o) hw hw.1 rfl (set_set ..).symm)))
   fun y_=>ak (guard fun e=>ak (nq hw.2 fun h' a b c d=>ret (hq (.put h' m x) ⟨c▸hw.1,a⟩ b c ((congrArg (List.set · m x) d).trans (set_comm _ _ e))))))
 |.add h x=>@fun hw hq=>ak (tok fun k=>iD
   (fun y_=>ak (same fun e=>ret (by
    injection e with e1
    subst e1
    exact hq (.add h o) hw (lt_succ_self _) rfl (show h.den++[o]=(h.den++[x]).set h.len o by refine Lw h.gb (?_);simp))))
   fun y_=>ak (nq hw fun h' a b c d=>ret (hq (.add h' x) a (Nat.lt_succ_of_lt b) (congrArg (· +1) c) ((congrArg (· ++[x]) d).trans (List.set_append_left _ _ (h.gb▸b)).symm))))
theorem B0{n:Nat}{o:O}{Q:Unit->St->Prop}(hn:n<σ.length)(h:Q () (σ.set n o)):aW (Internal.B0 P n o) Q σ:=ak (heap fun h0 e hw=>by
 have hr:aW (Internal.ak (Internal.tok P fun h=>.wr n h) fun k=>bif Nat.beq k 1 then Internal.rS P n o else Internal.ak (Internal.nq P n o h0) (Internal.s7 P)) Q σ:=tk (rS hn h) (ak (nq hw fun h' a y_ y_ d=>s7 a (Rw d (Rw e h))))
 cases h0 with
 |ao=>exact rS hn h
 |_=>exact hr)
theorem cK{v:V}{Q:Int->St->Prop}(h:∀i,v=.int i->Q i σ):aW (Internal.cK P v) Q σ:=by cases v<;>first|exact bad|exact ret (h _ rfl)
theorem dU{v:V}{Q:Bool->St->Prop}(h:∀i,v=.bool i->Q i σ):aW (Internal.dU P v) Q σ:=by cases v<;>first|exact bad|exact ret (h _ rfl)
theorem eH{v:V}{Q:Nat->St->Prop}(h:∀i,v=.loc i->Q i σ):aW (Internal.eH P v) Q σ:=by cases v<;>first|exact bad|exact ret (h _ rfl)
theorem j6{v:V}{Q:List V->St->Prop}(h:∀i,v=.lst i->Q i σ):aW (Internal.j6 P v) Q σ:=by cases v<;>first|exact bad|exact ret (h _ rfl)
theorem xr{v:V}{Q:List V->St->Prop}(h:∀i,v=.aj i->Q i σ):aW (Internal.xr P v) Q σ:=by cases v<;>first|exact bad|exact ret (h _ rfl)
theorem kB{v:V}{Q:List Nat->St->Prop}(h:∀i,v=.str i->Q i σ):aW (Internal.kB P v) Q σ:=by cases v<;>first|exact bad|exact ret (h _ rfl)
theorem lg{v:V}{Q:Unit->St->Prop}(h:v=.none->Q () σ):aW (Internal.lg P v) Q σ:=by cases v<;>first|exact bad|exact ret (h rfl)
theorem rA{v:O}{Q:List V->St->Prop}(h:∀i,v=.list i->Q i σ):aW (Internal.rA P v) Q σ:=by cases v<;>first|exact bad|exact ret (h _ rfl)
theorem rE{v:O}{Q:Nat×List (Nat×V)->St->Prop}(h:∀c l,v=.inst c l->Q (c,l) σ):aW (Internal.rE P v) Q σ:=by cases v<;>first|exact bad|exact ret (h _ _ rfl)
theorem sr{v:ix}{Q:V->St->Prop}(h:∀i,v=.v i->Q i σ):aW (Internal.sr P v) Q σ:=by cases v<;>first|exact bad|exact ret (h _ rfl)
theorem C0{v:ix}{Q:Nat->St->Prop}(h:∀i,v=.c i->Q i σ):aW (Internal.C0 P v) Q σ:=by cases v<;>first|exact bad|exact ret (h _ rfl)
theorem H4{v:ix}{Q:List Nat->St->Prop}(h:∀i,v=.s i->Q i σ):aW (Internal.H4 P v) Q σ:=by cases v<;>first|exact bad|exact ret (h _ rfl)
theorem Hm{v:ix}{Q:V×List V->St->Prop}(h:∀i l,v=.p i l->Q (i,l) σ):aW (Internal.Hm P v) Q σ:=by cases v<;>first|exact bad|exact ret (h _ _ rfl)
theorem uI{v:ix}{Q:V->St->Prop}(h:∀x (h:H),v=.vh x h->Q x h.den):aW (Internal.uI P v) Q σ:=by cases v<;>first|exact bad|exact(show aW (Internal.ak (Internal.kr P _) fun y_=>Internal.ret P _) Q σ from ak (kr (ret (h _ _ rfl))))
theorem CA{v:ix}{Q:V->St->Prop}(h:∀x (h:H),v=.lh x h->Q (.lst x) h.den):aW (Internal.CA P v) Q σ:=by cases v<;>first|exact bad|exact(show aW (Internal.ak (Internal.kr P _) fun y_=>Internal.ret P _) Q σ from ak (kr (ret (h _ _ rfl))))
theorem u4{v:ix}{Q:Fl×Fr->St->Prop}(h:∀x y (h:H),v=.fl x y h->Q (x,y) h.den):aW (Internal.u4 P v) Q σ:=by cases v<;>first|exact bad|exact(show aW (Internal.ak (Internal.kr P _) fun y_=>Internal.ret P _) Q σ from ak (kr (ret (h _ _ _ rfl))))
theorem uq{o:Option β}{Q:Unit->St->Prop}(h:o=none->Q () σ):aW (Internal.uq P o) Q σ:=by cases o<;>first|exact bad|exact ret (h rfl)
theorem vals{it:It}{Q:List V->St->Prop}(h:∀l,it=.vals l->Q l σ):aW (Internal.vals P it) Q σ:=by cases it<;>first|exact bad|exact ret (h _ rfl)
theorem uZ{o:O}{Q:Unit->St->Prop}(h:o=.dict []->Q () σ):aW (Internal.uZ P o) Q σ:=by
 cases o with
 |dict l=>cases l<;>first|exact bad|exact ret (h rfl)
 |_=>exact bad
theorem BL{i:Int}{Q:Unit->St->Prop}(h:i=-1->Q () σ):aW (Internal.BL P i) Q σ:=by
 cases i with
 |ofNat=>exact bad
 |negSucc n=>cases n<;>first|exact bad|exact ret (h rfl)
theorem Ic{l:List Nat}{Q:Nat->St->Prop}(h:∀c,l=[c]->Q c σ):aW (Internal.Ic P l) Q σ:=by
 cases l with
 |nil=>exact bad
 |cons c l=>cases l<;>first|exact bad|exact ret (h _ rfl)
theorem rj{y:V}{Q:Unit->St->Prop}(h:y=.lst []->Q () σ):aW (Internal.rj P y) Q σ:=ak (j6 fun l e=>by
 subst e
 cases l<;>first|exact bad|exact ret (h rfl))
variable (cells:List Cell)
theorem j7{n:Nat}:∀{h:H} {Q:O->St->Prop},h.wf->(∀o,h.den[n]?=some o->Q o σ)->aW (Internal.j7 P cells n h) Q σ
 |.ao τ=>@fun hw hq=>ak (tok fun k=>ak (lift fun c y_=>ak (same fun e=>ret (hq _ (by
   injection e with e1 e2
   exact Rw e1 (Rw (e2) c.h))))))
 |.put h m x=>@fun hw hq=>ak (tok fun k=>iD (fun y_=>ak (same fun e=>ret (hq _ (by
    injection e with e1
    subst e1
    exact getElem?_set_self (Rw h.gb hw.1)))))
   fun y_=>ak (guard fun e=>j7 hw.2 fun o e'=>hq o ((getElem?_set_ne (Ne.symm e)).trans e')))
 |.add h x=>@fun hw hq=>ak (tok fun k=>iD (fun y_=>ak (same fun e=>ret (hq _ (by
    injection e with e1
    subst e1;show(h.den++[x])[h.len]?=some x
    refine Lw h.gb (?_);simp))))
   fun y_=>j7 hw fun o e'=>hq o ((getElem?_append_left (aH e')).trans e'))
theorem look{n:Nat}{Q:O->St->Prop}(hq:∀o,σ[n]?=some o->Q o σ):aW (Internal.look P cells n) Q σ:=ak (heap fun h e hw=>j7 cells hw (e▸hq))
theorem write{n:Nat}{o:O}{Q:Unit->St->Prop}(hq:Q () (σ.set n o)):aW (Internal.write P cells n o) Q σ:=ak (look cells fun y_ e=>B0 (aH e) hq)
theorem dI{n:Nat}{Q:List V->St->Prop}(hq:∀l,σ[n]?=some (.list l)->Q l σ):aW (Internal.dI P cells n) Q σ:=ak (look cells fun o e=>rA fun l e'=>hq l (e'▸e))
theorem oY{n:Nat}{Q:Nat×List (Nat×V)->St->Prop}(hq:∀c l,σ[n]?=some (.inst c l)->Q (c,l) σ):aW (Internal.oY P cells n) Q σ:=ak (look cells fun o e=>rE fun c l e'=>hq c l (e'▸e))
theorem pureO{n:Nat}{f:St->Option α}(hq:∀a,f σ=some a->Q a σ):aW (Internal.pureO P n f) Q σ:=ak (heap fun h e y_=>lift fun a e'=>hq a (e▸e'))
theorem HD{l:List V}(h:l≠[]):l.isEmpty=false:=by
 cases l with
 |nil=>exact absurd rfl h
 |cons=>rfl
theorem B6{l:List V}{Q:Bool->St->Prop}(hq:Q l.isEmpty σ):aW (Internal.B6 P l) Q σ:=ak (tok fun k=>iD (fun y_=>ret hq) fun y_=>iD (fun y_=>ak (guard fun e=>ret (by subst e;exact hq))) fun y_=>ak (guard fun e=>ret (HD e▸hq)))
theorem yk{o:oH}{x y:V}{p:Prop×Prop}(h:F3 o x y=some p):(p.1->eg o σ x y=some true)/\(p.2->eg o σ x y=some false):=by
 haveI hd:∀{q:Prop} [Decidable q],(q->some (decide q)=some true)/\(¬q->some (decide q)=some false):=⟨fun h=>congrArg some (decide_eq_true h),fun h=>congrArg some (decide_eq_false h)⟩;haveI he:∀{α:Type} [BEq α] [LawfulBEq α] {a b:α},(a=b->some (a==b)=some true)/\(¬a=b->some (a==b)=some false):=⟨fun h=>congrArg some (beq_iff_eq.mpr h),fun h=>congrArg some (beq_eq_false_iff_ne.mpr h)⟩;haveI hn:∀{α:Type} [BEq α] [LawfulBEq α] {a b:α},(¬a=b->some (!(a==b))=some true)/\(a=b->some (!(a==b))=some false):=⟨fun h=>congrArg (fun b=>some !b) (beq_eq_false_iff_ne.mpr h),fun h=>congrArg (fun b=>some !b) (beq_iff_eq.mpr h)⟩
 cases x with
 |int a=>cases y with
  |int b=>cases o<;>(first|exact nn h|(replace h:=oj h;subst h;first|exact hd|exact he|exact hn))
  |_=>exact nn h
 |str a=>cases y with
  |str b=>cases o<;>(first|exact nn h|(replace h:=oj h;subst h;first|exact he|exact hn))
  |_=>exact nn h
 |_=>exact nn h
theorem qK{o:oH}{x y:V}{Q:Bool->St->Prop}(hq:∀b,eg o σ x y=some b->Q b σ):aW (Internal.qK P cells o x y) Q σ:=ak (tok fun k=>iD (fun y_=>pureO hq) fun y_=>iD (fun y_=>ak (lift fun p hp=>ak (guard fun h=>ret (hq _ ((yk hp).1 h))))) fun y_=>iD (fun y_=>ak (lift fun p hp=>ak (guard fun h=>ret (hq _ ((yk hp).2 h)))))
  fun y_=>iD (fun y_=>ak (eH fun n e1=>ak (rj fun e2=>ak (dI cells fun l e3=>ak (B6 (by
   subst e1 e2
   haveI he:eqv σ (.loc n) (.lst [])=some l.isEmpty:=by show(match σ[n]? with|some (.list l)=>some l.isEmpty|_=>none)=some l.isEmpty;exact Rw e3 rfl
   cases o<;>first|exact bad|exact ret (hq _ he)|exact ret (hq _ (congrArg (Option.map (!·)) he))))))))
   fun y_=>ak (heap fun h e y_=>ak (guard fun e'=>ret (hq _ (e▸e')))))
theorem sG{k:Key}{Q:V->St->Prop}(h:∀v,Ce P k (.v v)->Q v σ):aW (Internal.ak (Internal.fact P k) (Internal.sr P)) Q σ:=ak (fact fun a ha=>sr fun v e=>h v (e▸ha))
theorem FK{k:Key}{Q:Nat->St->Prop}(h:∀v,Ce P k (.c v)->Q v σ):aW (Internal.ak (Internal.fact P k) (Internal.C0 P)) Q σ:=ak (fact fun a ha=>C0 fun v e=>h v (e▸ha))
theorem G0{v:V}{p:V->Prop}(h:∃w,ix.v v=.v w/\p w):p v:=by obtain⟨_,e,h⟩:=h;exact by cases e;exact h
theorem ZS{v:Nat}{p:Nat->Prop}(h:∃w,ix.c v=.c w/\p w):p v:=by obtain⟨_,e,h⟩:=h;exact by cases e;exact h
theorem uS{o:rg}{x y:V}{Q:V->St->Prop}(hq:∀v,binop o σ x y=some v->Q v σ):aW (Internal.ak (Internal.fact P (.bin o x y)) (Internal.sr P)) Q σ:=sG fun v h=>hq v (G0 h σ)
theorem sZ{n:Nat}{l:List V}(e:σ[n]?=some (.list l)):cN σ (.loc n)=some l:=congrArg (fun o:Option O=>match o with|some (.list l)=>some l|_=>none) e
theorem BG{n:Nat}{l:List V}(e:σ[n]?=some (.list l)):items σ (.loc n)=some l:=sZ e
theorem EB{n:Nat}{l r:List V}(e:σ[n]?=some (.list l))(h:l.length+r.length<=lim):binop .add σ (.loc n) (.lst r)=some (.lst (l++r)):=(congrArg (fun o:Option (List V)=>match o,some r with|some l,some r=>if l.length+r.length<=lim then some (V.lst (l++r))else none|_,_=>none) (sZ e)).trans (if_pos h)
theorem zV{n:Nat}{o:O}{k:Int}(e:σ[n]?=some o):kL σ (.loc n) (.int k)=(match some o with|some (.list l)=>(aw k l.length).bind fun j=>l[j]?|some (.dict l)=>bx k l|_=>none):=congrArg (fun o:Option O=>match o with|some (.list l)=>(aw k l.length).bind fun j=>l[j]?|some (.dict l)=>bx k l|_=>none) e
theorem D4{n c:Nat}{l:List (Nat×V)}(e:σ[n]?=some (.inst c l)):fR σ (.loc n)=some (c,l):=congrArg (fun o:Option O=>match o with|some (.inst c fs)=>some (c,fs)|_=>none) e
theorem Gg{n:Nat}{l:List V}(e:σ[n]?=some (.list l)):wL σ (.loc n)=some (.live n):=congrArg (fun o:Option O=>match o with|some (.list _)=>some (It.live n)|_=>none) e
theorem yX{n:Nat}{o:O}(e:σ[n]?=some o):wj σ (.loc n)=(match some o with|some (.list l)=>some (.lst l,σ.set n .dead)|some (.inst c fs)=>some (.obj c fs,σ.set n .dead)|_=>none):=congrArg (fun o:Option O=>match o with|some (.list l)=>some (V.lst l,σ.set n .dead)|some (.inst c fs)=>some (V.obj c fs,σ.set n .dead)|_=>none) e
theorem Cy{o:rg}{x y:V}{Q:V->St->Prop}(hq:∀v,binop o σ x y=some v->Q v σ):aW (Internal.Cy P cells o x y) Q σ:=by
 cases o with
 |add=>cases x with
  |int a=>cases y with
   |int b=>exact ret (hq _ rfl)
   |_=>exact uS hq
  |loc n=>cases y with
   |lst r=>exact(show aW (Internal.ak (Internal.dI P cells n) fun l=>Internal.ak (Internal.guard P (l.length+r.length<=lim)) fun y_=>Internal.ret P (.lst (l++r))) Q σ from ak (dI cells fun l e=>ak (guard fun h=>ret (hq _ (EB e h)))))
   |_=>exact uS hq
  |_=>exact uS hq
 |sub=>cases x with
  |int a=>cases y with
   |int b=>exact ret (hq _ rfl)
   |_=>exact uS hq
  |_=>exact uS hq
 |_=>exact uS hq
theorem qA{l:List V}{k:Int}{Q:V->St->Prop}(hq:∀v,Internal.idx l k=some v->Q v σ):aW (Internal.qA P l k) Q σ:=tk (lift hq) (sG fun v h=>hq v (G0 h))
theorem wY{l:List Nat}{k:Int}{Q:Nat->St->Prop}(hq:∀v,Internal.fF l k=some v->Q v σ):aW (Internal.wY P l k) Q σ:=tk (lift hq) (FK fun v h=>hq v (ZS h))
theorem wO{l:List (Int×V)}{k:Int}{Q:V->St->Prop}(hq:∀v,bx k l=some v->Q v σ):aW (Internal.wO P l k) Q σ:=tk (lift hq) (sG fun v h=>hq v (G0 h))
theorem Ey{s:List Nat}{k:Int}{c:Nat}(h:Internal.fF s k=some c):kL σ (.str s) (.int k)=some (.str [c]):=by
 haveI e:kL σ (.str s) (.int k)=(Internal.fF s k).map fun c=>.str [c]:=by show(match aw k s.length with|some j=>(s[j]?).map fun c=>V.str [c]|none=>none)=_;unfold Internal.fF;cases aw k s.length<;>rfl
 exact Rw e (Rw h rfl)
theorem B9{x y:V}{Q:V->St->Prop}(hq:∀v,kL σ x y=some v->Q v σ):aW (Internal.B9 P cells x y) Q σ:=ak (cK fun k e=>by
 subst e
 cases x with
 |str s=>exact ak (wY fun c h=>ret (hq _ (Ey h)))
 |aj l=>exact qA hq
 |lst l=>exact qA hq
 |loc n=>exact ak (look cells fun o e=>by
   cases o with
   |list l=>exact qA fun v h=>hq v ((zV e).trans h)
   |dict l=>exact wO fun v h=>hq v ((zV e).trans h)
   |_=>exact bad)
 |_=>exact bad)
theorem Cz{x y z:V}{Q:V->St->Prop}(hq:∀v,fp x y z=some v->Q v σ):aW (Internal.Cz P x y z) Q σ:=tk (lift hq) (sG fun v h=>hq v (G0 h))
theorem oD{x:V}{Q:List V->St->Prop}(hq:∀l,items σ x=some l->Q l σ):aW (Internal.oD P cells x) Q σ:=by
 cases x with
 |aj l=>exact ret (hq _ rfl)
 |lst l=>exact ret (hq _ rfl)
 |loc n=>exact dI cells fun l e=>hq l (BG e)
 |_=>exact bad
theorem f7{x:V}{Q:List V->St->Prop}(hq:∀l,cN σ x=some l->Q l σ):aW (Internal.f7 P cells x) Q σ:=by
 cases x with
 |lst l=>exact ret (hq _ rfl)
 |loc n=>exact dI cells fun l e=>hq l (sZ e)
 |_=>exact bad
theorem b1F{b:B1}{x:V}{Q:V->St->Prop}(hq:∀v,gU b σ x=some v->Q v σ):aW (Internal.ak (Internal.tok P fun y_=>.key (.b1 b x)) fun t=>bif Nat.beq t 1 then Internal.pureO P 24 (fun σ=>gU b σ x)else Internal.ak (Internal.fact P (.b1 b x)) (Internal.sr P)) Q σ:=tk (pureO hq) (sG fun v h=>hq v (G0 h σ))
theorem Bt{x:V}{l:List V}(hs:∀s,x≠.str s)(h:items σ x=some l)(h':l.length<=1000000):gU .len σ x=some (.int l.length):=by
 haveI:gU .len σ x=(items σ x).bind fun l=>if l.length<=lim then some (.int l.length)else none:=by cases x<;>first|rfl|exact absurd rfl (hs _)
 exact Rw this (Rw h (if_pos h'))
theorem gp{n:Nat}{Q:Unit->St->Prop}(h:n<=lim->Q () σ):aW (Internal.gp P n) Q σ:=guard h
theorem HO{b:B1}{x:V}{Q:V->St->Prop}(hq:∀v,gU b σ x=some v->Q v σ):aW (Internal.HO P cells b x) Q σ:=by
 have gen:(∀s,x≠.str s)->gU .len σ x=(items σ x).bind (fun l=>if l.length<=lim then some (.int l.length)else none)->(∀v,gU .len σ x=some v->Q v σ)->aW (Internal.ak (Internal.oD P cells x) fun l=>Internal.ak (Internal.gp P l.length) fun y_=>Internal.ret P (.int l.length)) Q σ:=fun hs y_ hq=>
  ak (oD cells fun l e=>ak (gp fun h=>ret (hq _ (Bt hs e h))))
 cases b with
 |len=>cases x with
  |str s=>exact(show aW (Internal.ak (Internal.gp P s.length) fun y_=>Internal.ret P (.int s.length)) Q σ from ak (gp fun h=>ret (hq _ (if_pos h))))
  |_=>exact gen (fun y_ h=>nomatch h) rfl hq
 |list=>exact(show aW (Internal.ak (Internal.f7 P cells x) fun l=>Internal.ak (Internal.gp P l.length) fun y_=>Internal.ret P (.lst l)) Q σ from ak (f7 cells fun l e=>ak (gp fun h=>ret (hq _ ((congrArg (fun o:Option (List V)=>o.bind _) e).trans (if_pos h))))))
 |tuple=>exact(show aW (Internal.ak (Internal.f7 P cells x) fun l=>Internal.ak (Internal.gp P l.length) fun y_=>Internal.ret P (.aj l)) Q σ from ak (f7 cells fun l e=>ak (gp fun h=>ret (hq _ ((congrArg (fun o:Option (List V)=>o.bind _) e).trans (if_pos h))))))
 |_=>exact b1F hq
theorem oN{x:V}{Q:Nat×List (Nat×V)->St->Prop}(hq:∀c l,fR σ x=some (c,l)->Q (c,l) σ):aW (Internal.oN P cells x) Q σ:=by
 cases x with
 |obj c l=>exact ret (hq _ _ rfl)
 |loc n=>exact oY cells fun c l e=>hq c l (D4 e)
 |_=>exact bad
theorem Bz{x v:V}{k c:Nat}{l:List (Nat×V)}(e:fR σ x=some (c,l))(e1:P.aC c k=none)(e2:field k l=some v):nA P σ x k=some v:=(congrArg (fun o:Option (Nat×List (Nat×V))=>match o with|some (c,fs)=>(match P.aC c k with|none=>field k fs|some _=>none)|none=>none) e).trans ((congrArg (fun o:Option Nat=>match o with|none=>field k l|some _=>none) e1).trans e2)
theorem An{x:V}{k c f:Nat}{l:List (Nat×V)}(e:fR σ x=some (c,l))(e1:field k l=none)(e2:P.aC c k=some f):lk P σ x k=some f:=(congrArg (fun o:Option (Nat×List (Nat×V))=>match o with|some (c,fs)=>(match field k fs with|none=>P.aC c k|some _=>none)|none=>none) e).trans ((congrArg (fun o:Option V=>match o with|none=>P.aC c k|some _=>none) e1).trans e2)
theorem wu{x:V}{k:Nat}{Q:V->St->Prop}(hq:∀v,nA P σ x k=some v->Q v σ):aW (Internal.wu P cells x k) Q σ:=ak (oN cells fun c l e=>ak (uq fun e1=>lift fun v e2=>hq v (Bz e e1 e2)))
theorem xi{x:V}{k:Nat}{Q:Nat->St->Prop}(hq:∀f,lk P σ x k=some f->Q f σ):aW (Internal.xi P cells x k) Q σ:=ak (oN cells fun c l e=>ak (uq fun e1=>lift fun v e2=>hq v (An e e1 e2)))
theorem rJ{x:V}{Q:It->St->Prop}(hq:∀it,wL σ x=some it->Q it σ):aW (Internal.rJ P cells x) Q σ:=by
 cases x with
 |aj l=>exact ret (hq _ rfl)
 |lst l=>exact ret (hq _ rfl)
 |str s=>exact(show aW (Internal.ak (Internal.guard P _) fun y_=>Internal.ret P (.vals (signs s))) Q σ from ak (guard fun h=>ret (hq _ (if_pos h))))
 |loc n=>exact ak (dI cells fun l e=>ret (hq _ (Gg e)))
 |_=>exact bad
theorem BP{x:V}{Q:V->St->Prop}(hq:∀v ab,wj σ x=some (v,ab)->(∀b,v≠.bool b)->Q v ab):aW (Internal.BP P cells x) Q σ:=ak (eH fun n e=>ak (look cells fun o e'=>by
 subst e
 cases o with
 |list l=>exact ak (write cells (ret (hq _ _ (yX e') (fun y_ h=>nomatch h))))
 |inst c l=>exact ak (write cells (ret (hq _ _ (yX e') (fun y_ h=>nomatch h))))
 |_=>exact bad))
theorem Cp{l:List V}{Q:V×List V->St->Prop}(hq:∀v,l.getLast?=some v->Q (v,l.dropLast) σ):aW (Internal.Cp P l) Q σ:=tk (ak (lift fun v e=>ret (hq v e))) (ak (fact fun a ha=>Hm fun v l' e=>by
 subst e;obtain⟨_,_,e,h1,h2⟩:=ha;cases e
 exact h2▸hq v h1))
theorem wV{l:List V}{Q:List Nat->St->Prop}(hq:∀s,gG l=some s->Q s σ):aW (Internal.wV P l) Q σ:=tk (lift hq) (ak (fact fun a ha=>H4 fun s e=>hq s (by
 subst e;obtain⟨_,e,h⟩:=ha;cases e
 exact h)))
theorem BR{l:List (Int×V)}{k:Int}{Q:Unit->St->Prop}(hq:bx k l=none->Q () σ):aW (Internal.BR P l k) Q σ:=tk (uq hq) (guard hq)
theorem CC{k:Int}{n:Nat}{Q:Nat->St->Prop}(hq:∀j,0<=k->aw k n=some j->Q j σ):aW (Internal.CC P k n) Q σ:=tk (ak (by
 cases k with
 |ofNat m=>exact ret (lift fun j e=>hq j (Int.natCast_nonneg m) e)
 |negSucc=>exact bad)) (FK fun v ⟨_,e,h0,h⟩=>by cases e;exact hq v h0 h)
theorem iG{step:V->W P->Res P (Option V)}{s:V->St->Option V->St->Prop}(hs:∀v σ (Q:Option V->St->Prop),(∀o ab,s v σ o ab->Q o ab)->aW (step v) Q σ):∀{l acc:List V} {σ:St} {Q:List V->St->Prop},(∀r ab,bw s l acc σ r ab->Q r ab)->aW (Internal.iG P step l acc) Q σ
 |[]=>@fun hq=>ret (hq _ _ ⟨rfl,rfl⟩)
 |v::l=>by
  rename_i σ Q;intro hq
  exact ak (hs v σ _ fun o ab h=>by
  cases o with
  |none=>exact iG hs fun r bM h'=>hq r bM (.inr ⟨ab,h,h'⟩)
  |some x=>exact iD (fun hl=>iG hs fun r bM h'=>hq r bM (.inl ⟨x,ab,h,bl hl,h'⟩)) fun y_=>bad)
theorem ks{step:V->Fr->W P->Res P (Fl×Fr)}{s:V->Fr->St->Fl->Fr->St->Prop}(hs:∀v fr σ (Q:Fl×Fr->St->Prop),(∀f aB ab,s v fr σ f aB ab->Q (f,aB) ab)->aW (step v fr) Q σ):∀{l:List V} {fr:Fr} {σ:St} {Q:Fl×Fr->St->Prop},(∀f aB ab,cg s l fr σ f aB ab->Q (f,aB) ab)->aW (Internal.ks P step l fr) Q σ
 |[]=>@fun hq=>ret (hq _ _ _ ⟨rfl,rfl,rfl⟩)
 |v::l=>by
  rename_i fr σ Q;intro hq
  exact ak (hs v fr σ _ fun f aB ab h=>by
  cases f with
  |next=>exact ks hs fun f'' Qd bM h'=>hq _ _ _ ⟨_,_,_,h,h'⟩
  |cont=>exact ks hs fun f'' Qd bM h'=>hq _ _ _ ⟨_,_,_,h,h'⟩
  |brk=>exact ret (hq _ _ _ ⟨_,_,_,h,rfl,rfl,rfl⟩)
  |ret v=>exact ret (hq _ _ _ ⟨_,_,_,h,rfl,rfl,rfl⟩))
end wp
end
section
variable {P:Prog}
theorem Mf{x:X}(h:iw x=true):x=.cst .none:=by
 cases x with
 |cst v=>cases v<;>first|rfl|exact absurd h bf
 |_=>exact absurd h bf
theorem Hk{x:X}(h:iV x=true):x=.cst (.bool true):=by
 cases x with
 |cst v=>cases v with
  |bool b=>cases b<;>first|rfl|exact absurd h bf
  |_=>exact absurd h bf
 |_=>exact absurd h bf
theorem HB{d:Nat}{x:X}{fr:Fr}{σ:St}(h:iw x=true):HA P d x fr σ .none σ:=⟨Mf h▸Ev.cst,fun y_=>⟨rfl,rfl⟩⟩
theorem Ig{d:Nat}{x:X}{fr:Fr}{σ ab:St}{v:V}(h:iw x=false)(e:Ev P d x fr σ v ab):HA P d x fr σ v ab:=⟨e,fun q=>absurd (h.symm.trans q) bf⟩
theorem GY{d:Nat}{x:X}{fr:Fr}{σ:St}(h:iV x=true):wy P d x fr σ true σ:=⟨Hk h▸Ev.cst,fun y_=>⟨rfl,rfl⟩⟩
theorem H7{d:Nat}{x:X}{fr:Fr}{σ ab:St}{b:Bool}(h:iV x=false)(e:Ev P d x fr σ (.bool b) ab):wy P d x fr σ b ab:=⟨e,fun q=>absurd (h.symm.trans q) bf⟩
theorem cg.for{step:V->Fr->St->Fl->Fr->St->Prop}{l:List V}:∀{r:List V} {i:Nat} {fr:Fr} {σ:St} {fl:Fl} {aB:Fr} {ab:St},l.drop i=r->cg step r fr σ fl aB ab->uK step (.vals l) (r.length+1) i fr σ fl aB ab
 |[]=>by intro e Fi;exact .inl ⟨congrArg some (List.getElem?_eq_none_iff.mpr (drop_eq_nil_iff.mp e)),Fi.1,Fi.2.1,Fi.2.2⟩
 |v::r=>by
  rename_i i fr σ fl aB ab;intro e Fi;refine cps fun G kG=>?_;obtain⟨eQ,aG,ae,hs,ha⟩:=Fi;refine kG ?_
  haveI hv:l[i]?=some v:=by haveI:=congrArg (·[0]?) e;simpa using this
  haveI hd:l.drop (i+1)=r:=Lw drop_drop (Rw e rfl);refine .inr ⟨v,eQ,aG,ae,congrArg some hv,hs,?_⟩
  cases eQ with
  |next=>exact cg.for hd ha
  |cont=>exact cg.for hd ha
  |_=>exact ha
theorem bw.comp{step:V->St->Option V->St->Prop}{l:List V}:∀{r:List V} {i:Nat} {acc:List V} {σ:St} {res:List V} {ab:St},l.drop i=r->bw step r acc σ res ab->fy step (.vals l) (r.length+1) i acc σ res ab
 |[]=>by intro e Zy;obtain⟨h1,h2⟩:=Zy;subst h1 h2;exact .stop (congrArg some (List.getElem?_eq_none_iff.mpr (drop_eq_nil_iff.mp e)))
 |v::r=>by
  rename_i i acc σ res ab;intro e h
  have hv:l[i]?=some v:=by haveI:=congrArg (·[0]?) e;simpa using this
  have hd:l.drop (i+1)=r:=Lw drop_drop (Rw e rfl);rcases h with⟨x,ae,hs,hl,h⟩|⟨ae,hs,h⟩
  ·exact .some (congrArg some hv) hs hl (bw.comp hd h)
  ·exact .none (congrArg some hv) hs (bw.comp hd h)
variable {d:Nat}
theorem qq{elt:X}{tg:List Nat}{many:Bool}{cond:X}{fr aG:Fr}{v x:V}{σ ae av:St}(h:eD tg many v fr=some aG)(h':wy P d cond aG σ true ae)(e:Ev P d elt aG ae x av):bV P d elt tg many cond fr v σ (some x) av:=⟨aG,ae,h,h',e⟩
theorem qF{elt:X}{tg:List Nat}{many:Bool}{cond:X}{fr aG:Fr}{v:V}{σ ae:St}(h:eD tg many v fr=some aG)(h':wy P d cond aG σ false ae):bV P d elt tg many cond fr v σ none ae:=⟨aG,h,h'⟩
theorem ti(x:X){fr:Fr}{m:W P->Res P V}(hm:∀(σ:St) (Q:V->St->Prop),(∀v ab,Ev P d x fr σ v ab->Q v ab)->aW m Q σ)(σ:St)(Q:V->St->Prop)(q:∀v ab,HA P d x fr σ v ab->Q v ab):aW (bif iw x then Internal.ret P .none else m) Q σ:=wp.iD (fun h=>wp.ret (q _ _ (HB h))) fun h=>hm σ _ fun v ab e=>q _ _ (Ig h e)
theorem vi(x:X){fr:Fr}{m:W P->Res P V}(hm:∀(σ:St) (Q:V->St->Prop),(∀v ab,Ev P d x fr σ v ab->Q v ab)->aW m Q σ)(σ:St)(Q:V->St->Prop)(q:∀v ab,(∀b,v=.bool b->wy P d x fr σ b ab)->Q v ab):aW (bif iV x then Internal.ret P (.bool true)else m) Q σ:=wp.iD (fun h=>wp.ret (q _ _ fun b e=>by cases e;exact GY h)) fun h=>hm σ _ fun v ab e=>q _ _ fun b eb=>H7 h (eb▸e)
variable (cells:List Cell) {c:Nat->List V->W P->Res P V}
namespace wp
theorem vq{elt:X}{tg:List Nat}{many:Bool}{src:Src}{cond:X}{fr:Fr}(hs:∀(σ:St) (Q:It->St->Prop),(∀it ab,Iter P d src fr σ it ab->Q it ab)->aW (rB P cells d c src fr) Q σ)
  (h1:∀(fr:Fr) (σ:St) (Q:V->St->Prop),(∀v ab,Ev P d cond fr σ v ab->Q v ab)->aW (bI P cells d c cond fr) Q σ)(h2:∀(fr:Fr) (σ:St) (Q:V->St->Prop),(∀v ab,Ev P d elt fr σ v ab->Q v ab)->aW (bI P cells d c elt fr) Q σ)
  {σ:St}{Q:V->St->Prop}(q:∀it ae n r av,Iter P d src fr σ it ae->fy (bV P d elt tg many cond fr) it n 0 [] ae r av->Q (.lst r) av):aW (bI P cells d c (.comp elt tg many src cond) fr) Q σ:=ak (hs σ _ fun it ae e=>tk
  (ak (vals fun l el=>ak (iG (s:=bV P d elt tg many cond fr) (fun v σ Q q=>ak (lift fun aG hb=>ak (vi cond (h1 aG) σ _ fun x av hx=>ak (dU fun r er=>iD
    (fun hr=>ak (h2 aG av _ fun y bh e=>ret (q _ _ (qq hb (hx true (er.trans (congrArg V.bool hr))) e))))
    (fun hr=>ret (q _ _ (qF hb (hx false (er.trans (congrArg V.bool hr)))))))))) fun r av h=>ret (q _ _ _ _ _ (el▸e) (bw.comp rfl h)))))
  (ak (heap fun h eh y_=>ak (fact fun a ⟨l,h',ea,n,ha⟩=>CA fun x eM ex=>by
   cases ea.symm.trans ex;subst eh
   exact q _ _ _ _ _ e ha))))
section
variable (hc:∀(f:Nat) (vs:List V) (σ:St) (Q:V->St->Prop),(∀v ab,Run P d f vs σ v ab->Q v ab)->aW (c f vs) Q σ)
include hc
mutual
theorem aM:∀(e:X) (fr:Fr) (σ:St) (Q:V->St->Prop),(∀v ab,Ev P d e fr σ v ab->Q v ab)->aW (bI P cells d c e fr) Q σ
 |.cst v=>@fun fr σ Q q=>ret (q _ _ .cst)
 |.gc g=>@fun fr σ Q q=>ret (q _ _ .gc)
 |.var i=>@fun fr σ Q q=>ak (lift fun o e=>lift fun v e'=>q _ _ (.var (e.trans (congrArg some e'))))
 |.neg a=>@fun fr σ Q q=>ak (aM a fr σ _ fun x ae e=>ak (cK fun i ei=>ret (q _ _ (.neg (ei▸e)))))
 |.nt a=>@fun fr σ Q q=>ak (aM a fr σ _ fun x ae e=>ak (dU fun i ei=>ret (q _ _ (.nt (ei▸e)))))
 |.bo k es=>@fun fr σ Q q=>ak (ye k es fr σ _ fun b ae e=>ret (q _ _ (.bo e)))
 |.cmp o a b=>@fun fr σ Q q=>ak (aM a fr σ _ fun x ae e=>ak (aM b fr ae _ fun y av e'=>ak (qK cells fun r h=>ret (q _ _ (.cmp e e' h)))))
 |.iI o p a b z=>@fun fr σ Q q=>ak (aM a fr σ _ fun x ae e=>ak (aM b fr ae _ fun y av e'=>ak (qK cells fun r h=>iD
   (fun hr=>ak (aM z fr av _ fun v bh nV=>ak (qK cells fun r' h'=>ret (q _ _ (.iI e e' h (.inr ⟨hr,v,nV,h'⟩))))))
   (fun hr=>ret (q _ _ (.iI e e' h (.inl ⟨hr,rfl,rfl⟩)))))))
 |.bin o a b=>@fun fr σ Q q=>ak (aM a fr σ _ fun x ae e=>ak (aM b fr ae _ fun y av e'=>Cy cells fun v h=>q _ _ (.bin e e' h)))
 |.eG t a b=>@fun fr σ Q q=>ak (aM t fr σ _ fun x ae e=>ak (dU fun r er=>iD
   (fun hr=>aM a fr ae _ fun v av e'=>q _ _ (.eG (er▸e) (fun y_=>e') fun h=>absurd (h.symm.trans hr) bf))
   (fun hr=>aM b fr ae _ fun v av e'=>q _ _ (.eG (er▸e) (fun h=>absurd (hr.symm.trans h) bf) fun y_=>e'))))
 |.aj es=>@fun fr σ Q q=>ak (ie es fr σ _ fun l ae e=>ret (q _ _ (.aj e)))
 |.lst es=>@fun fr σ Q q=>ak (ie es fr σ _ fun l ae e=>ret (q _ _ (.lst e)))
 |.dS es=>@fun fr σ Q q=>ak (ie es fr σ _ fun l ae e=>ak (alloc (ret (q _ _ (.dS e)))))
 |.qB=>@fun fr σ Q q=>ak (alloc (ret (q _ _ .qB)))
 |.qT a=>@fun fr σ Q q=>ak (aM a fr σ _ fun x ae e=>BP cells fun v av h hb=>q _ _ (.qT e h hb))
 |.bad=>@fun fr σ Q q=>bad
 |.rep a n=>@fun fr σ Q q=>ak (aM a fr σ _ fun x ae e=>ak (aM n fr ae _ fun y av e'=>ak (cK fun k ek=>ak (guard fun h=>ak (alloc (ret (q _ _ (.rep e (ek▸e') h))))))))
 |.sub a i=>@fun fr σ Q q=>ak (aM a fr σ _ fun x ae e=>ak (aM i fr ae _ fun y av e'=>B9 cells fun v h=>q _ _ (.sub e e' h)))
 |.dV a lo hi=>@fun fr σ Q q=>ak (aM a fr σ _ fun x ae e=>ak (ti lo (aM lo fr) ae _ fun y av e'=>ak (ti hi (aM hi fr) av _ fun z bh nV=>Cz fun v h=>q _ _ (.dV e e'.ev nV.ev e'.no nV.no h))))
 |.attr a k=>@fun fr σ Q q=>ak (aM a fr σ _ fun x ae e=>wu cells fun v h=>q _ _ (.attr e h))
 |.call f es=>@fun fr σ Q q=>ak (ie es fr σ _ fun vs ae e=>hc f vs ae _ fun v av h=>q _ _ (.call e h))
 |.new cl es=>@fun fr σ Q q=>ak (ie es fr σ _ fun vs ae e=>ak (alloc (ak (hc _ _ _ _ fun r av h=>ak (lg fun er=>ret (q _ _ (.new e (er▸h))))))))
 |.aC a k es=>@fun fr σ Q q=>ak (aM a fr σ _ fun x ae e=>ak (xi cells fun f hf=>ak (ie es fr ae _ fun vs av e'=>hc _ _ _ _ fun v bh h=>q _ _ (.aC e hf e' h))))
 |.b1 b a=>@fun fr σ Q q=>ak (aM a fr σ _ fun x ae e=>HO cells fun v h=>q _ _ (.b1 e h))
 |.max2 a b=>@fun fr σ Q q=>ak (aM a fr σ _ fun x ae e=>ak (cK fun i ei=>ak (aM b fr ae _ fun y av e'=>ak (cK fun j ej=>ret (q _ _ (.max2 (ei▸e) (ej▸e')))))))
 |.app a v=>@fun fr σ Q q=>ak (aM a fr σ _ fun x ae e=>ak (eH fun n en=>ak (dI cells fun zr h₀=>ak (aM v fr ae _ fun y av e'=>ak (dI cells fun l h=>ak (guard fun hl=>ak (write cells (ret (q _ _ (.app (en▸e) h₀ e' h hl))))))))))
 |.pop a=>@fun fr σ Q q=>ak (aM a fr σ _ fun x ae e=>ak (eH fun n en=>ak (dI cells fun l h=>ak (Cp fun v hv=>ak (gp fun hl=>ak (write cells (ret (q _ _ (.pop (en▸e) h hv hl)))))))))
 |.sQ a k z=>@fun fr σ Q q=>ak (aM a fr σ _ fun x ae e=>ak (eH fun n en=>ak (look cells fun o ho=>ak (uZ fun eo=>ak (aM k fr ae _ fun y av e'=>ak (cK fun i ei=>ak (aM z fr av _ fun v bh nV=>ak (look cells fun o' Di=>ak (uZ fun eo'=>
   ret (q _ _ (.sQ (en▸e) (eo▸ho) (ei▸e') nV (eo'▸Di))))))))))))
 |.lower a=>@fun fr σ Q q=>ak (aM a fr σ _ fun x ae e=>ak (kB fun s es=>ak (Ic fun c ec=>ak (guard fun h=>ret (q _ _ (.lower (ec▸es▸e) h))))))
 |.join a=>@fun fr σ Q q=>ak (aM a fr σ _ fun x ae e=>ak (j6 fun l el=>ak (wV fun s hs=>ak (guard fun h=>ret (q _ _ (.join (el▸e) hs h))))))
 |.comp elt tg many src cond=>@fun fr σ Q q=>vq cells (mR src fr) (aM cond) (aM elt) fun it ae n r av e h=>q _ _ (.comp e h)
theorem ie:∀(es:Xs) (fr:Fr) (σ:St) (Q:List V->St->Prop),(∀vs ab,qW P d es fr σ vs ab->Q vs ab)->aW (qr P cells d c es fr) Q σ
 |.nil=>@fun fr σ Q q=>ret (q _ _ .nil)
 |.cons a r=>@fun fr σ Q q=>ak (aM a fr σ _ fun x ae e=>ak (ie r fr ae _ fun l av e'=>ret (q _ _ (.cons e e'))))
theorem ye:∀(k:Bool) (es:Xs) (fr:Fr) (σ:St) (Q:Bool->St->Prop),(∀b ab,Bo P d k es fr σ b ab->Q b ab)->aW (EF P cells d c k es fr) Q σ
 |k,.nil=>@fun fr σ Q q=>ret (q _ _ .nil)
 |k,.cons a r=>@fun fr σ Q q=>ak (aM a fr σ _ fun x ae e=>ak (dU fun b eb=>iD
   (fun h=>by
    obtain rfl:=eq_of_beq h
    exact ye b r fr ae _ fun b' av e'=>q _ _ (.go (eb▸e) e'))
   (fun h=>ret (by
    have hb:b=!k:=by cases b<;>cases k<;>first|rfl|cases h
    subst hb eb
    exact q _ _ (.stop e)))))
theorem mR:∀(s:Src) (fr:Fr) (σ:St) (Q:It->St->Prop),(∀it ab,Iter P d s fr σ it ab->Q it ab)->aW (rB P cells d c s fr) Q σ
 |.seq a,fr,σ,Q,q=>ak (aM a fr σ _ fun x ae e=>rJ cells fun it h=>q _ _ (.seq e h))
 |.qQ a,fr,σ,Q,q=>ak (aM a fr σ _ fun x ae e=>ak (cK fun n en=>ak (guard fun h=>ret (q _ _ (.qQ (en▸e) h)))))
 |.nW a b z,fr,σ,Q,q=>ak (aM a fr σ _ fun x ae e=>ak (cK fun i ei=>ak (aM b fr ae _ fun y av e'=>ak (cK fun j ej=>ak (aM z fr av _ fun v bh nV=>ak (cK fun k ek=>ak (BL fun hk=>ak (guard fun h=>
   ret (q _ _ (.nW (ei▸e) (ej▸e') (hk▸ek▸nV) ⟨aL h,aR h⟩))))))))))
 |.rev a,fr,σ,Q,q=>ak (aM a fr σ _ fun x ae e=>ak (j6 fun l el=>ret (q _ _ (.rev (el▸e)))))
 |.zip a b,fr,σ,Q,q=>ak (aM a fr σ _ fun x ae e=>ak (kB fun s es=>ak (aM b fr ae _ fun y av e'=>ak (kB fun t et=>ak (guard fun h=>ret (q _ _ (.zip (es▸e) (et▸e') ⟨aL h,aR h⟩)))))))
end
theorem yl(t:Tg)(v:V)(fr:Fr)(σ:St)(Q:Fr->St->Prop)(q:∀aB ab,gd P d t v fr σ aB ab->Q aB ab):aW (FF P cells d c t v fr) Q σ:=by
 cases t with
 |var i=>exact ret (q _ _ .var)
 |attr a k=>exact ak (aM cells hc a fr σ _ fun x ae e=>ak (eH fun n en=>ak (oY cells fun c l h=>ak (uq fun hm=>iD (fun hl=>ak (write cells (ret (q _ _ (.attr (en▸e) h hm (bl hl)))))) fun y_=>bad))))
 |item a i=>exact ak (aM cells hc a fr σ _ fun x ae e=>ak (eH fun n en=>ak (aM cells hc i fr ae _ fun y av e'=>ak (cK fun k ek=>ak (look cells fun o ho=>by
   subst en ek
   cases o with
   |list l=>exact ak (CC fun j h0 hj=>ak (write cells (ret (q _ _ (.list e e' ho h0 hj)))))
   |dict l=>exact ak (BR fun hf=>ak (guard fun hl=>ak (write cells (ret (q _ _ (.dict e e' ho hf hl))))))
   |_=>exact bad)))))
theorem vf:∀(ts:List Tg) (vs:List V) (fr:Fr) (σ:St) (Q:Fr->St->Prop),(∀aB ab,Stores P d ts vs fr σ aB ab->Q aB ab)->aW (Bq P cells d c ts vs fr) Q σ
 |[],[]=>@fun fr σ Q q=>ret (q _ _ .nil)
 |[],_::_=>@fun fr σ Q q=>bad
 |_::_,[]=>@fun fr σ Q q=>bad
 |t::ts,v::vs=>@fun fr σ Q q=>ak (yl cells hc t v fr σ _ fun aG ae e=>vf ts vs aG ae _ fun aB ab e'=>q _ _ (.cons e e'))
mutual
theorem G4:∀(s:S) (fr:Fr) (σ:St) (Q:Fl×Fr->St->Prop),(∀fl aB ab,Exec P d s fr σ fl aB ab->Q (fl,aB) ab)->aW (J4 P cells d c s fr) Q σ
 |.asg t e=>@fun fr σ Q q=>ak (aM cells hc e fr σ _ fun v ae h=>ak (yl cells hc t v fr ae _ fun aG av h'=>ret (q _ _ _ (.asg h h'))))
 |.sL i elt tg many src cond=>@fun fr σ Q q=>(show aW (Internal.ak (bI P cells d c (.comp elt tg many src cond) fr) fun v=>Internal.ret P (.next,fr.set i (some v))) Q σ from ak (vq cells (mR cells hc src fr) (aM cells hc cond) (aM cells hc elt) fun it ae n r av e h=>ret (q _ _ _ (.sL e h))))
 |.bO sw ts e=>@fun fr σ Q q=>ak (aM cells hc e fr σ _ fun v ae h=>ak (xr fun l el=>ak (iD
   (fun hs=>lift fun aG hf=>ret (q _ _ _ (hs▸.Mg (el▸h) hf)))
   (fun hs=>vf cells hc ts l fr ae _ fun aG av hf=>ret (q _ _ _ (hs▸.bO (el▸h) hf))))))
 |.ex e=>@fun fr σ Q q=>ak (aM cells hc e fr σ _ fun v ae h=>ak (lg fun ev=>ret (q _ _ _ (.ex (ev▸h)))))
 |.ret e=>@fun fr σ Q q=>ak (ti e (aM cells hc e fr) σ _ fun v ae h=>ret (q _ _ _ (.ret h)))
 |.ifs e a b=>@fun fr σ Q q=>ak (aM cells hc e fr σ _ fun v ae h=>ak (dU fun r er=>iD
   (fun hr=>fN a fr ae _ fun fl aB av h'=>q _ _ _ (.ifs (er▸h) (fun y_=>h') fun h=>absurd (h.symm.trans hr) bf))
   (fun hr=>fN b fr ae _ fun fl aB av h'=>q _ _ _ (.ifs (er▸h) (fun h=>absurd (hr.symm.trans h) bf) fun y_=>h'))))
 |.cL e b=>@fun fr σ Q q=>ak (heap fun h eh y_=>ak (fact (k:=.cL d e b fr h.den) fun a ⟨f,aB,h',ea,n,ha⟩=>u4 fun x y eM ex=>by
   cases ea.symm.trans ex;subst eh
   exact q _ _ _ (.cL ha)))
 |.dN tg many src b=>@fun fr σ Q q=>ak (mR cells hc src fr σ _ fun it ae e=>tk
   (ak (vals fun l el=>ks (fun v aG σ Q q=>ak (lift fun dY hb=>fN b dY σ _ fun fl aB ab h=>q _ _ _ ⟨dY,hb,h⟩)) fun fl aB ab h=>q _ _ _ (.dN (el▸e) (cg.for rfl h))))
   (ak (heap fun h eh y_=>ak (fact fun a ⟨f,aB,h',ea,n,ha⟩=>u4 fun x y eM ex=>by
    cases ea.symm.trans ex;subst eh
    exact q _ _ _ (.dN e ha)))))
 |.brk=>@fun fr σ Q q=>ret (q _ _ _ .brk)
 |.cont=>@fun fr σ Q q=>ret (q _ _ _ .cont)
 |.stuck=>@fun fr σ Q q=>bad
theorem fN:∀(s:Ss) (fr:Fr) (σ:St) (Q:Fl×Fr->St->Prop),(∀fl aB ab,cX P d s fr σ fl aB ab->Q (fl,aB) ab)->aW (jt P cells d c s fr) Q σ
 |.nil=>@fun fr σ Q q=>ret (q _ _ _ .nil)
 |.cons a r=>@fun fr σ Q q=>ak (G4 a fr σ _ fun fl aG ae h=>by
   cases fl with
   |next=>exact fN r aG ae _ fun fl aB ab h'=>q _ _ _ (.next h h')
   |_=>exact ret (q _ _ _ (.stop h fun h=>nomatch h)))
end
end
theorem Ej{f:Fn}{args:List V}{fr:Fr}(h:frame f args=some fr):args.length+f.dflt.length=f.params/\fr=(args++f.dflt).map some++List.replicate (f.slots-f.params) none:=by
 unfold frame at h;by_cases q:args.length+f.dflt.length=f.params
 ·rw[if_pos q]at h;exact⟨q,(oj h).symm⟩
 ·rw[if_neg q]at h;exact nn h
theorem GX{f d':Nat}{vs:List V}{σ:St}{Q:V->St->Prop}(q:∀v ab,Run P d' f vs σ v ab->Q v ab):aW (Internal.ak (Internal.heap P) fun h=>Internal.ak (Internal.fact P (.call d' f vs h.den)) (Internal.uI P)) Q σ:=ak (heap fun h eh y_=>ak (fact fun a ⟨v,h',ea,ha⟩=>uI fun x eM ex=>by
  cases ea.symm.trans ex;subst eh
  exact q _ _ ha))
theorem fc:∀(k f:Nat) (vs:List V) (σ:St) (Q:V->St->Prop),(∀v ab,Run P (d+k) f vs σ v ab->Q v ab)->aW (eV P cells d k f vs) Q σ
 |0=>@fun f vs σ Q q=>ak (tok fun y_=>GX q)
 |k+1=>@fun f vs σ Q q=>tk (ak (lift fun fr hf=>ak (fN cells (fc k) (P.fn f).body fr σ _ fun fl aB ab h=>by
   refine(Ej hf).elim fun h1 h2=>?_;subst h2
   cases fl with
   |ret v=>exact ret (q _ _ (.mk h1 h (.inl rfl)))
   |next=>exact ret (q _ _ (.mk h1 h (.inr ⟨rfl,rfl⟩)))
   |_=>exact bad))) (GX q)
end wp
end
section
noncomputable def Cell.of{σ:St}{n:Nat}{o:O}(h:σ[n]?=some o):Cell:=⟨σ,n,o,h⟩
def Wh(P:Prog)(d:Nat)(c:X)(b:Ss)(fr:Fr)(σ:St)(fl:Fl)(aB:Fr)(ab:St):Prop:=∃n,Et P d c b n fr σ fl aB ab
section
variable {P:Prog} {d:Nat} {c:X} {b:Ss} {fr aG aB:Fr} {σ ae av ab:St} {fl:Fl}
theorem Wh.stop(h:Ev P d c fr σ (.bool false) ab):Wh P d c b fr σ .next fr ab:=⟨1,.inl ⟨h,rfl,rfl⟩⟩
theorem Wh.next(h:Ev P d c fr σ (.bool true) ae)(h':cX P d b fr ae .next aG av)(r:Wh P d c b aG av fl aB ab):Wh P d c b fr σ fl aB ab:=r.elim fun n r=>⟨n+1,.inr ⟨_,_,_,_,h,h',r⟩⟩
theorem Wh.cont(h:Ev P d c fr σ (.bool true) ae)(h':cX P d b fr ae .cont aG av)(r:Wh P d c b aG av fl aB ab):Wh P d c b fr σ fl aB ab:=r.elim fun n r=>⟨n+1,.inr ⟨_,_,_,_,h,h',r⟩⟩
theorem Wh.brk(h:Ev P d c fr σ (.bool true) ae)(h':cX P d b fr ae .brk aB ab):Wh P d c b fr σ .next aB ab:=⟨1,.inr ⟨_,_,_,_,h,h',rfl,rfl,rfl⟩⟩
theorem Wh.ret{v:V}(h:Ev P d c fr σ (.bool true) ae)(h':cX P d b fr ae (.ret v) aB ab):Wh P d c b fr σ (.ret v) aB ab:=⟨1,.inr ⟨_,_,_,_,h,h',rfl,rfl,rfl⟩⟩
end
def Fo(step:V->Fr->St->Fl->Fr->St->Prop)(it:It)(i:Nat)(fr:Fr)(σ:St)(fl:Fl)(aB:Fr)(ab:St):Prop:=∃n,uK step it n i fr σ fl aB ab
section
variable {step:V->Fr->St->Fl->Fr->St->Prop} {it:It} {i:Nat} {v:V} {fr aG aB:Fr} {σ ae ab:St} {fl:Fl}
theorem Fo.stop(h:it.nx σ i=some none):Fo step it i fr σ .next fr σ:=⟨1,.inl ⟨h,rfl,rfl,rfl⟩⟩
theorem Fo.next(h:it.nx σ i=some (some v))(h':step v fr σ .next aG ae)(r:Fo step it (i+1) aG ae fl aB ab):Fo step it i fr σ fl aB ab:=r.elim fun n r=>⟨n+1,.inr ⟨_,_,_,_,h,h',r⟩⟩
theorem cg.nil:cg step [] fr σ .next fr σ:=⟨rfl,rfl,rfl⟩
theorem cg.next{r:List V}(h:step v fr σ .next aG ae)(k:cg step r aG ae fl aB ab):cg step (v::r) fr σ fl aB ab:=⟨_,_,_,h,k⟩
theorem cg.ret{r:List V}{u:V}(h:step v fr σ (.ret u) aB ab):cg step (v::r) fr σ (.ret u) aB ab:=⟨_,_,_,h,rfl,rfl,rfl⟩
end
section
variable {step:V->St->Option V->St->Prop} {v x:V} {r acc res:List V} {σ ae ab:St}
theorem bw.nil:bw step [] acc σ acc σ:=⟨rfl,rfl⟩
theorem bw.some(h:step v σ (some x) ae)(hl:acc.length<1000000)(k:bw step r (acc++[x]) ae res ab):bw step (v::r) acc σ res ab:=.inl ⟨x,ae,h,hl,k⟩
theorem bw.none(h:step v σ none ae)(k:bw step r acc ae res ab):bw step (v::r) acc σ res ab:=.inr ⟨ae,h,k⟩
end
section
variable {P:Prog}
noncomputable def Fact.call(h:H){d f:Nat}{vs:List V}{σ:St}{v:V}(e:Run P d f vs σ v h.den):Fact P:=⟨.call d f vs σ,.vh v h,v,h,rfl,e⟩
noncomputable def Fact.cL(h:H){d:Nat}{c:X}{b:Ss}{fr aB:Fr}{σ:St}{f:Fl}(e:Wh P d c b fr σ f aB h.den):Fact P:=⟨.cL d c b fr σ,.fl f aB h,f,aB,h,rfl,e⟩
noncomputable def Fact.dN(h:H){d:Nat}{tg:List Nat}{many:Bool}{b:Ss}{it:It}{fr aB:Fr}{σ:St}{f:Fl}(e:Fo (eU P d tg many b) it 0 fr σ f aB h.den):Fact P:=⟨.dN d tg many b it fr σ,.fl f aB h,f,aB,h,rfl,e⟩
noncomputable def Fact.md(h:H){d:Nat}{tg:List Nat}{many:Bool}{b:Ss}{l:List V}{fr aB:Fr}{σ:St}{f:Fl}(e:cg (eU P d tg many b) l fr σ f aB h.den):Fact P:=⟨.dN d tg many b (.vals l) fr σ,.fl f aB h,f,aB,h,rfl,_,cg.for rfl e⟩
noncomputable def Fact.comp(h:H){d:Nat}{elt:X}{tg:List Nat}{many:Bool}{cond:X}{fr:Fr}{it:It}{σ:St}{l:List V}{n:Nat}(e:fy (bV P d elt tg many cond fr) it n 0 [] σ l h.den):Fact P:=⟨.comp d elt tg many cond fr it σ,.lh l h,l,h,rfl,n,e⟩
noncomputable def Fact.eI(h:H){d:Nat}{elt:X}{tg:List Nat}{many:Bool}{cond:X}{fr:Fr}{zr:List V}{σ:St}{l:List V}(e:bw (bV P d elt tg many cond fr) zr [] σ l h.den):Fact P:=⟨.comp d elt tg many cond fr (.vals zr) σ,.lh l h,l,h,rfl,_,bw.comp rfl e⟩
noncomputable def Fact.idx{l:List V}{k:Int}{v:V}(e:Internal.idx l k=some v):Fact P:=⟨.idx l k,.v v,v,rfl,e⟩
noncomputable def Fact.fF{l:List Nat}{k:Int}{v:Nat}(e:Internal.fF l k=some v):Fact P:=⟨.fF l k,.c v,v,rfl,e⟩
noncomputable def Fact.bx{l:List (Int×V)}{k:Int}{v:V}(e:Internal.bx k l=some v):Fact P:=⟨.bx l k,.v v,v,rfl,e⟩
noncomputable def Fact.aw{k:Int}{n j:Nat}(h:0<=k)(e:Internal.aw k n=some j):Fact P:=⟨.aw k n,.c j,j,rfl,h,e⟩
noncomputable def Fact.dV{x a b v:V}(e:fp x a b=some v):Fact P:=⟨.dV x a b,.v v,v,rfl,e⟩
noncomputable def Fact.pop{l l':List V}{v:V}(e:l.getLast?=some v)(e':l.dropLast=l'):Fact P:=⟨.pop l,.p v l',v,l',rfl,e,e'⟩
noncomputable def Fact.join{l:List V}{s:List Nat}(e:gG l=some s):Fact P:=⟨.join l,.s s,s,rfl,e⟩
noncomputable def Fact.bin{o:rg}{x y v:V}(e:∀σ,binop o σ x y=some v):Fact P:=⟨.bin o x y,.v v,v,rfl,e⟩
noncomputable def Fact.b1{o:B1}{x v:V}(e:∀σ,gU o σ x=some v):Fact P:=⟨.b1 o x,.v v,v,rfl,e⟩
end
noncomputable def Jd.ka:Jd->List Key->List Key
 |.key a _,l=>a::l
 |.app x y,l=>x.ka (y.ka l)
 |_,l=>l
noncomputable def Jd.kb:Jd->List Key->List Key
 |.key _ b,l=>b::l
 |.app x y,l=>x.kb (y.kb l)
 |_,l=>l
noncomputable def Jd.imp:Jd->Prop->Prop
 |.prop p,C=>p->C
 |.app x y,C=>x.imp (y.imp C)
 |_,C=>C
theorem Jd.ny:∀{j:Jd} {l l':List Key} {C:Prop},j.ka l=j.kb l'->(j.ok->l=l'->C)->j.imp C
 |.nil=>@fun h k=>k trivial h
 |.key a b=>by rename_i l l' _;intro h k;exact k (List.cons.inj (show a::l=b::l' from h)).1 (List.cons.inj (show a::l=b::l' from h)).2
 |.prop _=>@fun h k=>fun p=>k p h
 |.app x y=>@fun h k=>Jd.ny (j:=x) h fun hx h'=>Jd.ny h' fun hy e=>k ⟨hx,hy⟩ e
noncomputable def H.LA:H->Prop->Prop
 |.ao _,C=>C
 |.put h n o,C=>(H.put h n o).wf->C
 |.add h o,C=>(H.add h o).wf->C
theorem H.xe:∀{h:H} {C:Prop},(h.wf->C)->h.LA C
 |.ao _=>@fun k=>k trivial
 |.put _ _ _=>@fun k=>k
 |.add _ _=>@fun k=>k
section
variable {P:Prog} {α:Type}
noncomputable def IH(r:Res P α):List Key:=match r with|.ok _ _ j=>j.ka []|_=>[]
noncomputable def HK(r:Res P α):List Key:=match r with|.ok _ _ j=>j.kb []|_=>[]
def Rg(h:H)(r:Res P α)(C:Prop):Prop:=match r with|.ok _ _ j=>j.imp (h.LA C)|_=>True
noncomputable def fin(r:Res P α):Option (α×St):=match r with|.ok a w' j=>some (a,w'.h.den)|_=>none
theorem wp.out{m:W P->Res P α}{R:α->St->Prop}{h:H}(s:aW m R h.den){t:Nat}{g:List (Fact P)}{a:α}{ab:St}(h2:fin (m ⟨h,t,g⟩)=some (a,ab))(h3:IH (m ⟨h,t,g⟩)=HK (m ⟨h,t,g⟩))(h1:Rg h (m ⟨h,t,g⟩) (R a ab)->R a ab):R a ab:=by
 refine h1 ?_;clear h1
 cases e:m ⟨h,t,g⟩with
 |ok a' w j=>rw[e]at h2 h3;cases h2;exact Jd.ny h3 fun hj y_=>H.xe fun hw=>(s _ _ _ _ rfl hw e hj).2
 |ask=>trivial
 |bad=>trivial
noncomputable def Jd.all:Jd->Prop->Prop
 |.prop p,C=>p/\C
 |.app x y,C=>x.all (y.all C)
 |_,C=>C
theorem Jd.m6:∀{j:Jd} {B D:Prop},j.all B->j.imp D->B/\D
 |.nil=>@fun b d=>⟨b,d⟩
 |.key _ _=>@fun b d=>⟨b,d⟩
 |.prop _=>@fun b d=>⟨b.2,d b.1⟩
 |.app x y=>@fun b d=>(Jd.m6 (j:=x) b d).elim fun b d=>Jd.m6 b d
def H.Uj(h:H):Prop:=match h with
 |.ao _=>True
 |h=>h.wf/\True
theorem H.Mt{h:H}{C:Prop}(a:h.Uj)(i:h.LA C):C:=by
 cases h with
 |ao=>exact i
 |put=>exact i a.1
 |add=>exact i a.1
def Xe(h:H)(r:Res P α):Prop:=match r with|.ok _ _ j=>j.all h.Uj|_=>True
theorem wp.xU{m:W P->Res P α}{R:α->St->Prop}{h:H}(s:aW m R h.den){t:Nat}{g:List (Fact P)}{a:α}{ab:St}(h2:fin (m ⟨h,t,g⟩)=some (a,ab))(h3:IH (m ⟨h,t,g⟩)=HK (m ⟨h,t,g⟩)){A:Prop}(h4:Xe h (m ⟨h,t,g⟩)=A)(p:A):R a ab:=by
 subst h4
 cases e:m ⟨h,t,g⟩with
 |ok a' w j=>rw[e]at h2 h3 p;cases h2;exact H.Mt (Jd.m6 p (Jd.ny h3 fun hj y_=>H.xe fun hw=>(s _ _ _ _ rfl hw e hj).2)).1 (Jd.m6 p (Jd.ny h3 fun hj y_=>H.xe fun hw=>(s _ _ _ _ rfl hw e hj).2)).2
 |ask=>rw[e]at h2;exact nn h2
 |bad=>rw[e]at h2;exact nn h2
variable {d:Nat}
theorem ud{f:Nat}{vs:List V}(k:Nat)(h:H)(cells:List Cell)(g:List (Fact P))(t:Nat){v:V}{ab:St}
  (h2:fin (eV P cells d k f vs ⟨h,t,g⟩)=some (v,ab))(h3:IH (eV P cells d k f vs ⟨h,t,g⟩)=HK (eV P cells d k f vs ⟨h,t,g⟩))(h1:Rg h (eV P cells d k f vs ⟨h,t,g⟩) (Run P (d+k) f vs h.den v ab)->Run P (d+k) f vs h.den v ab):Run P (d+k) f vs h.den v ab:=wp.out (wp.fc cells k f vs _ _ fun y_ y_ e=>e) h2 h3 h1
noncomputable def lh{α:Type}(h:H)(r:Res P α):Option (α×St)×List Key×Prop:=(fin r,IH r,Xe h r)
noncomputable def rh{α:Type}(r:Res P α)(p:α×St)(A:Prop):Option (α×St)×List Key×Prop:=(some p,HK r,A)
theorem ah{f:Nat}{vs:List V}(k:Nat)(h:H)(cells:List Cell)(g:List (Fact P))(t:Nat){v:V}{ab:St}
  {A:Prop}(pf:A)(H:lh h (eV P cells d k f vs ⟨h,t,g⟩)=rh (eV P cells d k f vs ⟨h,t,g⟩) (v,ab) A:=by kernel_rfl):Run P (d+k) f vs h.den v ab:=wp.xU (wp.fc cells k f vs _ _ fun y_ y_ e=>e) (congrArg (·.1) H) (congrArg (·.2.1) H) (congrArg (·.2.2) H) pf
theorem br{x:X}{fr:Fr}(k:Nat)(h:H)(cells:List Cell)(g:List (Fact P))(t:Nat){v:V}{ab:St}
  {A:Prop}(pf:A)(H:lh h (bI P cells (d+k) (eV P cells d k) x fr ⟨h,t,g⟩)=rh (bI P cells (d+k) (eV P cells d k) x fr ⟨h,t,g⟩) (v,ab) A:=by kernel_rfl):Ev P (d+k) x fr h.den v ab:=wp.xU (wp.aM cells (wp.fc cells k) x fr _ _ fun y_ y_ e=>e) (congrArg (·.1) H) (congrArg (·.2.1) H) (congrArg (·.2.2) H) pf
theorem bJ{b:Ss}{fr:Fr}(k:Nat)(h:H)(cells:List Cell)(g:List (Fact P))(t:Nat){fl:Fl}{aB:Fr}{ab:St}
  {A:Prop}(pf:A)(H:lh h (jt P cells (d+k) (eV P cells d k) b fr ⟨h,t,g⟩)=rh (jt P cells (d+k) (eV P cells d k) b fr ⟨h,t,g⟩) ((fl,aB),ab) A:=by kernel_rfl):cX P (d+k) b fr h.den fl aB ab:=wp.xU (R:=fun p ab=>cX P (d+k) b fr h.den p.1 p.2 ab) (wp.fN cells (wp.fc cells k) b fr _ _ fun y_ y_ y_ e=>e) (congrArg (·.1) H) (congrArg (·.2.1) H) (congrArg (·.2.2) H) pf
noncomputable def wH(P:Prog)(cells:List Cell)(d k:Nat)(tg:List Nat)(many:Bool)(b:Ss)(v:V)(fr:Fr):W P->Res P (Fl×Fr):=ak (lift P 50 (eD tg many v fr)) fun dY=>jt P cells (d+k) (eV P cells d k) b dY
theorem dq{tg:List Nat}{many:Bool}{b:Ss}{v:V}{fr:Fr}(k:Nat)(h:H)(cells:List Cell)(g:List (Fact P))(t:Nat){fl:Fl}{aB:Fr}{ab:St}
  {A:Prop}(pf:A)(H:lh h (wH P cells d k tg many b v fr ⟨h,t,g⟩)=rh (wH P cells d k tg many b v fr ⟨h,t,g⟩) ((fl,aB),ab) A:=by kernel_rfl):eU P (d+k) tg many b v fr h.den fl aB ab:=wp.xU (m:=wH P cells d k tg many b v fr) (R:=fun p ab=>eU P (d+k) tg many b v fr h.den p.1 p.2 ab) (wp.ak (wp.lift fun dY hb=>wp.fN cells (wp.fc cells k) b dY _ _ fun y_ y_ y_ e=>⟨dY,hb,e⟩)) (congrArg (·.1) H) (congrArg (·.2.1) H) (congrArg (·.2.2) H) pf
noncomputable def xw(P:Prog)(cells:List Cell)(d k:Nat)(elt:X)(tg:List Nat)(many:Bool)(cond:X)(fr:Fr)(v:V):W P->Res P (Option V):=ak (lift P 44 (eD tg many v fr)) fun aG=>ak (bif iV cond then ret P (.bool true)else bI P cells (d+k) (eV P cells d k) cond aG) fun x=>ak (dU P x) fun r=>bif r then ak (bI P cells (d+k) (eV P cells d k) elt aG) (fun y=>ret P (some y))else ret P none
theorem eW{elt:X}{tg:List Nat}{many:Bool}{cond:X}{fr:Fr}{v:V}(k:Nat)(h:H)(cells:List Cell)(g:List (Fact P))(t:Nat){o:Option V}{ab:St}
  {A:Prop}(pf:A)(H:lh h (xw P cells d k elt tg many cond fr v ⟨h,t,g⟩)=rh (xw P cells d k elt tg many cond fr v ⟨h,t,g⟩) (o,ab) A:=by kernel_rfl):bV P (d+k) elt tg many cond fr v h.den o ab:=wp.xU (m:=xw P cells d k elt tg many cond fr v) (wp.ak (wp.lift fun aG hb=>wp.ak (vi cond (wp.aM cells (wp.fc cells k) cond aG) _ _ fun x av hx=>wp.ak (wp.dU fun r er=>wp.iD
    (fun hr=>wp.ak (wp.aM cells (wp.fc cells k) elt aG av _ fun y bh e=>wp.ret (qq hb (hx true (er.trans (congrArg V.bool hr))) e)))
    (fun hr=>wp.ret (qF hb (hx false (er.trans (congrArg V.bool hr)))))))))
  (congrArg (·.1) H) (congrArg (·.2.1) H) (congrArg (·.2.2) H) pf
end
end
noncomputable abbrev iu:List V:=[]
noncomputable abbrev jd:List Nat:=[]
theorem dK{k n:Nat}(h:k<n)(hk:k<=1000000000):aw (k:Int) n=some k:=by
 haveI:small (k:Int)=true:=by simp only[small,Bool.and_eq_true,decide_eq_true_eq];exact U3 hk
 unfold aw;refine Rw (if_pos this) (Rw (if_pos Ve) (Rw (if_pos (OH h)) (?_)));rfl
theorem kI(l:List V)(i:Nat)(h:i<l.length)(hk:i<=1000000000):idx l (i:Int)=l[i]?:=by unfold idx;exact Rw (dK h hk) rfl
theorem sJ{l:List V}{k:Nat}{v:V}(h:l[k]?=some v)(hk:k<=1000000000):idx l (k:Int)=some v:=by unfold idx;exact Rw (dK (List.getElem?_eq_some_iff.mp h).1 hk) h
theorem mG(a:V)(r:List V):idx (a::r) 0=some a:=(kI (a::r) 0 ((le_add_left _ _)) Ow)
theorem DU{n:Nat}(h:0<n):aw (-1) n=some (n-1):=by unfold aw;refine Rw (if_pos (by decide)) (Rw (if_neg (by decide)) (Rw (if_pos (WA h)) (?_)));congr 1;exact Sh
theorem Hi(l:List V)(a:V):idx (l++[a]) (-1)=some a:=by unfold idx;refine Rw (DU (by simp)) (?_);simp
theorem aV{σ:St}{n:Nat}{o:O}(h:n<σ.length):(σ.set n o)[n]?=some o:=by simp[h]
theorem au{σ:St}{n m:Nat}{o:O}(h:n≠m):(σ.set n o)[m]?=σ[m]?:=by simp[h]
theorem aO{σ τ:St}{m:Nat}(h:m<σ.length):(σ++τ)[m]?=σ[m]?:=getElem?_append_left h
theorem ou{σ:St}{o:O}:(σ++[o])[σ.length]?=some o:=by simp
theorem gT{a b:Nat}(h:a<b):(a:Int)<(b:Int):=Int.ofNat_lt.mpr h
theorem iX{a b:Nat}(h:b<=a):¬(a:Int)<(b:Int):=fun k=>absurd (Int.ofNat_lt.mp k) (not_lt.mpr h)
theorem fE{a b:Nat}(h:a<=b):(a:Int)<=(b:Int):=Int.ofNat_le.mpr h
theorem CZ{a b:Nat}(h:b<a):¬(a:Int)<=(b:Int):=fun k=>absurd (Int.ofNat_le.mp k) (Nat.not_le.mpr h)
theorem Fg{a b:Nat}(h:a=b):(a:Int)=(b:Int):=congrArg Nat.cast h
theorem qU{a b:Nat}(h:¬a=b):¬(a:Int)=(b:Int):=fun k=>h (Int.ofNat_inj.mp k)
theorem fA{a:Nat}:-1000000000<=(a:Int):=Int.le_trans (by decide) (Int.natCast_nonneg a)
theorem cZ{x:Int}(h:-1000000000<=x)(h':x<=1000000000):small x=true:=by simp only[small,Bool.and_eq_true,decide_eq_true_eq];exact Pj h h'
theorem bR{σ:St}{x y:Int}(h1:-1000000000<=x)(h2:x<=1000000000)(h3:-1000000000<=y)(h4:y<=1000000000):binop .mul σ (.int x) (.int y)=some (.int (x*y)):=by show(if small x&&small y then some (V.int (x*y))else none)=_;exact Rw (cZ h1 h2) (Rw (cZ h3 h4) rfl)
theorem tS{σ:St}{x y:Int}(h:y≠0):binop .mod σ (.int x) (.int y)=some (.int (x.fmod y)):=by show(if y != 0 then some (V.int (Int.fmod x y))else none)=_;exact Rw (if_pos (bne_iff_ne.mpr h)) rfl
theorem xB{σ:St}{x y:Int}(h1:-1000000000<=x)(h2:x<=1000000000)(h3:0<y)(h4:y<1000):binop .fdiv σ (.int x) (.int y)=some (.int (x.fdiv y)):=by show(if small x&&decide (0<y)&&decide (y<1000)then some (V.int (Int.fdiv x y))else none)=_;exact Rw (cZ h1 h2) (Rw (decide_eq_true h3) (Rw (decide_eq_true h4) rfl))
theorem cC{σ:St}{x y:List Nat}(h:x.length+y.length<=1000000):binop .add σ (.str x) (.str y)=some (.str (x++y)):=if_pos h
theorem qk{σ:St}{x y:List V}(h:x.length+y.length<=1000000):binop .add σ (.aj x) (.aj y)=some (.aj (x++y)):=if_pos h
theorem aJ{σ:St}{x y:List V}(h:x.length+y.length<=1000000):binop .add σ (.lst x) (.lst y)=some (.lst (x++y)):=if_pos h
theorem bw.map{step:V->St->Option V->St->Prop}{σ:St}{α:Type}{i g:α->V}:∀(l:List α) (acc:List V),(∀a∈l,step (i a) σ (Option.some (g a)) σ)->acc.length+l.length<=1000000->bw step (l.map i) acc σ (acc++l.map g) σ
 |[]=>@fun acc _ _=>⟨append_nil acc,rfl⟩
 |a::r=>@fun acc h hl=>by haveI:=bw.map r (acc++[g a]) (fun b hb=>h b (mem_cons_of_mem _ hb)) (Rw length_append (LR hl));rw[append_assoc]at this;exact bw.some (h a mem_cons_self) (MI hl) this
theorem xx{α:Type}{l:List α}(h:l.length<=1000000)(s e:Nat):cut l (.int (s:Int)) (.int (e:Int))=some ((l.drop s).take (e-s)):=by
 haveI hc:∀k:Nat,clip (k:Int) l.length=min k l.length:=fun k=>by unfold clip;exact Rw (if_neg Lr) MF
 rw[show cut l (.int (s:Int)) (.int (e:Int))=some ((l.drop (clip s l.length)).take (clip e l.length-clip s l.length))from if_pos h,hc,hc];congr 1;refine Or.elim (le_total s l.length) (fun h1=>?_) fun h1=>?_
 ·refine Rw (min_eq_left h1) (Or.elim (le_total e l.length) (fun h2=>?_) fun h2=>?_)
  ·exact Rw (min_eq_left h2) rfl
  ·exact Rw (min_eq_right h2) (Rw (take_of_length_le (by simp)) (Rw (take_of_length_le (by simp;exact SV h2)) rfl))
 ·refine Rw (min_eq_right h1) (Rw (drop_of_length_le (le_refl _)) (Rw (drop_of_length_le h1) (?_)));simp
theorem uT{α:Type}{l:List α}(h:l.length<=1000000)(s m:Nat):cut l (.int (s:Int)) (.int ((s:Int)+(m:Int)))=some ((l.drop s).take m):=by haveI:(s:Int)+(m:Int)=((s+m:Nat):Int):=Vk;rw[this,xx h,add_sub_cancel_left]
theorem ro{α:Type}{l:List α}(h:l.length<=1000000)(e:Nat):cut l .none (.int (e:Int))=some (l.take e):=by
 haveI hc:∀k:Nat,clip (k:Int) l.length=min k l.length:=fun k=>by unfold clip;exact Rw (if_neg Lr) MF
 rw[show cut l .none (.int (e:Int))=some (l.take (clip e l.length))from if_pos h,hc];congr 1;refine Or.elim (le_total e l.length) (fun h2=>?_) fun h2=>?_
 ·exact Rw (min_eq_left h2) rfl
 ·exact Rw (min_eq_right h2) (Rw (take_of_length_le (le_refl _)) (Rw (take_of_length_le h2) rfl))
theorem DJ{α:Type}{l:List α}(h:l.length<=1000000)(e:Nat):cut l (.int (e:Int)) .none=some (l.drop e):=by
 haveI hc:∀k:Nat,clip (k:Int) l.length=min k l.length:=fun k=>by unfold clip;exact Rw (if_neg Lr) MF
 rw[show cut l (.int (e:Int)) .none=some (l.drop (clip e l.length))from if_pos h,hc];congr 1;refine Or.elim (le_total e l.length) (fun h2=>?_) fun h2=>?_
 ·exact Rw (min_eq_left h2) rfl
 ·exact Rw (min_eq_right h2) (Rw (drop_of_length_le (le_refl _)) (Rw (drop_of_length_le h2) rfl))
noncomputable def Xs.o1(a0:X):Xs:=.cons a0 .nil
noncomputable def Xs.o2(a0 a1:X):Xs:=.cons a0 (.cons a1 .nil)
noncomputable def Xs.o3(a0 a1 a2:X):Xs:=.cons a0 (.cons a1 (.cons a2 .nil))
noncomputable def Xs.o4(a0 a1 a2 a3:X):Xs:=.cons a0 (.cons a1 (.cons a2 (.cons a3 .nil)))
noncomputable def Xs.o5(a0 a1 a2 a3 a4:X):Xs:=.cons a0 (.cons a1 (.cons a2 (.cons a3 (.cons a4 .nil))))
noncomputable def Xs.o6(a0 a1 a2 a3 a4 a5:X):Xs:=.cons a0 (.cons a1 (.cons a2 (.cons a3 (.cons a4 (.cons a5 .nil)))))
noncomputable def Xs.o7(a0 a1 a2 a3 a4 a5 a6:X):Xs:=.cons a0 (.cons a1 (.cons a2 (.cons a3 (.cons a4 (.cons a5 (.cons a6 .nil))))))
noncomputable def Xs.o8(a0 a1 a2 a3 a4 a5 a6 a7:X):Xs:=.cons a0 (.cons a1 (.cons a2 (.cons a3 (.cons a4 (.cons a5 (.cons a6 (.cons a7 .nil)))))))
noncomputable def Ss.o1(a0:S):Ss:=.cons a0 .nil
noncomputable def Ss.o2(a0 a1:S):Ss:=.cons a0 (.cons a1 .nil)
noncomputable def Ss.o3(a0 a1 a2:S):Ss:=.cons a0 (.cons a1 (.cons a2 .nil))
noncomputable def Ss.o4(a0 a1 a2 a3:S):Ss:=.cons a0 (.cons a1 (.cons a2 (.cons a3 .nil)))
noncomputable def Ss.o5(a0 a1 a2 a3 a4:S):Ss:=.cons a0 (.cons a1 (.cons a2 (.cons a3 (.cons a4 .nil))))
noncomputable def Ss.o6(a0 a1 a2 a3 a4 a5:S):Ss:=.cons a0 (.cons a1 (.cons a2 (.cons a3 (.cons a4 (.cons a5 .nil)))))
noncomputable def Ss.o7(a0 a1 a2 a3 a4 a5 a6:S):Ss:=.cons a0 (.cons a1 (.cons a2 (.cons a3 (.cons a4 (.cons a5 (.cons a6 .nil))))))
noncomputable def Ss.o8(a0 a1 a2 a3 a4 a5 a6 a7:S):Ss:=.cons a0 (.cons a1 (.cons a2 (.cons a3 (.cons a4 (.cons a5 (.cons a6 (.cons a7 .nil)))))))
noncomputable def X.ci(n:Int):X:=.cst (.int n)
noncomputable def X.cs(l:List Nat):X:=.cst (.str l)
noncomputable def X.cn:X:=.cst .none
noncomputable def X.ct:X:=.cst (.bool true)
noncomputable def X.cf:X:=.cst (.bool false)
noncomputable def X.v0:X:=.var 0
noncomputable def X.w0:X:=.var 10
noncomputable def X.c0:X:=.ci 0
noncomputable def X.g0:X:=.gc 0
noncomputable def X.v1:X:=.var 1
noncomputable def X.w1:X:=.var 11
noncomputable def X.c1:X:=.ci 1
noncomputable def X.g1:X:=.gc 1
noncomputable def X.v2:X:=.var 2
noncomputable def X.w2:X:=.var 12
noncomputable def X.c2:X:=.ci 2
noncomputable def X.g2:X:=.gc 2
noncomputable def X.v3:X:=.var 3
noncomputable def X.w3:X:=.var 13
noncomputable def X.c3:X:=.ci 3
noncomputable def X.g3:X:=.gc 3
noncomputable def X.v4:X:=.var 4
noncomputable def X.w4:X:=.var 14
noncomputable def X.c4:X:=.ci 4
noncomputable def X.g4:X:=.gc 4
noncomputable def X.v5:X:=.var 5
noncomputable def X.w5:X:=.var 15
noncomputable def X.c5:X:=.ci 5
noncomputable def X.g5:X:=.gc 5
noncomputable def X.v6:X:=.var 6
noncomputable def X.w6:X:=.var 16
noncomputable def X.c6:X:=.ci 6
noncomputable def X.g6:X:=.gc 6
noncomputable def X.v7:X:=.var 7
noncomputable def X.w7:X:=.var 17
noncomputable def X.c7:X:=.ci 7
noncomputable def X.g7:X:=.gc 7
noncomputable def X.v8:X:=.var 8
noncomputable def X.w8:X:=.var 18
noncomputable def X.c8:X:=.ci 8
noncomputable def X.g8:X:=.gc 8
noncomputable def X.v9:X:=.var 9
noncomputable def X.w9:X:=.var 19
noncomputable def X.g9:X:=.gc 9
noncomputable def X.ad(a b:X):X:=.bin .add a b
noncomputable def X.sb(a b:X):X:=.bin .sub a b
noncomputable def X.mu(a b:X):X:=.bin .mul a b
noncomputable def X.bt(a b:X):X:=.cmp .eq a b
noncomputable def X.iC(a b:X):X:=.cmp .ne a b
noncomputable def X.oP(a b:X):X:=.cmp .lt a b
noncomputable def X.qle(a b:X):X:=.cmp .le a b
noncomputable def X.j3(a b:X):X:=.cmp .gt a b
noncomputable def X.C5(a b:X):X:=.cmp .ge a b
noncomputable def X.wd(a b:X):X:=.cmp .is a b
noncomputable def X.Ak(a b:X):X:=.cmp .tI a b
noncomputable def X.qm(a b:X):X:=.cmp .isin a b
noncomputable def X.qn(a b:X):X:=.cmp .pq a b
noncomputable def X.ln(a:X):X:=.b1 .len a
noncomputable def X.tu(a:X):X:=.b1 .tuple a
noncomputable def X.li(a:X):X:=.b1 .list a
noncomputable def X.a0(k:Nat):X:=.attr (.var 0) k
noncomputable def X.a1(k:Nat):X:=.attr (.var 1) k
noncomputable def Ss.rt(a:X):Ss:=.cons (.ret a) .nil
noncomputable def Tg.w0:Tg:=.var 10
noncomputable def Tg.v1:Tg:=.var 1
noncomputable def Tg.w1:Tg:=.var 11
noncomputable def Tg.v2:Tg:=.var 2
noncomputable def Tg.w2:Tg:=.var 12
noncomputable def Tg.v3:Tg:=.var 3
noncomputable def Tg.w3:Tg:=.var 13
noncomputable def Tg.v4:Tg:=.var 4
noncomputable def Tg.w4:Tg:=.var 14
noncomputable def Tg.v5:Tg:=.var 5
noncomputable def Tg.w5:Tg:=.var 15
noncomputable def Tg.v6:Tg:=.var 6
noncomputable def Tg.v7:Tg:=.var 7
noncomputable def Tg.v8:Tg:=.var 8
noncomputable def Tg.v9:Tg:=.var 9
noncomputable def Tg.a0(k:Nat):Tg:=.attr (.var 0) k
noncomputable def Tg.a1(k:Nat):Tg:=.attr (.var 1) k
noncomputable def Fn.f(a b:Nat)(c:Ss):Fn:=⟨a,b,[],c⟩
noncomputable def b0:Ss:=.o2 (.ifs (.bo false (.o2 (.iI .le .le (.ci 65) .v0 (.ci 90)) (.bo true (.o2 (.iI .le .le (.ci 192) .v0 (.ci 222)) (.iC .v0 (.ci 215)))))) (.rt (.ad .v0 (.ci 32))) .nil) (.ret .v0)
noncomputable def b1:Ss:=.o2 (.ifs (.bo false (.o2 (.iI .le .le (.ci 97) .v0 (.ci 122)) (.bo true (.o2 (.iI .le .le (.ci 224) .v0 (.ci 254)) (.iC .v0 (.ci 247)))))) (.rt (.sb .v0 (.ci 32))) .nil) (.ret .v0)
noncomputable def b2:Ss:=.o1 (.ret (.call 0 (.o1 .v0)))
noncomputable def Ha:X:=.b1 .chr .v4
noncomputable def b3:Ss:=.o6 (.ifs (.bo false (.o3 (.C5 (.ad .v1 .c1) (.ln .v0)) (.iC (.sub .v0 .v1) .g0) (.iC (.sub .v0 (.ad .v1 .c1)) .g1))) (.rt .cn) .nil) .stuck (.ifs (.wd .v2 .cn) (.rt .cn) .nil) (.asg .v3 (.join (.comp Ha [4] false (.seq (.dV .v0 (.ad .v1 .c2) .v2)) .ct))) (.ifs (.qn .v3 .g2) (.o1 .stuck) .nil) (.ret (.aj (.o2 .v3 (.ad .v2 .c2))))
noncomputable def b4:Ss:=.o3 (.asg .v2 (.sub .v0 .v1)) (.ifs (.bo true (.o3 (.oP (.ad .v1 .c2) (.ln .v0)) (.bt (.sub .v0 (.ad .v1 .c1)) .g3) (.iC (.sub .v0 (.ad .v1 .c2)) .g4))) (.rt (.aj (.o2 (.aj (.o2 .v2 (.sub .v0 (.ad .v1 .c2)))) (.ad .v1 .c3)))) .nil) (.ret (.aj (.o2 (.aj (.o2 .v2 .v2)) (.ad .v1 .c1))))
noncomputable def nz:X:=.ct
noncomputable def oi:Ss:=.o4 (.ifs (.C5 .v1 (.ln .v0)) (.o1 .stuck) .nil) (.ifs (.bo true (.o2 (.bt (.sub .v0 .v1) .g4) (.j3 .v1 .v3))) (.rt (.aj (.o2 (.aj (.o4 (.cs [115,101,116]) .v2 (.tu .v4) (.tu .v5))) (.ad .v1 .c1)))) .nil) (.asg .v6 (.call 3 (.o2 .v0 .v1))) (.ifs (.Ak .v6 .cn) (.o2 (.ex (.app .v5 (.sub .v6 .c0))) (.asg .v1 (.sub .v6 .c1))) (.o2 (.bO false [.v7,.v1] (.call 4 (.o2 .v0 .v1))) (.ex (.app .v4 .v7))))
noncomputable def b5:Ss:=.o4 (.asg .v2 (.bo true (.o2 (.oP .v1 (.ln .v0)) (.bt (.sub .v0 .v1) .g5)))) (.asg .v1 (.eG .v2 (.ad .v1 .c1) .v1)) (.bO true [.v3,.v4,.v5] (.aj (.o3 .v1 (.dS .nil) (.dS .nil)))) (.cL nz oi)
noncomputable def Hs:X:=.iI .le .le .v2 .v1 .v3
noncomputable def b6:Ss:=.o1 (.ret (.b1 .any (.comp Hs [2,3] true (.seq .v0) .ct)))
noncomputable def b7:Ss:=.o1 (.ret (.eG (.oP .v1 (.ln .v0)) (.b1 .chr (.sub .v0 .v1)) (.cs [])))
noncomputable def b8:Ss:=.o1 (.ret (.bo true (.o3 (.bt (.call 7 (.o2 .v0 .v1)) (.cs [92])) (.iC (.call 7 (.o2 .v0 (.ad .v1 .c1))) (.cs [])) (.qm (.call 7 (.o2 .v0 (.ad .v1 .c1))) .v2))))
noncomputable def b9:Ss:=.o1 (.ret (.eG (.bt (.ln .v0) .c1) (.sub .v0 .c0) (.aj (.o2 (.cs [115,101,113]) (.tu .v0)))))
noncomputable def b10:Ss:=.o2 (.asg .v1 (.new 1 (.o1 .v0))) (.ret (.aj (.o2 (.aC .v1 0 .nil) (.a1 1))))
noncomputable def Zv:Ss:=.o3 (.asg .v3 (.new 3 (.o1 .v2))) (.ex (.aC .v3 2 (.o1 .v0))) (.ret (.qT (.new 2 (.o4 (.aC .v3 3 .nil) .v1 (.attr .v3 4) .v2))))
noncomputable def b12:Ss:=.o2 (.bO false [.v2,.v3] (.call 10 (.o1 .v0))) (.ret (.call 11 (.o3 .v2 .v3 .v1)))
noncomputable def ZL:Ss:=.cons (.ifs (.bt .v0 (.cs [98,111,108])) (.rt (.bo false (.o2 (.bt .v4 (.aC .v1 5 .nil)) (.bt (.aC .v1 6 (.o1 (.sb .v4 .c1))) .g6)))) .nil) (.cons (.ifs (.bt .v0 (.cs [101,111,108])) (.rt (.bo false (.o2 (.bt .v4 (.aC .v1 7 .nil)) (.bt (.aC .v1 6 (.o1 .v4)) .g6)))) .nil) (.o8 (.ifs (.bt .v0 (.cs [115,116,97,114,116])) (.rt (.bt .v4 (.aC .v1 5 .nil))) .nil) (.ifs (.bt .v0 (.cs [101,110,100])) (.rt (.bt .v4 (.aC .v1 7 .nil))) .nil) (.ifs (.bt .v0 (.cs [112,111,105,110,116])) (.rt (.bt .v4 .v3)) .nil) (.ifs (.qm .v0 (.aj (.o2 (.cs [98,111,117,110,100]) (.cs [105,110,115,105,100,101])))) (.o1 .stuck) .nil) (.ifs (.bt .v0 (.cs [119,111,114,100,115,116,97,114,116])) (.o1 .stuck) .nil) (.ifs (.bt .v0 (.cs [119,111,114,100,101,110,100])) (.o1 .stuck) .nil) (.ifs (.bt .v0 (.cs [115,121,109,98,111,108,115,116,97,114,116])) (.o1 .stuck) .nil) .stuck))
noncomputable def b14:Ss:=.o1 (.ret (.aj (.o2 (.cs [115,101,113]) (.aj (.o2 (.aj (.o2 (.cs [115,104,121]) .v0)) (.aj (.o2 (.cs [97,116]) .v1)))))))
noncomputable def nN:X:=.bo true (.o2 (.C5 .w1 (.max2 .v4 (.aC .v0 5 .nil))) (.wd .w2 .cn))
noncomputable def sY:Ss:=.o2 (.asg .w2 (.aC .v8 8 (.o2 .w1 .v2))) (.asg .w1 (.sb .w1 .c1))
noncomputable def nS:X:=.bo true (.o3 (.Ak .w2 .cn) .v6 (.j3 (.sub (.sub .w2 .c0) .c0) (.aC .v0 5 .nil)))
noncomputable def nU:Ss:=.o3 (.asg .w3 (.aC .v8 8 (.o2 (.sb (.sub (.sub .w2 .c0) .c0) .c1) .v2))) (.ifs (.wd .w3 .cn) (.rt .w2) .nil) (.asg .w2 .w3)
noncomputable def Za:Ss:=.o7 (.bO false [.v9,.w0] (.call 10 (.o1 .v3))) (.asg .v7 (.call 11 (.o3 (.call 14 (.o2 .v9 (.cs [112,111,105,110,116]))) .w0 .v5))) (.asg .v8 (.new 5 (.o4 .v7 .v0 .v1 .v2))) (.bO true [.w1,.w2] (.aj (.o2 .v2 .cn))) (.cL nN sY) (.cL nS nU) (.ret .w2)
noncomputable def zE:Ss:=.o2 (.asg .v8 (.aC .v6 8 (.o2 .v7 .v2))) (.ifs (.Ak .v8 .cn) (.rt .v8) .nil)
noncomputable def Zl:Ss:=.o3 (.asg .v6 (.new 5 (.o4 .v3 .v0 .v1 .v5))) (.dN [7] false (.nW .v2 (.sb (.max2 .v4 (.aC .v0 5 .nil)) .c1) (.neg .c1)) zE) (.ret .cn)
noncomputable def YU:Ss:=.o3 (.asg (.item .v0 .c1) (.ad (.sub .v0 .c1) .c1)) (.ifs (.qle (.sub .v0 .c1) (.ln (.sub .v0 .c0))) (.rt (.bin .mod (.sub (.sub .v0 .c0) (.sb (.sub .v0 .c1) .c1)) .v1)) .nil) (.ret (.bin .mod (.bin .fdiv (.ad (.ad (.mu (.mu (.sub .v0 .c1) (.sub .v0 .c1)) (.ci 37)) (.mu (.ci 23) (.sub .v0 .c1))) (.mu .c7 (.ln (.sub .v0 .c0)))) .c5) .v1))
noncomputable def ZD:Ss:=.o4 (.asg .v1 (.call 17 (.o2 .v0 .c6))) (.ifs (.oP .v1 .c3) (.o2 (.asg .v2 (.sub (.cs [97,98,65]) .v1)) (.ret (.aj (.o2 (.aj (.o2 (.cs [115,105,103,110]) .v2)) .v2)))) .nil) (.ifs (.bt .v1 .c3) (.rt (.aj (.o2 (.aj (.o2 (.cs [97,110,121]) (.cs []))) (.cs [46])))) .nil) (.ret (.sub (.lst (.o2 (.aj (.o2 (.aj (.o2 (.cs [105,110]) (.cs [97,98]))) (.cs [91,97,98,93]))) (.aj (.o2 (.aj (.o2 (.cs [111,117,116]) (.cs [97]))) (.cs [91,94,97,93]))))) (.sb .v1 .c4)))
noncomputable def Zs:Ss:=.o7 (.asg .v3 (.eG (.j3 .v1 .c0) (.call 17 (.o2 .v0 .c8)) .c0)) (.ifs (.oP .v3 .c2) (.o2 (.ifs (.bo true (.o2 (.bt .v3 .c1) (.iC (.sub .v2 .c1) (.lst .nil)))) (.o2 (.asg .v4 (.sub (.sub .v2 .c1) (.call 17 (.o2 .v0 (.ln (.sub .v2 .c1)))))) (.ret (.aj (.o2 (.aj (.o2 (.cs [97,103,97,105,110]) .v4)) (.ad (.cs [92]) (.b1 .str .v4)))))) .nil) (.ret (.call 18 (.o1 .v0)))) .nil) (.ifs (.bt .v3 .c2) (.o2 (.bO true [.v6,.v7] (.aj (.o2 (.call 19 (.o3 .v0 (.sb .v1 .c1) .v2)) (.call 19 (.o3 .v0 (.sb .v1 .c1) .v2))))) (.ret (.aj (.o2 (.aj (.o3 (.cs [101,105,116,104,101,114]) (.sub .v6 .c0) (.sub .v7 .c0))) (.ad (.ad (.ad (.ad (.cs [92,40,63,58]) (.sub .v6 .c1)) (.cs [92,124])) (.sub .v7 .c1)) (.cs [92,41])))))) .nil) (.ifs (.bt .v3 .c3) (.o5 (.asg (.item .v2 .c0) (.ad (.sub .v2 .c0) .c1)) (.asg .v4 (.sub .v2 .c0)) (.asg .v5 (.call 19 (.o3 .v0 (.sb .v1 .c1) .v2))) (.ex (.app (.sub .v2 .c1) .v4)) (.ret (.aj (.o2 (.aj (.o3 (.cs [103,114,111,117,112]) .v4 (.sub .v5 .c0))) (.ad (.ad (.cs [92,40]) (.sub .v5 .c1)) (.cs [92,41])))))) .nil) (.ifs (.oP .v3 .c6) (.o3 (.asg .v5 (.call 19 (.o3 .v0 (.max2 (.sb .v1 .c2) .c0) .v2))) (.bO false [.v8,.v9,.w0,.w1] (.sub (.lst (.o6 (.aj (.o4 .c0 (.neg .c1) .ct (.cs [42]))) (.aj (.o4 .c1 (.neg .c1) .ct (.cs [43]))) (.aj (.o4 .c0 .c1 .ct (.cs [63]))) (.aj (.o4 .c0 (.neg .c1) .cf (.cs [42,63]))) (.aj (.o4 .c1 .c2 .ct (.cs [92,123,49,44,50,92,125]))) (.aj (.o4 .c2 (.neg .c1) .ct (.cs [92,123,50,44,92,125]))))) (.call 17 (.o2 .v0 .c6)))) (.ret (.aj (.o2 (.aj (.o5 (.cs [111,102,116,101,110]) .v8 .v9 .w0 (.sub .v5 .c0))) (.ad (.ad (.ad (.cs [92,40,63,58]) (.sub .v5 .c1)) (.cs [92,41])) .w1))))) .nil) (.bO true [.v6,.v7] (.aj (.o2 (.call 19 (.o3 .v0 (.sb .v1 .c1) .v2)) (.call 19 (.o3 .v0 (.sb .v1 .c1) .v2))))) (.ret (.aj (.o2 (.aj (.o3 (.cs [98,111,116,104]) (.sub .v6 .c0) (.sub .v7 .c0))) (.ad (.sub .v6 .c1) (.sub .v7 .c1)))))
noncomputable def Z4:Ss:=.o1 (.ret (.bo false (.o2 (.bt .v0 .v1) (.bo true (.o2 .v2 (.bt (.lower .v0) (.lower .v1)))))))
noncomputable def G6:X:=.call 20 (.o3 .v4 .v1 .v2)
noncomputable def Gi:X:=.ci 1
noncomputable def b21:Ss:=.o3 (.ifs (.bt (.sub .v0 .c0) (.cs [97,110,121])) (.rt (.iC .v1 (.cs [10]))) .nil) (.asg .v3 (.iC (.comp Gi [4] false (.seq (.sub .v0 .c1)) G6) (.lst .nil))) (.ret (.iC .v3 (.bt (.sub .v0 .c0) (.cs [111,117,116]))))
noncomputable def ze:X:=.nt (.call 20 (.o3 .w4 .w5 .v4))
noncomputable def zO:X:=.ci 1
noncomputable def zo:X:=.aj (.o2 .w6 (.ad (.ad (.dV .w7 .cn (.sb .w1 .c1)) (.aj (.o1 (.aj (.o2 .v2 .w6))))) (.dV .w7 .w1 .cn)))
noncomputable def zB:Ss:=.o1 (.asg .w0 (.ad .w0 (.call 22 (.o5 (.sub .v0 .c2) .v1 .w2 .w3 .v4))))
noncomputable def ZX:Ss:=.o7 (.asg .v5 (.sub .v0 .c0)) (.ifs (.qm .v5 (.aj (.o4 (.cs [115,105,103,110]) (.cs [97,110,121]) (.cs [105,110]) (.cs [111,117,116])))) (.rt (.eG (.bo true (.o2 (.oP .v2 (.ln .v1)) (.call 21 (.o3 .v0 (.sub .v1 .v2) .v4)))) (.lst (.o1 (.aj (.o2 (.ad .v2 .c1) .v3)))) (.lst .nil))) .nil) (.ifs (.bt .v5 (.cs [97,103,97,105,110])) (.o5 (.asg .v6 (.sub .v3 (.sb (.sub .v0 .c1) .c1))) (.asg .v7 (.eG (.wd .v6 .cn) (.cs []) (.dV .v1 (.sub .v6 .c0) (.sub .v6 .c1)))) (.asg .v8 (.dV .v1 .v2 (.ad .v2 (.ln .v7)))) (.asg .v9 (.bo true (.o2 (.bt (.ln .v8) (.ln .v7)) (.bt (.comp zO [14,15] true (.zip .v8 .v7) ze) (.lst .nil))))) (.ret (.eG (.bo true (.o2 (.Ak .v6 .cn) .v9)) (.lst (.o1 (.aj (.o2 (.ad .v2 (.ln .v7)) .v3)))) (.lst .nil)))) .nil) (.ifs (.bt .v5 (.cs [101,105,116,104,101,114])) (.rt (.ad (.call 22 (.o5 (.sub .v0 .c1) .v1 .v2 .v3 .v4)) (.call 22 (.o5 (.sub .v0 .c2) .v1 .v2 .v3 .v4)))) .nil) (.ifs (.bt .v5 (.cs [103,114,111,117,112])) (.o3 (.asg .w0 (.call 22 (.o5 (.sub .v0 .c2) .v1 .v2 .v3 .v4))) (.asg .w1 (.sub .v0 .c1)) (.ret (.comp zo [16,17] true (.seq .w0) .ct))) .nil) (.ifs (.bt .v5 (.cs [98,111,116,104])) (.o3 (.asg .w0 (.lst .nil)) (.dN [12,13] true (.seq (.call 22 (.o5 (.sub .v0 .c1) .v1 .v2 .v3 .v4))) zB) (.ret .w0)) .nil) (.ret (.call 23 (.o7 (.sub .v0 .c1) (.sub .v0 .c2) .v0 .v1 .v2 .v3 .v4)))
noncomputable def Gv:Ss:=.o1 (.ifs (.bo false (.o3 (.j3 .v0 .c0) (.j3 .v1 .c0) (.j3 .v8 .v4))) (.o1 (.asg .v7 (.ad .v7 (.call 23 (.o7 (.max2 (.sb .v0 .c1) .c0) (.eG (.j3 .v1 .c0) (.sb .v1 .c1) (.neg .c1)) .v2 .v3 .v8 .v9 .v6))))) .nil)
noncomputable def YN:Ss:=.o5 (.ifs (.bt .v1 .c0) (.rt (.lst (.o1 (.aj (.o2 .v4 .v5))))) .nil) (.asg .v7 (.lst .nil)) (.dN [8,9] true (.seq (.call 22 (.o5 (.sub .v2 .c4) .v3 .v4 .v5 .v6))) Gv) (.ifs (.j3 .v0 .c0) (.rt .v7) .nil) (.ret (.eG (.sub .v2 .c3) (.ad .v7 (.lst (.o1 (.aj (.o2 .v4 .v5))))) (.ad (.lst (.o1 (.aj (.o2 .v4 .v5)))) .v7)))
noncomputable def xT:X:=.eG (.wd .v3 .cn) .cn (.aj (.o2 (.ad (.sub .v3 .c0) .v2) (.ad (.sub .v3 .c1) .v2)))
noncomputable def b24:Ss:=.o1 (.ret (.ad (.lst (.o1 (.aj (.o2 (.ad .v1 .v2) (.ad (.sub .v0 .c0) .v2))))) (.comp xT [3] false (.seq (.sub .v0 .c1)) .ct)))
noncomputable def zp:Ss:=.o2 (.asg .v8 (.call 22 (.o5 .v0 (.dV .v1 .cn .v2) .v7 (.mu (.aj (.o1 .cn)) .v4) .v5))) (.ifs (.iC .v8 (.lst .nil)) (.rt (.call 24 (.o3 (.sub .v8 .c0) .v7 .v6))) .nil)
noncomputable def Y9:Ss:=.o2 (.dN [7] false (.nW .v2 (.sb .v3 .c1) (.neg .c1)) zp) (.ret .cn)
noncomputable def yD:X:=.cmp .eq (.sub .v8 .c0) .v2
noncomputable def y9:X:=.var 8
noncomputable def YZ:Ss:=.o3 (.asg .v6 (.call 22 (.o5 .v0 (.dV .v1 .cn .v2) .v3 (.mu (.aj (.o1 .cn)) .v4) .v5))) (.sL 7 y9 [8] false (.seq .v6) yD) (.ret (.eG (.iC .v7 (.lst .nil)) (.sub .v7 .c0) .cn))
noncomputable def zW:X:=.bo true (.o2 (.C5 .v8 .v3) (.wd (.call 26 (.o6 .v0 .v1 .v2 .v8 .v4 .v5)) .cn))
noncomputable def zF:Ss:=.o1 (.asg .v8 (.sb .v8 .c1))
noncomputable def sm:X:=.bo true (.o3 .v7 (.j3 .v8 .c0) (.Ak (.call 26 (.o6 .v0 .v1 .v2 (.sb .v8 .c1) .v4 .v5)) .cn))
noncomputable def sq:Ss:=.o1 (.asg .v8 (.sb .v8 .c1))
noncomputable def b27:Ss:=.o5 (.asg .v8 .v2) (.cL zW zF) (.ifs (.oP .v8 .v3) (.rt .cn) .nil) (.cL sm sq) (.ret (.call 24 (.o3 (.call 26 (.o6 .v0 .v1 .v2 .v8 .v4 .v5)) .v8 .v6)))
noncomputable def tv:X:=.b1 .abs .w6
noncomputable def yU:X:=.sub (.cs [97,98,65,10]) (.call 17 (.o2 .v1 .c4))
noncomputable def tF:X:=.b1 .ord .w8
noncomputable def so:X:=.b1 .ord .w9
noncomputable def xC:Ss:=.o5 (.bO true [.w4,.w5] (.aj (.o2 (.call 17 (.o2 .v1 (.ad .v5 .c1))) (.bt (.call 17 (.o2 .v1 .c2)) .c1)))) (.asg .w3 (.call 16 (.o6 .w0 .w1 (.ad .v5 .v8) .w2 (.ad .w4 .v8) .v8))) (.ifs (.iC .w3 (.call 25 (.o7 .v6 .v4 .v5 .w4 (.sub .v2 .c0) .v3 .v8))) (.rt .cf) .nil) (.asg .w3 (.call 15 (.o7 .w0 .w1 (.ad .v5 .v8) .v9 (.ad .w4 .v8) .v3 .w5))) (.ifs (.iC .w3 (.call 27 (.o8 .v6 .v4 .v5 .w4 (.sub .v2 .c0) .v3 .v8 .w5))) (.rt .cf) .nil)
noncomputable def b28:Ss:=.cons (.asg .v1 (.dS (.o2 (.comp tv [16] false (.seq (.dV .v0 .cn (.ci 40))) .ct) .c0))) (.o8 (.asg .v2 (.dS (.o2 .c0 (.dS .nil)))) (.bO false [.v6,.v7] (.call 19 (.o3 .v1 .c2 .v2))) (.asg .v3 (.bt (.call 17 (.o2 .v1 .c3)) .c0)) (.asg .v4 (.join (.comp yU [17] false (.qQ (.call 17 (.o2 .v1 .c5))) .ct))) (.bO true [.v8,.v9] (.aj (.o2 (.call 17 (.o2 .v1 .c3)) (.comp tF [18] false (.seq .v7) .ct)))) (.bO true [.w0,.w1,.w2] (.aj (.o3 (.qT (.new 8 (.o2 (.comp so [19] false (.seq .v4) .ct) .v8))) (.qT (.new 7 .nil)) (.call 12 (.o2 .v9 .v3))))) (.dN [5] false (.qQ (.ad (.ln .v4) .c1)) xC) (.ret .ct))
noncomputable def Y0:Ss:=.o5 (.asg (.a0 9) .v1) (.asg (.a0 10) .v2) (.asg (.a0 11) (.dS .nil)) (.asg (.a0 12) (.dS .nil)) (.asg (.a0 13) .ct)
noncomputable def b30:Ss:=.o2 (.ex (.app (.a0 12) .v1)) (.asg (.a0 13) .cf)
noncomputable def b31:Ss:=.o3 (.ex (.app (.a0 11) (.call 9 (.o1 (.a0 12))))) (.asg (.a0 12) (.dS .nil)) (.asg (.a0 13) .ct)
noncomputable def b32:Ss:=.o2 (.ifs (.bt (.a0 11) (.lst .nil)) (.rt (.call 9 (.o1 (.a0 12)))) .nil) (.ret (.aj (.o2 (.cs [97,108,116]) (.tu (.ad (.a0 11) (.lst (.o1 (.call 9 (.o1 (.a0 12))))))))))
noncomputable def b33:Ss:=.o4 (.asg (.a0 14) .v1) (.asg (.a0 15) .c0) (.asg (.a0 16) (.dS (.o1 (.new 0 (.o2 (.cs [116,111,112]) .c0))))) (.asg (.a0 1) .c0)
noncomputable def Zt:Ss:=.o1 (.ret (.sub (.a0 16) (.neg .c1)))
noncomputable def b35:Ss:=.o3 (.ifs (.C5 (.a0 15) (.ln (.a0 14))) (.o1 .stuck) .nil) (.asg (.a0 15) (.ad (.a0 15) .c1)) (.ret (.b1 .chr (.sub (.a0 14) (.sb (.a0 15) .c1))))
noncomputable def i0:X:=.cmp .lt (.a0 15) (.ln (.a0 14))
noncomputable def jg:Ss:=.o1 (.ex (.aC .v0 17 .nil))
noncomputable def YO:Ss:=.o3 (.cL i0 jg) (.ifs (.j3 (.ln (.a0 16)) .c1) (.o1 .stuck) .nil) (.ret (.aC (.aC .v0 18 .nil) 19 .nil))
noncomputable def b37:Ss:=.o2 (.asg .v1 (.aC .v0 20 .nil)) (.ifs (.bt .v1 (.cs [92])) (.o1 (.ex (.aC .v0 21 (.o1 (.aC .v0 20 .nil))))) (.o1 (.ifs (.bo true (.o2 (.qm .v1 (.cs [42,43,63])) (.nt (.attr (.aC .v0 18 .nil) 13)))) (.o1 (.ex (.aC .v0 22 (.o1 .v1)))) (.o1 (.ifs (.bt .v1 (.cs [46])) (.o1 (.ex (.aC (.aC .v0 18 .nil) 23 (.o1 (.aj (.o1 (.cs [97,110,121]))))))) (.o1 (.ifs (.bt .v1 (.cs [91])) (.o2 (.bO false [.v2,(.a0 15)] (.call 5 (.o2 (.a0 14) (.a0 15)))) (.ex (.aC (.aC .v0 18 .nil) 23 (.o1 .v2)))) (.o1 (.ifs (.bo true (.o2 (.bt .v1 (.cs [94])) (.bt (.attr (.aC .v0 18 .nil) 12) (.lst .nil)))) (.o1 (.ex (.app (.attr (.aC .v0 18 .nil) 12) (.aj (.o2 (.cs [97,116]) (.cs [98,111,108])))))) (.o1 (.ifs (.bo true (.o2 (.bt .v1 (.cs [36])) (.bo false (.o2 (.bt (.a0 15) (.ln (.a0 14))) (.call 8 (.o3 (.a0 14) (.a0 15) (.cs [41,124]))))))) (.o1 (.ex (.app (.attr (.aC .v0 18 .nil) 12) (.aj (.o2 (.cs [97,116]) (.cs [101,111,108])))))) (.o1 (.ex (.aC (.aC .v0 18 .nil) 23 (.o1 (.aj (.o2 (.cs [99,104,97,114]) (.b1 .ord .v1))))))))))))))))))
noncomputable def sh:X:=.ct
noncomputable def oA:Ss:=.o4 (.ifs (.bo true (.o2 (.bt .v1 (.cs [63])) (.bo false (.o2 .v2 .v3)))) (.o1 (.asg .v4 .cf)) (.o1 (.bO true [.v2,.v3] (.aj (.o2 (.bo false (.o2 .v2 (.iC .v1 (.cs [43])))) (.bo false (.o2 .v3 (.iC .v1 (.cs [63]))))))))) (.asg .v1 (.call 7 (.o2 (.a0 14) (.a0 15)))) (.ifs (.bo false (.o2 (.bt .v1 (.cs [])) (.qn .v1 (.cs [42,43,63])))) (.o1 .brk) .nil) (.asg (.a0 15) (.ad (.a0 15) .c1))
noncomputable def b38:Ss:=.o3 (.bO false [.v2,.v3,.v4] (.aj (.o3 .cf .cf .ct))) (.cL sh oA) (.ex (.aC .v0 24 (.o3 (.eG .v2 .c0 .c1) (.eG .v3 (.neg .c1) .c1) .v4)))
noncomputable def Zp:Ss:=.o2 (.asg .v4 (.attr (.aC .v0 18 .nil) 12)) (.ex (.app .v4 (.aj (.o5 (.cs [116,105,109,101,115]) .v1 .v2 .v3 (.pop .v4)))))
noncomputable def ZV:Ss:=.o2 (.asg .v2 (.b1 .ord .v1)) (.ifs (.bt .v1 (.cs [40])) (.o1 (.ex (.aC .v0 25 .nil))) (.o1 (.ifs (.bt .v1 (.cs [41])) (.o1 (.ex (.aC .v0 26 .nil))) (.o1 (.ifs (.bt .v1 (.cs [124])) (.o1 (.ex (.aC (.aC .v0 18 .nil) 27 .nil))) (.o1 (.ifs (.bt .v1 (.cs [123])) (.o1 (.ex (.aC .v0 28 .nil))) (.o1 (.ifs (.qm .v1 (.cs [49,50,51,52,53,54,55,56,57])) (.o1 (.ex (.aC .v0 29 (.o1 (.sb .v2 (.ci 48)))))) (.o1 (.ifs .bad (.o1 (.ex (.aC (.aC .v0 18 .nil) 23 (.o1 (.aj (.o2 (.cs [97,116]) .bad)))))) (.o1 (.ifs (.qm .v1 (.cs [119,87])) (.o1 (.ex (.aC (.aC .v0 18 .nil) 23 (.o1 (.aj (.o3 (.cs [115,121,110,116,97,120]) (.cs [119]) (.bt .v1 (.cs [87])))))))) (.o1 (.ifs (.qm .v1 (.cs [115,83])) (.o1 (.ex (.aC .v0 30 (.o1 (.bt .v1 (.cs [83])))))) (.o1 (.ifs (.bt .v1 (.cs [95])) (.o1 (.ex (.aC .v0 31 .nil))) (.o1 (.ifs (.qm .v1 (.cs [99,67])) (.o1 .stuck) (.o1 (.ex (.aC (.aC .v0 18 .nil) 23 (.o1 (.aj (.o2 (.cs [99,104,97,114]) .v2)))))))))))))))))))))))))
noncomputable def b41:Ss:=.o4 (.asg .v2 (.aC .v0 20 .nil)) (.asg .v2 (.eG (.bt .v2 (.cs [45])) (.cs [32]) .v2)) (.ifs (.qn .v2 .g7) (.o1 .stuck) .nil) (.ex (.aC (.aC .v0 18 .nil) 23 (.o1 (.aj (.o3 (.cs [115,121,110,116,97,120]) .v2 .v1)))))
noncomputable def b42:Ss:=.o3 (.asg .v1 (.b1 .ord (.aC .v0 20 .nil))) (.ifs .bad (.o1 .stuck) .nil) (.ex (.aC (.aC .v0 18 .nil) 23 (.o1 (.aj (.o2 (.cs [97,116]) .bad)))))
noncomputable def yM:X:=.cmp .eq (.attr .v2 9) (.cs [103,114,111,117,112])
noncomputable def yN:X:=.attr .v2 10
noncomputable def b43:Ss:=.o2 (.ifs (.bo false (.o2 (.j3 .v1 (.a0 1)) (.qm .v1 (.comp yN [2] false (.seq (.a0 16)) yM)))) (.o1 .stuck) .nil) (.ex (.aC (.aC .v0 18 .nil) 23 (.o1 (.aj (.o2 (.cs [98,97,99,107]) .v1)))))
noncomputable def Zn:Ss:=.o6 (.ifs (.iC (.call 7 (.o2 (.a0 14) (.a0 15))) (.cs [63])) (.o3 (.asg (.a0 1) (.ad (.a0 1) .c1)) (.ex (.app (.a0 16) (.new 0 (.o2 (.cs [103,114,111,117,112]) (.a0 1))))) (.ret .cn)) .nil) (.asg (.a0 15) (.ad (.a0 15) .c1)) (.bO false [.v1,.v2] (.aC .v0 10 .nil)) (.ifs (.bo false (.o2 (.iC (.call 7 (.o2 (.a0 14) (.a0 15))) (.cs [58])) (.bo true (.o2 .v2 (.bt .v1 .c0))))) (.o1 .stuck) .nil) (.asg (.a0 15) (.ad (.a0 15) .c1)) (.ifs .v2 (.o2 (.asg (.a0 1) (.max2 (.a0 1) .v1)) (.ex (.app (.a0 16) (.new 0 (.o2 (.cs [103,114,111,117,112]) .v1))))) (.o1 (.ex (.app (.a0 16) (.new 0 (.o2 (.cs [115,104,121]) .c0))))))
noncomputable def b45:Ss:=.o4 (.ifs (.bt (.ln (.a0 16)) .c1) (.o1 .stuck) .nil) (.asg .v1 (.pop (.a0 16))) (.asg .v2 (.eG (.bt (.a1 9) (.cs [115,104,121])) (.aj (.o2 (.cs [115,104,121]) (.aC .v1 19 .nil))) (.aj (.o3 (.cs [103,114,111,117,112]) (.a1 10) (.aC .v1 19 .nil))))) (.ex (.aC (.aC .v0 18 .nil) 23 (.o1 .v2)))
noncomputable def sF:X:=.bo true (.o2 (.iC (.call 7 (.o2 (.a0 14) (.a0 15))) (.cs [])) (.qm (.call 7 (.o2 (.a0 14) (.a0 15))) (.cs [48,49,50,51,52,53,54,55,56,57])))
noncomputable def sH:Ss:=.o3 (.bO true [.v1,.v2] (.aj (.o2 (.sb (.ad (.mu .v1 (.ci 10)) (.sub (.a0 14) (.a0 15))) (.ci 48)) (.ad .v2 .c1)))) (.asg (.a0 15) (.ad (.a0 15) .c1)) (.ifs (.j3 .v1 .g8) (.o1 .stuck) .nil)
noncomputable def b46:Ss:=.o3 (.bO false [.v1,.v2] (.aj (.o2 .c0 .c0))) (.cL sF sH) (.ret (.aj (.o2 .v1 (.j3 .v2 .c0))))
noncomputable def b47:Ss:=.o7 (.asg .v1 (.sub (.aC .v0 10 .nil) .c0)) (.asg .v2 .v1) (.ifs (.bt (.call 7 (.o2 (.a0 14) (.a0 15))) (.cs [44])) (.o3 (.asg (.a0 15) (.ad (.a0 15) .c1)) (.bO false [.v2,.v3] (.aC .v0 10 .nil)) (.asg .v2 (.eG .v3 .v2 (.neg .c1)))) .nil) (.ifs (.C5 (.a0 15) (.ln (.a0 14))) (.o1 .stuck) .nil) (.ifs (.bo false (.o2 (.nt (.call 8 (.o3 (.a0 14) (.a0 15) (.cs [125])))) (.iI .le .lt .c0 .v2 .v1))) (.o1 .stuck) .nil) (.asg (.a0 15) (.ad (.a0 15) .c2)) (.ret (.aj (.o2 .v1 .v2)))
noncomputable def ZC:Ss:=.o3 (.asg .v1 (.a0 15)) (.bO false [.v2,.v3] (.aC .v0 32 .nil)) (.ifs (.attr (.aC .v0 18 .nil) 13) (.o2 (.asg (.a0 15) .v1) (.ex (.aC (.aC .v0 18 .nil) 23 (.o1 (.aj (.o2 (.cs [99,104,97,114]) (.b1 .ord (.cs [123])))))))) (.o1 (.ex (.aC .v0 24 (.o3 .v2 .v3 .ct)))))
noncomputable def ZQ:Ss:=.o4 (.asg (.a0 33) .v1) (.asg (.a0 1) .v2) (.asg (.a0 4) .v3) (.asg (.a0 34) .v4)
noncomputable def b50:Ss:=.o6 (.asg (.a0 34) .v1) (.asg (.a0 33) (.dS .nil)) (.asg (.a0 35) .qB) (.asg (.a0 36) .c0) (.asg (.a0 4) .c0) (.asg (.a0 37) (.dS .nil))
noncomputable def Zg:Ss:=.o2 (.asg (.a0 36) (.ad (.a0 36) .c1)) (.ret (.a0 36))
noncomputable def xR:Ss:=.o1 (.ex (.app (.a0 37) .v2))
noncomputable def ZA:Ss:=.o2 (.ifs (.j3 (.ad (.ad (.ln (.a0 33)) (.ln (.a0 37))) (.ln .v1)) .g9) (.o1 .stuck) .nil) (.dN [2] false (.rev .v1) xR)
noncomputable def ni:X:=.cmp .ne (.a0 37) (.lst .nil)
noncomputable def nH:Ss:=.o2 (.bO false [.v2,.v3] (.pop (.a0 37))) (.ifs (.bt .v2 (.cs [114,111,119])) (.o1 (.ex (.app (.a0 33) .v3))) (.o1 (.ifs (.bt .v2 (.cs [108,97,98,101,108])) (.o1 (.asg (.item (.a0 35) .v3) (.ln (.a0 33)))) (.o1 (.ex (.aC .v0 19 (.o1 .v3)))))))
noncomputable def Zu:Ss:=.o2 (.ex (.aC .v0 38 (.o1 (.lst (.o2 (.aj (.o2 (.cs [110,111,100,101]) .v1)) (.aj (.o2 (.cs [114,111,119]) (.aj (.o1 (.cs [100,111,110,101])))))))))) (.cL ni nH)
noncomputable def yJ:X:=.aj (.o2 (.cs [110,111,100,101]) .v3)
noncomputable def Zx:Ss:=.o2 (.asg .v2 (.sub .v1 .c0)) (.ifs (.bt .v2 (.cs [99,104,97,114])) (.o1 (.ex (.app (.a0 33) (.aj (.o2 (.cs [99,104,97,114]) (.eG (.a0 34) (.call 2 (.o1 (.sub .v1 .c1))) (.sub .v1 .c1))))))) (.o1 (.ifs (.qm .v2 (.gc 10)) (.o1 (.ex (.app (.a0 33) .v1))) (.o1 (.ifs (.bt .v2 (.cs [115,101,113])) (.o1 (.ex (.aC .v0 38 (.o1 (.comp yJ [3] false (.seq (.sub .v1 .c1)) .ct))))) (.o1 (.ifs (.bt .v2 (.cs [115,104,121])) (.o1 (.ex (.aC .v0 38 (.o1 (.lst (.o1 (.aj (.o2 (.cs [110,111,100,101]) (.sub .v1 .c1))))))))) (.o1 (.ifs (.bt .v2 (.cs [103,114,111,117,112])) (.o1 (.ex (.aC .v0 38 (.o1 (.lst (.o3 (.aj (.o2 (.cs [114,111,119]) (.aj (.o2 (.cs [115,97,118,101]) (.mu .c2 (.sub .v1 .c1)))))) (.aj (.o2 (.cs [110,111,100,101]) (.sub .v1 .c2))) (.aj (.o2 (.cs [114,111,119]) (.aj (.o2 (.cs [115,97,118,101]) (.ad (.mu .c2 (.sub .v1 .c1)) .c1))))))))))) (.o1 (.ifs (.bt .v2 (.cs [97,108,116])) (.o1 (.ex (.aC .v0 39 (.o1 (.sub .v1 .c1))))) (.o1 (.ex (.aC .v0 22 (.o1 .v1)))))))))))))))
noncomputable def Ft:Ss:=.o3 (.bO true [.v5,.v6] (.aj (.o2 (.aC .v0 40 .nil) (.aC .v0 40 .nil)))) (.asg .v4 (.ad .v4 (.lst (.o3 (.aj (.o2 (.cs [114,111,119]) (.aj (.o3 (.cs [115,112,108,105,116]) .v5 .v6)))) (.aj (.o2 (.cs [108,97,98,101,108]) .v5)) (.aj (.o2 (.cs [110,111,100,101]) .v2)))))) (.asg .v4 (.ad .v4 (.lst (.o2 (.aj (.o2 (.cs [114,111,119]) (.aj (.o2 (.cs [106,117,109,112]) .v3)))) (.aj (.o2 (.cs [108,97,98,101,108]) .v6))))))
noncomputable def Y5:Ss:=.o3 (.bO true [.v3,.v4] (.aj (.o2 (.aC .v0 40 .nil) (.lst .nil)))) (.dN [2] false (.seq (.dV .v1 .cn (.neg .c1))) Ft) (.ex (.aC .v0 38 (.o1 (.ad .v4 (.lst (.o2 (.aj (.o2 (.cs [110,111,100,101]) (.sub .v1 (.neg .c1)))) (.aj (.o2 (.cs [108,97,98,101,108]) .v3))))))))
noncomputable def EJ:Ss:=.o2 (.asg .w0 (.aC .v0 40 .nil)) (.asg .v8 (.ad .v8 (.lst (.o3 (.aj (.o2 (.cs [114,111,119]) (.aC .v0 42 (.o3 .w0 .v9 .v6)))) (.aj (.o2 (.cs [108,97,98,101,108]) .w0)) (.aj (.o2 (.cs [110,111,100,101]) .v7))))))
noncomputable def ZP:Ss:=.o6 (.bO false [.v3,.v4,.v5,.v6,.v7] .v1) (.bO true [.v8,.v9] (.aj (.o2 (.mu (.lst (.o1 (.aj (.o2 (.cs [110,111,100,101]) .v7)))) .v4) (.aC .v0 40 .nil)))) (.ifs (.j3 (.ad (.ln .v8) (.max2 (.sb .v5 .v4) .c0)) .g9) (.o1 .stuck) .nil) (.ifs (.oP .v5 .c0) (.o1 (.asg .v8 (.ad .v8 (.aC .v0 41 (.o3 .v7 .v6 .v9))))) .nil) (.dN [2] false (.qQ (.sb .v5 .v4)) EJ) (.ex (.aC .v0 38 (.o1 (.ad .v8 (.lst (.o1 (.aj (.o2 (.cs [108,97,98,101,108]) .v9))))))))
noncomputable def b57:Ss:=.o1 (.ret (.eG .v3 (.aj (.o3 (.cs [115,112,108,105,116]) .v1 .v2)) (.aj (.o3 (.cs [115,112,108,105,116]) .v2 .v1))))
noncomputable def YX:Ss:=.o5 (.bO true [.v5,.v6,.v7] (.aj (.o3 (.aC .v0 40 .nil) (.aC .v0 40 .nil) (.a0 4)))) (.asg (.a0 4) (.ad (.a0 4) .c1)) (.asg .v4 (.lst (.o3 (.aj (.o2 (.cs [108,97,98,101,108]) .v5)) (.aj (.o2 (.cs [114,111,119]) (.aC .v0 42 (.o3 .v6 .v3 .v2)))) (.aj (.o2 (.cs [108,97,98,101,108]) .v6))))) (.asg .v4 (.ad .v4 (.lst (.o3 (.aj (.o2 (.cs [114,111,119]) (.aj (.o2 (.cs [109,97,114,107]) .v7)))) (.aj (.o2 (.cs [110,111,100,101]) .v1)) (.aj (.o2 (.cs [114,111,119]) (.aj (.o2 (.cs [112,114,111,103,114,101,115,115]) .v7)))))))) (.ret (.ad .v4 (.lst (.o1 (.aj (.o2 (.cs [114,111,119]) (.aj (.o2 (.cs [106,117,109,112]) .v5))))))))
noncomputable def rX:Ss:=.o1 (.ifs (.bt (.sub .v2 .c0) (.cs [115,112,108,105,116])) (.o1 (.ex (.app .v1 (.aj (.o3 (.cs [115,112,108,105,116]) (.sub (.a0 35) (.sub .v2 .c1)) (.sub (.a0 35) (.sub .v2 .c2))))))) (.o1 (.ex (.app .v1 (.eG (.bt (.sub .v2 .c0) (.cs [106,117,109,112])) (.aj (.o2 (.cs [106,117,109,112]) (.sub (.a0 35) (.sub .v2 .c1)))) .v2)))))
noncomputable def b59:Ss:=.o3 (.asg .v1 (.dS .nil)) (.dN [2] false (.seq (.a0 33)) rX) (.ret (.qT .v1))
noncomputable def ZN:Ss:=.o3 (.asg (.a0 43) .v1) (.asg (.a0 15) .v2) (.asg (.a0 44) .v3)
noncomputable def b61:Ss:=.cons (.asg (.a0 45) .v1) (.cons (.asg (.a0 46) .v2) (.cons (.asg (.a0 47) .v3) (.o8 (.asg (.a0 48) .v4) (.asg (.a0 49) .v5) (.asg (.a0 50) .c0) (.asg (.a0 51) .c0) (.asg (.a0 52) (.dS .nil)) (.asg (.a0 4) (.dS .nil)) (.asg (.a0 53) (.dS .nil)) (.asg (.a0 44) (.dS .nil)))))
noncomputable def mq:Fn:={slots:=6,params:=6,dflt:=[(.int 400000)],body:=b61}
noncomputable def yI:X:=.aC .v0 54 (.o1 .v4)
noncomputable def Y1:Ss:=.cons (.asg (.a0 51) .v2) (.o8 (.asg (.a0 52) (.rep (.neg .c1) (.ad (.mu .c2 (.attr (.a0 45) 1)) .c2))) (.asg (.a0 4) (.rep (.neg .c1) (.attr (.a0 45) 4))) (.asg (.a0 53) (.dS .nil)) (.asg (.a0 44) (.dS .nil)) (.asg .v3 (.aC .v0 2 (.o1 .v1))) (.ifs (.wd .v3 .cn) (.rt .cn) .nil) (.bO false [(.item (.a0 52) (.cst (.int 0))),(.item (.a0 52) (.cst (.int 1)))] (.aj (.o2 .v1 .v3))) (.ret (.comp yI [4] false (.qQ (.ad (.attr (.a0 45) 1) .c1)) .ct)))
noncomputable def ZT:Ss:=.o2 (.bO true [.v2,.v3] (.aj (.o2 (.sub (.a0 52) (.mu .c2 .v1)) (.sub (.a0 52) (.ad (.mu .c2 .v1) .c1))))) (.ret (.eG (.bo false (.o2 (.oP .v2 .c0) (.oP .v3 .c0))) .cn (.aj (.o2 .v2 .v3))))
noncomputable def xF:X:=.ct
noncomputable def xM:Ss:=.cons (.asg (.a0 50) (.ad (.a0 50) .c1)) (.cons (.ifs (.j3 (.a0 50) (.a0 49)) (.o1 .stuck) .nil) (.cons (.asg .v3 (.sub (.sub (.attr (.a0 45) 33) .v2) .c0)) (.cons (.ifs (.bt .v3 (.cs [100,111,110,101])) (.rt .v1) .nil) (.o8 (.ifs (.bt .v3 (.cs [115,112,108,105,116])) (.o3 (.ex (.app (.a0 53) (.qT (.new 4 (.o3 (.sub (.sub (.attr (.a0 45) 33) .v2) .c2) .v1 (.ln (.a0 44))))))) (.asg .v2 (.sub (.sub (.attr (.a0 45) 33) .v2) .c1)) .cont) .nil) (.ifs (.bt .v3 (.cs [106,117,109,112])) (.o2 (.asg .v2 (.sub (.sub (.attr (.a0 45) 33) .v2) .c1)) .cont) .nil) (.asg .v4 (.aC .v0 55 (.o2 (.sub (.attr (.a0 45) 33) .v2) .v1))) (.ifs (.Ak .v4 .cn) (.o2 (.bO true [.v1,.v2] (.aj (.o2 .v4 (.ad .v2 .c1)))) .cont) .nil) (.ifs (.bt (.a0 53) (.lst .nil)) (.rt .cn) .nil) (.asg .v5 (.pop (.a0 53))) (.ex (.aC .v0 56 (.o1 (.attr .v5 44)))) (.bO true [.v1,.v2] (.aj (.o2 (.attr .v5 15) (.attr .v5 43))))))))
noncomputable def b64:Ss:=.o2 (.asg .v2 .c0) (.cL xF xM)
noncomputable def yf:X:=.cmp .gt (.ln (.a0 44)) .v1
noncomputable def yP:Ss:=.o2 (.bO false [.v2,.v3,.v4] (.pop (.a0 44))) (.asg (.item .v2 .v3) .v4)
noncomputable def YY:Ss:=.o1 (.cL yf yP)
noncomputable def Zf:Ss:=.o2 (.ex (.app (.a0 44) (.aj (.o3 .v1 .v2 (.sub .v1 .v2))))) (.asg (.item .v1 .v2) .v3)
noncomputable def Z2:Ss:=.o7 (.asg .v3 (.sub .v1 .c0)) (.ifs (.qm .v3 (.aj (.o4 (.cs [99,104,97,114]) (.cs [97,110,121]) (.cs [115,101,116]) (.cs [115,121,110,116,97,120])))) (.rt (.eG (.bo true (.o2 (.oP .v2 (.a0 51)) (.aC .v0 57 (.o2 .v1 (.aC (.a0 46) 6 (.o1 .v2)))))) (.ad .v2 .c1) .cn)) .nil) (.ifs (.bt .v3 (.cs [97,116])) (.rt (.eG (.call 13 (.o5 (.sub .v1 .c1) (.a0 46) (.a0 47) (.a0 48) .v2)) .v2 .cn)) .nil) (.ifs (.bt .v3 (.cs [115,97,118,101])) (.o2 (.ex (.aC .v0 58 (.o3 (.a0 52) (.sub .v1 .c1) .v2))) (.ret .v2)) .nil) (.ifs (.bt .v3 (.cs [109,97,114,107])) (.o2 (.ex (.aC .v0 58 (.o3 (.a0 4) (.sub .v1 .c1) .v2))) (.ret .v2)) .nil) (.ifs (.bt .v3 (.cs [112,114,111,103,114,101,115,115])) (.rt (.eG (.oP (.sub (.a0 4) (.sub .v1 .c1)) .v2) .v2 .cn)) .nil) (.ret (.aC .v0 22 (.o2 (.sub .v1 .c1) .v2)))
noncomputable def b68:Ss:=.o5 (.asg .v3 (.sub .v1 .c0)) (.ifs (.bt .v3 (.cs [99,104,97,114])) (.rt (.bt (.sub .v1 .c1) (.eG (.attr (.a0 45) 34) (.call 2 (.o1 .v2)) .v2))) .nil) (.ifs (.bt .v3 (.cs [97,110,121])) (.rt (.iC .v2 (.gc 11))) .nil) (.ifs (.bt .v3 (.cs [115,121,110,116,97,120])) (.rt (.iC (.bt (.aC (.a0 47) 59 (.o1 .v2)) (.sub .v1 .c1)) (.sub .v1 .c2))) .nil) (.ret (.iC (.aC .v0 60 (.o2 .v1 .v2)) (.sub .v1 .c1)))
noncomputable def GS:X:=.bad
noncomputable def b69:Ss:=.o4 (.ifs (.call 6 (.o2 (.sub .v1 .c2) .v2)) (.rt .ct) .nil) (.ifs (.bo true (.o2 (.attr (.a0 45) 34) (.bo false (.o2 (.call 6 (.o2 (.sub .v1 .c2) (.call 1 (.o1 .v2)))) (.call 6 (.o2 (.sub .v1 .c2) (.call 0 (.o1 .v2)))))))) (.rt .ct) .nil) (.asg .v3 (.aC (.a0 47) 59 (.o1 .v2))) (.ret (.b1 .any (.comp GS [4] false (.seq (.sub .v1 .c3)) .ct)))
noncomputable def yT:Ss:=.o2 (.bO true [.v5,.v6] (.aj (.o2 (.aC (.a0 46) 6 (.o1 (.ad (.sub .v3 .c0) .v4))) (.aC (.a0 46) 6 (.o1 (.ad .v2 .v4)))))) (.ifs (.bo true (.o2 (.iC .v5 .v6) (.nt (.bo true (.o2 (.attr (.a0 45) 34) (.bt (.call 2 (.o1 .v5)) (.call 2 (.o1 .v6)))))))) (.rt .cn) .nil)
noncomputable def ZU:Ss:=.o4 (.asg .v3 (.aC .v0 54 (.o1 .v1))) (.ifs (.bo false (.o2 (.wd .v3 .cn) (.j3 (.sb (.ad .v2 (.sub .v3 .c1)) (.sub .v3 .c0)) (.a0 51)))) (.rt .cn) .nil) (.dN [4] false (.qQ (.sb (.sub .v3 .c1) (.sub .v3 .c0))) yT) (.ret (.sb (.ad .v2 (.sub .v3 .c1)) (.sub .v3 .c0)))
noncomputable def Y6:Ss:=.o3 (.asg (.a0 61) .v1) (.asg (.a0 62) .v2) (.asg (.a0 63) .v3)
noncomputable def b72:Ss:=.o2 (.asg (.a0 64) .v1) (.asg (.a0 33) .qB)
noncomputable def lT:Fn:={slots:=2,params:=2,dflt:=[.none],body:=b72}
noncomputable def b73:Ss:=.o2 (.asg .v2 (.sQ (.a0 33) .v1 .cn)) (.ret (.eG (.bo false (.o2 (.wd .v2 .cn) (.bt (.attr .v2 61) (.gc 12)))) .cn .v2))
noncomputable def yu:X:=.cmp .tI .v2 .cn
noncomputable def xV:Ss:=.o3 (.asg .v3 (.aC .v2 65 (.o1 .v1))) (.ifs (.Ak .v3 .cn) (.rt .v3) .nil) (.asg .v2 (.attr .v2 64))
noncomputable def b74:Ss:=.o3 (.asg .v2 .v0) (.cL yu xV) (.ret (.qT (.new 6 (.o3 (.eG (.j3 .v1 (.ci 127)) (.gc 13) (.gc 14)) .cn (.cs [])))))
noncomputable def b75:Ss:=.o1 (.ret (.attr (.aC .v0 66 (.o1 .v1)) 61))
noncomputable def Z1:Ss:=.o2 (.asg (.a0 14) (.li .v1)) (.asg (.a0 15) .v2)
noncomputable def b77:Ss:=.o1 (.ret (.a0 15))
noncomputable def Y2:Ss:=.o1 (.ret (.ad (.a0 15) (.ln (.a0 14))))
noncomputable def b79:Ss:=.o2 (.ifs (.iI .le .lt (.a0 15) .v1 (.ad (.a0 15) (.ln (.a0 14)))) (.rt (.sub (.a0 14) (.sb .v1 (.a0 15)))) .nil) (.ret (.neg .c1))
noncomputable def MP(n:Nat):Fn:=List.getD [.f 1 1 b0,.f 1 1 b1,.f 1 1 b2,.f 5 2 b3,.f 3 2 b4,.f 8 2 b5,.f 4 2 b6,.f 2 2 b7,.f 3 3 b8,.f 1 1 b9,.f 2 1 b10,.f 4 3 Zv,.f 4 2 b12,.f 5 5 ZL,.f 2 2 b14,.f 14 7 Za,.f 9 6 Zl,.f 2 2 YU,.f 3 1 ZD,.f 12 3 Zs,.f 3 3 Z4,.f 5 3 b21,.f 18 5 ZX,.f 10 7 YN,.f 4 3 b24,.f 9 7 Y9,.f 9 6 YZ,.f 9 8 b27,.f 20 1 b28,.f 3 3 Y0,.f 2 2 b30,.f 1 1 b31,.f 1 1 b32,.f 2 2 b33,.f 1 1 Zt,.f 1 1 b35,.f 1 1 YO,.f 3 1 b37,.f 5 2 b38,.f 5 4 Zp,.f 3 2 ZV,.f 3 2 b41,.f 2 1 b42,.f 3 2 b43,.f 3 1 Zn,.f 3 1 b45,.f 3 1 b46,.f 4 1 b47,.f 4 1 ZC,.f 5 5 ZQ,.f 2 2 b50,.f 1 1 Zg,.f 3 2 ZA,.f 4 2 Zu,.f 4 2 Zx,.f 7 2 Y5,.f 11 2 ZP,.f 4 4 b57,.f 8 4 YX,.f 3 1 b59,.f 4 4 ZN,mq,.f 5 3 Y1,.f 4 2 ZT,.f 6 2 b64,.f 5 2 YY,.f 4 4 Zf,.f 4 3 Z2,.f 4 3 b68,.f 5 3 b69,.f 7 3 ZU,.f 4 4 Y6,lT,.f 3 2 b73,.f 4 2 b74,.f 2 2 b75,.f 3 3 Z1,.f 1 1 b77,.f 1 1 Y2,.f 2 2 b79] n {slots:=0,params:=0,body:=.nil}
noncomputable def yr(n:Nat):Nat:=List.getD [29,33,49,50,60,61,71,72,76] n 1000
noncomputable def lp:List (List (Nat×Nat)):=[[(23,30),(27,31),(19,32)],[(18,34),(20,35),(0,36),(17,37),(22,38),(24,39),(21,40),(30,41),(31,42),(29,43),(25,44),(26,45),(10,46),(32,47),(28,48)],[],[(40,51),(38,52),(2,53),(19,54),(39,55),(22,56),(42,57),(41,58),(3,59)],[],[(8,62),(54,63),(2,64),(56,65),(58,66),(55,67),(57,68),(60,69),(22,70)],[],[(65,73),(66,74),(59,75)],[(5,77),(7,78),(6,79)]]
noncomputable def F7(c k:Nat):Option Nat:=List.lookup k (List.getD lp c [])
noncomputable def k7(n:Nat):V:=List.getD [(.int 91),(.int 58),V.aj [(.str [97,108,110,117,109]),(.str [97,108,112,104,97]),(.str [97,115,99,105,105]),(.str [98,108,97,110,107]),(.str [99,110,116,114,108]),(.str [100,105,103,105,116]),(.str [103,114,97,112,104]),(.str [108,111,119,101,114]),(.str [109,117,108,116,105,98,121,116,101]),(.str [110,111,110,97,115,99,105,105]),(.str [112,114,105,110,116]),(.str [112,117,110,99,116]),(.str [115,112,97,99,101]),(.str [117,110,105,98,121,116,101]),(.str [117,112,112,101,114]),(.str [119,111,114,100]),(.str [120,100,105,103,105,116])],(.int 45),(.int 93),(.int 94),(.int 10),(.str [32,119,95,46,40,41,39,34,92,47,36,60,62,64,33,124]),(.int 65535),(.int 20000),V.aj [(.str [97,110,121]),(.str [115,101,116]),(.str [115,121,110,116,97,120]),(.str [97,116]),(.str [98,97,99,107])],(.int 10),(.str [64]),(.str [119]),(.str [46])] n .none
noncomputable def af:Prog:=⟨MP,yr,F7,k7⟩
noncomputable def EM(n:Nat):List (String×Nat):=List.getD [[("code",0)],[("code",0)],[("code",0)],[("codes",0),("place",1),("end",2),("name",3)],[("codes",0),("place",1),("first",2)],[("codes",0),("place",1),("is_not",2),("start",3),("ranges",4),("names",5),("found",6),("pair",7)],[("ranges",0),("code",1)],[("codes",0),("place",1)],[("codes",0),("place",1),("signs",2)],[("nodes",0)],[("codes",0),("parsing",1)],[("node",0),("groups",1),("folds",2),("compiling",3)],[("codes",0),("folds",1),("node",2),("groups",3)],[("word",0),("view",1),("table",2),("point",3),("place",4)],[("node",0),("word",1)],[("view",0),("table",1),("place",2),("codes",3),("limit",4),("folds",5),("is_greedy",6),("code",7),("machine",8),("node",9),("groups",10),("start",11),("found",12),("longer",13)],[("view",0),("table",1),("place",2),("code",3),("bound",4),("point",5),("machine",6),("start",7),("found",8)],[("deck",0),("many",1)],[("deck",0),("kind",1),("sign",2)],[("deck",0),("depth",1),("told_own",2),("kind",3),("number",4),("inner",5),("one",6),("other",7),("least",8),("most",9),("greedy",10),("text",11)],[("one",0),("other",1),("folds",2)],[("node",0),("sign",1),("folds",2),("is_one",3)],[("node",0),("text",1),("place",2),("kept",3),("folds",4),("word",5),("span",6),("part",7),("there",8),("is_there",9),("found",10),("number",11),("end",12),("own",13)],[("least",0),("most",1),("node",2),("text",3),("place",4),("kept",5),("folds",6),("found",7),("end",8),("own",9)],[("way",0),("place",1),("base",2)],[("node",0),("text",1),("place",2),("bound",3),("many",4),("folds",5),("base",6),("start",7),("ways_own",8)],[("node",0),("text",1),("place",2),("start",3),("many",4),("folds",5),("ways_own",6),("found",7)],[("node",0),("text",1),("place",2),("bound",3),("many",4),("folds",5),("base",6),("is_greedy",7),("start",8)],[("script",0),("deck",1),("told_own",2),("folds",3),("text",4),("place",5),("node",6),("pattern",7),("base",8),("codes",9),("view",10),("table",11),("code",12),("found",13),("bound",14),("is_greedy",15)],[("self",0),("word",1),("number",2)],[("self",0),("node",1)],[("self",0)],[("self",0)],[("self",0),("codes",1)],[("self",0)],[("self",0)],[("self",0)],[("self",0),("sign",1),("node",2)],[("self",0),("sign",1),("is_zero",2),("is_many",3),("is_greedy",4)],[("self",0),("least",1),("most",2),("is_greedy",3),("nodes",4)],[("self",0),("sign",1),("code",2)],[("self",0),("is_not",1),("kind",2)],[("self",0),("code",1)],[("self",0),("number",1)],[("self",0),("number",1),("is_told",2)],[("self",0),("frame",1),("node",2)],[("self",0),("found",1),("many",2)],[("self",0),("least",1),("most",2),("is_told",3)],[("self",0),("place",1),("least",2),("most",3)],[("self",0),("rows",1),("groups",2),("marks",3),("folds",4)],[("self",0),("folds",1)],[("self",0)],[("self",0),("tasks",1),("task",2)],[("self",0),("node",1),("word",2),("thing",3)],[("self",0),("node",1),("word",2)],[("self",0),("nodes",1),("node",2),("end",3),("tasks",4),("here",5),("later",6)],[("self",0),("node",1),("turn",2),("word",3),("least",4),("most",5),("is_greedy",6),("part",7),("tasks",8),("end",9),("here",10)],[("self",0),("here",1),("end",2),("is_greedy",3)],[("self",0),("part",1),("is_greedy",2),("end",3),("tasks",4),("begin",5),("here",6),("mark",7)],[("self",0),("found",1),("row",2)],[("self",0),("row",1),("place",2),("changes",3)],[("self",0),("code",1),("view",2),("table",3),("point",4),("steps",5)],[("self",0),("place",1),("limit",2),("end",3)],[("self",0),("number",1),("start",2),("end",3)],[("self",0),("place",1),("row",2),("word",3),("later",4),("choice",5)],[("self",0),("many",1),("row",2),("number",3),("old",4)],[("self",0),("row",1),("number",2),("place",3)],[("self",0),("row",1),("place",2),("word",3)],[("self",0),("row",1),("code",2),("word",3)],[("self",0),("row",1),("code",2),("kind",3)],[("self",0),("number",1),("place",2),("span",3),("at",4),("one",5),("other",6)],[("self",0),("kind",1),("match",2),("flags",3)],[("self",0),("parent",1)],[("self",0),("code",1),("found",2)],[("self",0),("code",1),("table",2),("found",3)],[("self",0),("code",1)],[("self",0),("codes",1),("place",2)],[("self",0)],[("self",0)],[("self",0),("place",1)]] n []
noncomputable def fnName(n:Nat):String:=List.getD ["downcase","upcase","fold","read_class","read_part","read_set","is_in_ranges","sign_at","is_escaped","joined","parse_regexp","compile_node","compile_regexp","holds_at","ended","looking_back","re_search_backward","_law_draw","_law_atom","_law_node","_law_like","_law_takes","_law_ways","_law_turns","_law_spans","_law_back","_law_ended","_law_looked","law"] n ""
noncomputable def clsName(n:Nat):String:=List.getD ["Frame","Parsing","Regcode","Compiling","Choice","Regmachine","Syntax","SyntaxTable","TextRow"] n ""
noncomputable def hZ(n:Nat):String:=List.getD ["whole","groups","run","settled","marks","begin","code_at","end","match_at","word","number","done","nodes","is_loose","codes","place","frames","step","top","node","sign","escaped","repeated","put","repeat","opened","closed","part","counted","back","by_syntax","by_symbol","bounds","rows","folds","places","labels","waiting","wait","alternatives","label","loop","split","row","changes","code","view","table","point","steps","taken","limit","kept","choices","span","asked","go_back","is_taken","keep","kind_of","is_in_set","kind","match","flags","parent","own","at"] n ""
noncomputable def constName(n:Nat):String:=List.getD ["OPENS","COLON","CLASSES","MINUS","CLOSES","NOT","LINE_FEED_regplaces","KINDS","MOST_TIMES","MOST_ROWS","PLAIN","LINE_FEED_regmachine","INHERITS","WORD","PUNCTUATION"] n ""
noncomputable def CP(n:Nat):String:=List.getD ["__init__","put","part","node","__init__","top","sign","whole","step","repeated","repeat","escaped","by_syntax","by_symbol","back","opened","closed","number","bounds","counted","__init__","__init__","label","wait","run","node","alternatives","repeated","split","loop","settled","__init__","__init__","match_at","span","run","go_back","keep","asked","is_taken","is_in_set","repeated","__init__","__init__","own","at","kind_of","__init__","begin","end","code_at"] n ""
noncomputable def FP(n:Nat):Nat:=List.getD [0,0,0,0,1,1,1,1,1,1,1,1,1,1,1,1,1,1,1,1,2,3,3,3,3,3,3,3,3,3,3,4,5,5,5,5,5,5,5,5,5,5,6,7,7,7,7,8,8,8,8] n 1000
noncomputable def B3:Nat:=29
section
inductive Atom where|ca|cb|cA|any|Bd|su
inductive Qn where|star|plus|opt|lazy|sX|two
set_option genCtorIdx false in inductive Re where
 |atom (a:Atom)
 |again (k:Nat)
 |either (a b:Re)
 |group (k:Nat) (a:Re)
 |ba (q:Qn) (a:Atom)
 |both (a b:Re)
noncomputable def Re.ctorIdx(x:Re):Nat:=Re.casesOn x (fun y_=>0) (fun y_=>1) (fun y_ y_=>2) (fun y_ y_=>3) (fun y_ y_=>4) (fun y_ y_=>5)
noncomputable def Atom.v:Atom->V
 |.ca=>.aj [.str [115,105,103,110],.str [97]]
 |.cb=>.aj [.str [115,105,103,110],.str [98]]
 |.cA=>.aj [.str [115,105,103,110],.str [65]]
 |.any=>.aj [.str [97,110,121],.str []]
 |.Bd=>.aj [.str [105,110],.str [97,98]]
 |.su=>.aj [.str [111,117,116],.str [97]]
noncomputable def Atom.pat:Atom->List Nat
 |.ca=>[97]
 |.cb=>[98]
 |.cA=>[65]
 |.any=>[46]
 |.Bd=>[91,97,98,93]
 |.su=>[91,94,97,93]
noncomputable def Qn.least:Qn->Nat
 |.star=>0|.plus=>1|.opt=>0|.lazy=>0|.sX=>1|.two=>2
noncomputable def Qn.most:Qn->Int
 |.star=>-1|.plus=>-1|.opt=>1|.lazy=>-1|.sX=>2|.two=>-1
noncomputable def Qn.bS:Qn->Bool
 |.lazy=>false
 |_=>true
noncomputable def Qn.txt:Qn->List Nat
 |.star=>[42]
 |.plus=>[43]
 |.opt=>[63]
 |.lazy=>[42,63]
 |.sX=>[92,123,49,44,50,92,125]
 |.two=>[92,123,50,44,92,125]
noncomputable def Re.v:Re->V
 |.atom a=>a.v
 |.again k=>.aj [.str [97,103,97,105,110],.int k]
 |.either a b=>.aj [.str [101,105,116,104,101,114],a.v,b.v]
 |.group k a=>.aj [.str [103,114,111,117,112],.int k,a.v]
 |.ba q a=>.aj [.str [111,102,116,101,110],.int q.least,.int q.most,.bool q.bS,a.v]
 |.both a b=>.aj [.str [98,111,116,104],a.v,b.v]
noncomputable def Re.pat:Re->List Nat
 |.atom a=>a.pat
 |.again k=>[92,48+k]
 |.either a b=>[92,40,63,58]++a.pat++[92,124]++b.pat++[92,41]
 |.group _ a=>[92,40]++a.pat++[92,41]
 |.ba q a=>[92,40,63,58]++a.pat++[92,41]++q.txt
 |.both a b=>a.pat++b.pat
theorem Re.HC(a:Atom):(Re.atom a).pat=a.pat:=rfl
theorem Re.Ci(k:Nat):(Re.again k).pat=[92,48+k]:=rfl
theorem Re.lx(a:Re)(b:Re):(Re.either a b).pat=[92,40,63,58]++a.pat++[92,124]++b.pat++[92,41]:=rfl
theorem Re.lF(pw:Nat)(a:Re):(Re.group pw a).pat=[92,40]++a.pat++[92,41]:=rfl
theorem Re.lE(q:Qn)(a:Atom):(Re.ba q a).pat=[92,40,63,58]++a.pat++[92,41]++q.txt:=rfl
theorem Re.jw(a:Re)(b:Re):(Re.both a b).pat=a.pat++b.pat:=rfl
def Sg(c:Nat):Prop:=c=97\/c=98\/c=65\/c=10
noncomputable def cU(x y:Nat)(f:Bool):Bool:=x==y||(f&&lowers x==lowers y)
noncomputable def Atom.tk(a:Atom)(c:Nat)(f:Bool):Bool:=match a with
 |.ca=>cU 97 c f
 |.cb=>cU 98 c f
 |.cA=>cU 65 c f
 |.any=>c != 10
 |.Bd=>cU 97 c f||cU 98 c f
 |.su=>!(cU 97 c f)
noncomputable abbrev Span:=Option (Nat×Nat)
noncomputable abbrev Way:=Nat×List Span
noncomputable def bz:Span->V
 |none=>.none
 |some (s,e)=>.aj [.int s,.int e]
noncomputable def dw(o:List Span):V:=.aj (o.map bz)
noncomputable def bK(w:Way):V:=.aj [.int w.1,dw w.2]
section
variable (ag:List Nat) (f:Bool)
noncomputable def bH(a:Atom)(p:Nat):Bool:=match ag[p]? with|some c=>a.tk c f|none=>false
noncomputable def turns(a:Atom)(g:Bool):Nat->Nat->Int->Nat->List Span->List Way
 |0,_,_,_,_=>[]
 |n+1,least,most,p,o=>
  if most=0 then[(p,o)]else
  let found:=if bH ag f a p then turns a g n (least-1) (if 0<most then most-1 else -1) (p+1) o else[]
  if 0<least then found else if g then found++[(p,o)]else(p,o)::found
theorem zt(a:Atom)(g:Bool)(l:Nat)(m:Int)(p:Nat)(o:List Span):turns ag f a g 0 l m p o=[]:=rfl
theorem kR(a:Atom)(g:Bool)(n least:Nat)(most:Int)(p:Nat)(o:List Span):turns ag f a g (n+1) least most p o=if most=0 then[(p,o)]else
  let found:=if bH ag f a p then turns ag f a g n (least-1) (if 0<most then most-1 else -1) (p+1) o else[]
  if 0<least then found else if g then found++[(p,o)]else(p,o)::found:=rfl
noncomputable def fq:List Nat->List Nat->Bool
 |a::r,b::t=>cU a b f&&fq r t
 |_,_=>true
noncomputable def aS:Re->Nat->List Span->List Way
 |.atom a,p,o=>if bH ag f a p then[(p+1,o)]else[]
 |.again k,p,o=>match o[k-1]? with
  |some (some (s,e))=>
   let part:=(ag.drop s).take (e-s)
   let there:=(ag.drop p).take part.length
   if there.length=part.length/\fq f there part=true then[(p+part.length,o)]else[]
  |_=>[]
 |.either a b,p,o=>aS a p o++aS b p o
 |.group k a,p,o=>(aS a p o).map fun w=>(w.1,w.2.set (k-1) (some (p,w.1)))
 |.ba q a,p,o=>turns ag f a q.bS (ag.length-p+1) q.least q.most p o
 |.both a b,p,o=>(aS a p o).flatMap fun w=>aS b w.1 w.2
theorem jL(a:Atom)(p:Nat)(o:List Span):aS ag f (.atom a) p o=if bH ag f a p then[(p+1,o)]else[]:=rfl
theorem jB(k p:Nat)(o:List Span):aS ag f (.again k) p o=match o[k-1]? with
  |some (some (s,e))=>
   let part:=(ag.drop s).take (e-s)
   let there:=(ag.drop p).take part.length
   if there.length=part.length/\fq f there part=true then[(p+part.length,o)]else[]
  |_=>[]:=rfl
theorem xm(a b:Re)(p:Nat)(o:List Span):aS ag f (.either a b) p o=aS ag f a p o++aS ag f b p o:=rfl
theorem xd(k:Nat)(a:Re)(p:Nat)(o:List Span):aS ag f (.group k a) p o=(aS ag f a p o).map fun w=>(w.1,w.2.set (k-1) (some (p,w.1))):=rfl
theorem IB(q:Qn)(a:Atom)(p:Nat)(o:List Span):aS ag f (.ba q a) p o=turns ag f a q.bS (ag.length-p+1) q.least q.most p o:=rfl
theorem wZ(a b:Re)(p:Nat)(o:List Span):aS ag f (.both a b) p o=(aS ag f a p o).flatMap fun w=>aS ag f b w.1 w.2:=rfl
end
noncomputable def Re.inR(m:Nat):Re->Prop
 |.atom _=>True
 |.again k=>1<=k/\k<=m
 |.either a b=>a.inR m/\b.inR m
 |.group k a=>(1<=k/\k<=m)/\a.inR m
 |.ba _ _=>True
 |.both a b=>a.inR m/\b.inR m
noncomputable def Re.dep:Re->Nat
 |.atom _=>0
 |.again _=>0
 |.either a b=>1+max a.dep b.dep
 |.group _ a=>1+a.dep
 |.ba _ _=>0
 |.both a b=>1+max a.dep b.dep
theorem Re.Ij(a:Re)(b:Re):(Re.either a b).dep=1+max a.dep b.dep:=rfl
theorem Re.Hf(pw:Nat)(a:Re):(Re.group pw a).dep=1+a.dep:=rfl
theorem Re.HS(a:Re)(b:Re):(Re.both a b).dep=1+max a.dep b.dep:=rfl
end
theorem oS(d:Nat)(σ:St)(n:Nat)(cells:List Int)(c:Nat)(m:Int)(h:σ[n]?=some (.list [.lst (cells.map .int),.int c]))
 (hc:c<=1000)(hl:cells.length<=40)(hm:0<m):∃k:Int,0<=k/\k<m/\Run af (d+1) 17 [.loc n,.int m] σ (.int k) (σ.set n (.list [.lst (cells.map .int),.int ((c+1:Nat):Int)])):=by
 haveI mN:(cells.map V.int).length<=1000000:=by simp;exact M9 hl
 by_cases cR:(c:Int)+1<=((cells.map V.int).length:Int)
 ·haveI e1:(c:Int)+1-1=(c:Int):=PL;haveI hx:∃x,cells[c]?=some x:=⟨cells[c]'(by simpa using(R6 cR)),getElem?_eq_getElem _⟩;obtain⟨x,hx⟩:=hx;haveI e2:idx (cells.map V.int) ((c:Int)+1-1)=some (.int x):=Rw e1 (sJ (Rw (getElem?_map) (Rw hx rfl)) (QT cR mN));refine⟨Int.fmod x m,Int.fmod_nonneg_of_pos _ hm,Int.fmod_lt_of_pos _ hm,?_⟩;exact ah 1 .z [.of h] [.idx e2,.bin (fun y_=>tS (x:=x) (MA hm))] 0x2111121111111111 (ai mN (ai cR tr))
 ·have Nx:(0:Int)<=((c:Int)+1)*((c:Int)+1)/\((c:Int)+1)*((c:Int)+1)<=1002001:=by
   haveI h2:((c:Int)+1)*((c:Int)+1)=(((c+1)*(c+1):Nat):Int):=by push_cast;rfl
   exact Rw h2 (VA (mul_le_mul (Lh hc) (Lh hc)))
  have hlen:(cells.map V.int).length=cells.length:=by simp
  refine⟨Int.fmod (Int.fdiv (((c:Int)+1)*((c:Int)+1)*37+23*((c:Int)+1)+7*((cells.map V.int).length:Int)) 5) m,Int.fmod_nonneg_of_pos _ hm,Int.fmod_lt_of_pos _ hm,?_⟩;exact ah 1 .z [.of h] [.bin (fun y_=>bR (x:=(↑c:Int)+1) (y:=(↑c:Int)+1) (fA (a:=c+1)) (fE (a:=c+1) (b:=1000000000) (LP hc)) (fA (a:=c+1)) (fE (a:=c+1) (b:=1000000000) (LP hc))),.bin (fun y_=>bR (x:=((↑c:Int)+1)*((↑c:Int)+1)) (y:=37) (fA) (Nh Nx.2) (by decide) (by decide)),.bin (fun y_=>bR (x:=23) (y:=(↑c:Int)+1) (by decide) (by decide) (fA (a:=c+1)) (fE (a:=c+1) (b:=1000000000) (LP hc))),.bin (fun y_=>bR (x:=7) (by decide) (by decide) (fA) (fE (RG mN))),.bin (fun y_=>xB (x:=((↑c:Int)+1)*((↑c:Int)+1)*37+23*((↑c:Int)+1)+7*(↑(List.map V.int cells).length:Int)) (y:=5) (fA) (Ui Nx.2 hlen hc hl) (by decide) (by decide)),.bin (fun y_=>tS (x:=(((↑c:Int)+1)*((↑c:Int)+1)*37+23*((↑c:Int)+1)+7*(↑(List.map V.int cells).length:Int)).fdiv 5) (MA hm))] 0x31111111111 (ai mN (ai cR (ai mN tr)))
theorem Sg.lt{c:Nat}(h:Sg c):c<128:=by rcases h with rfl|rfl|rfl|rfl<;>decide
theorem iQ{x y:Nat}(h:¬x=y):(x==y)=false:=beq_eq_false_iff_ne.mpr h
theorem wi{x y:Nat}(h:¬x=y):¬[x]=[y]:=fun e=>h (List.cons.inj e).1
theorem DY(d:Nat)(σ:St)(x y:Nat)(f:Bool)(hx:x<128)(hy:y<128):Run af (d+1) 20 [.str [x],.str [y],.bool f] σ (.bool (cU x y f)) σ:=by
 by_cases h:x=y
 ·subst h;refine Rw (show cU x x f=true from(congrArg (· ||_) (beq_self_eq_true x)).trans (Bool.true_or _)) (?_);haveI e:[x]=[x]:=rfl;exact ah 1 .z [] [] 0x21 (ai e tr)
 ·haveI e:=wi h;cases f
  ·exact Rw (show cU x y false=false from(congrArg (· ||_) (iQ h)).trans rfl) (ah 1 .z [] [] 0x31 (ai e tr))
  ·by_cases h2:lowers x=lowers y
   ·exact Rw (show cU x y true=true from(congrArg (_||·) (beq_iff_eq.mpr h2)).trans (Bool.or_true _)) (ah 1 .z [] [] 0x231 (ai e (ai hx (ai hy (ai (congrArg (fun z=>[z]) h2) tr)))))
   ·exact Rw (show cU x y true=false from(congr (congrArg or (iQ h)) (iQ h2))) (ah 1 .z [] [] 0x331 (ai e (ai hx (ai hy (ai (wi h2) tr)))))
theorem AP(d:Nat)(σ:St)(a:Atom)(c:Nat)(f:Bool)(hc:Sg c):Run af (d+2) 21 [a.v,.str [c],.bool f] σ (.bool (a.tk c f)) σ:=by rcases hc with rfl|rfl|rfl|rfl<;>cases a<;>cases f<;>exact ud 2 .z [] [] 0 (by kernel_rfl) (by kernel_rfl) (fun q=>by first|exact q|exact q (by decide)|exact q (by decide) (by decide)|exact q (by decide) (by decide) (by decide)|exact q (by decide) (by decide) (by decide) (by decide)|exact q (by decide) (by decide) (by decide) (by decide) (by decide)|exact q (by decide) (by decide) (by decide) (by decide) (by decide) (by decide) (by decide))
theorem A9(o:List Span)(k:Nat)(h1:1<=k)(h2:k<=o.length)(h3:o.length<=1000000):idx (o.map bz) ((k:Int)-1)=(o[k-1]?).map bz:=Rw (IJ h1) (Rw (kI _ _ (by rw[length_map];exact Mb h1 h2) (Wo h3 h2)) (Rw (getElem?_map) rfl))
theorem Dw{l:List Nat}{k c:Nat}(h:l[k]?=some c)(hk:k<=1000000000):fF l (k:Int)=some c:=by unfold fF;exact Rw (dK (List.getElem?_eq_some_iff.mp h).1 hk) h
theorem r6(d:Nat)(σ:St)(a:Atom)(ag:List Nat)(p:Nat)(o:List Span)(f:Bool)(ht:∀c∈ag,Sg c)(hl:ag.length<=100):Run af (d+3) 22 [a.v,.str ag,.int p,dw o,.bool f] σ (.lst ((aS ag f (.atom a) p o).map bK)) σ:=by
 haveI mN:=DH hl;by_cases hp:p<ag.length
 ·haveI hg:=getElem?_eq_getElem hp;haveI e:=AP (d:=d) (σ:=σ) a ag[p] f (ht _ (getElem_mem hp));have hw:aS ag f (.atom a) p o=if a.tk ag[p] f then[(p+1,o)]else[]:=by simp only[jL,bH,hg]
  refine Rw hw (?_);generalize ag[p]=c at *;cases hb:a.tk c f<;>rw[hb]at e<;>cases a<;>exact ud 3 .z [] [.fF (Dw hg (NS hp mN)),.call .z e] 0x222111 (by kernel_rfl) (by kernel_rfl) (fun q=>q mN (gT hp))
 ·have hw:aS ag f (.atom a) p o=[]:=by simp only[jL,bH,(getElem?_eq_none (FH hp))];rfl
  refine Rw hw (?_);cases a<;>exact ud 3 .z [] [] 0x3111 (by kernel_rfl) (by kernel_rfl) (fun q=>q mN (iX (FH hp)))
noncomputable def lj(f:Bool):List Nat->List Nat->List V
 |a::r,b::t=>(if cU a b f then[]else[.int 1])++lj f r t
 |_,_=>[]
theorem l6(f:Bool):∀s t:List Nat,(lj f s t).isEmpty=fq f s t
 |[],_=>rfl
 |_::_,[]=>rfl
 |a::r,b::t=>by show((if cU a b f then[]else[V.int 1])++lj f r t).isEmpty=(cU a b f&&fq f r t);refine Lw (l6 f r t) (?_);cases cU a b f<;>rfl
theorem qa(d:Nat)(σ:St)(f:Bool)(e0 e1 e2 e3 e5 e6 e7 e8 e9 j2 jl gE fD fW f9 ig ij:Option V):∀(s t:List Nat) (acc:List V),(∀c∈s,c<128)->(∀c∈t,c<128)->acc.length+s.length<=1000000->bw (bV af (d+1) zO [14,15] true ze [e0,e1,e2,e3,some (.bool f),e5,e6,e7,e8,e9,j2,jl,gE,fD,fW,f9,ig,ij]) (jS s t) acc σ (acc++lj f s t) σ
 |[],_=>@fun acc _ _ _=>⟨append_nil acc,rfl⟩
 |_::_,[]=>@fun acc _ _ _=>⟨append_nil acc,rfl⟩
 |a::r,b::t=>@fun acc hs ht hl=>by
  haveI e:=DY d σ a b f (hs a mem_cons_self) (ht b mem_cons_self);haveI hl:=hl;haveI hr:=fun acc h=>qa d σ f e0 e1 e2 e3 e5 e6 e7 e8 e9 j2 jl gE fD fW f9 ig ij r t acc (fun c hc=>hs c (mem_cons_of_mem _ hc)) (fun c hc=>ht c (mem_cons_of_mem _ hc)) h;show bw _ (.aj [.str [a],.str [b]]::jS r t) acc σ (acc++((if cU a b f then[]else[V.int 1])++lj f r t)) σ;cases hk:cU a b f<;>haveI e:=hk▸e
  ·refine .some (x:=.int 1) (ae:=σ) ?_ (VD hl) ?_
   ·exact eW 1 .z [] [.call .z e] 0x2 tr
   ·haveI:=hr (acc++[.int 1]) (Rw length_append (XD hl));rw[append_assoc]at this;exact this
  ·refine .none ?_ (hr acc (R1 hl));exact eW 1 .z [] [.call .z e] 0x2 tr
theorem zP(d:Nat)(σ:St)(k:Nat)(ag:List Nat)(p:Nat)(o:List Span)(f:Bool)(ht:∀c∈ag,Sg c)(hl:ag.length<=100)(h1:1<=k)(h2:k<=o.length)(h3:o.length<=1000):Run af (d+2) 22 [(Re.again k).v,.str ag,.int p,dw o,.bool f] σ (.lst ((aS ag f (.again k) p o).map bK)) σ:=by
 obtain⟨x,hg⟩:∃x,o[k-1]?=some x:=⟨_,getElem?_eq_getElem (Mb h1 h2)⟩;haveI hi:=A9 o k h1 h2 (S6 h3);haveI hi:=hg▸hi
 cases x with
 |none=>
  haveI hw:aS ag f (.again k) p o=[]:=by simp only[jB,hg]
  haveI hc:cut ag (.int (p:Int)) (.int ((p:Int)+(0:Nat)))=some []:=by rw[uT (DH hl)];rfl
  haveI hs:fp (.str ag) (.int (p:Int)) (.int ((p:Int)+(0:Nat)))=some (.str []):=congrArg (Option.map V.str) hc;have hi:=hi;exact Rw hw (ah 2 .z [] [.idx hi,.dV hs] 0x21211111 (ai (show jd.length<=1000000 from(by decide)) (ai (show jd.length<=1000000 from(by decide)) (ai (show jd.length<=1000000 from(by decide)) (ai (show((jd.all fun x=>decide (x<128))&&jd.all fun x=>decide (x<128))=true from(by decide)) tr)))))
 |some w=>
  refine cps fun G kG=>?_;obtain⟨s,e⟩:=w;refine kG ?_;haveI hi:idx (o.map bz) ((k:Int)-1)=some (.aj [.int (s:Int),.int (e:Int)]):=hi;have pK:∀m,∀c∈(ag.drop m),Sg c:=fun m c h=>ht c (List.mem_of_mem_drop h);have mV:∀c∈((ag.drop s).take (e-s)),c<128:=fun c h=>(pK s c (mem_of_mem_take h)).lt;haveI hlen:((ag.drop s).take (e-s)).length<=100:=le_trans (List.length_take_le' _ _) (le_trans (length_drop▸sub_le _ _) hl);have hc:fp (.str ag) (.int (s:Int)) (.int (e:Int))=some (.str ((ag.drop s).take (e-s))):=congrArg (Option.map V.str) (xx (DH hl) s e);haveI kA:∀m:Nat,fp (.str ag) (.int (p:Int)) (.int ((p:Int)+(m:Int)))=some (.str ((ag.drop p).take m)):=fun m=>congrArg (Option.map V.str) (uT (DH hl) p m)
  haveI hw:aS ag f (.again k) p o=if((ag.drop p).take ((ag.drop s).take (e-s)).length).length=((ag.drop s).take (e-s)).length/\fq f ((ag.drop p).take ((ag.drop s).take (e-s)).length) ((ag.drop s).take (e-s))=true then[(p+((ag.drop s).take (e-s)).length,o)]else[]:=by simp only[jB,hg]
  refine Rw hw (?_);clear hw;generalize(ag.drop s).take (e-s)=part at *;have GU:=kA part.length;have iW:∀c∈((ag.drop p).take part.length),c<128:=fun c h=>(pK p c (mem_of_mem_take h)).lt;haveI Ml:((ag.drop p).take part.length).length<=100:=le_trans (List.length_take_le' _ _) (le_trans (length_drop▸sub_le _ _) hl);generalize(ag.drop p).take part.length=there at *;clear kA
  have KX:(there.all (· <128)&&part.all (· <128))=true:=by simp only[Bool.and_eq_true,all_eq_true,decide_eq_true_eq];exact⟨iW,mV⟩
  have l1:=DH hlen;have l2:=DH Ml;rw[<-l6];haveI hv:bK (p+part.length,o)=.aj [.int ((p:Int)+(part.length:Int)),.aj (o.map bz)]:=rfl;haveI kC:=fun e5 e6 e7 e8 e9 j2 jl gE fD fW f9 ig ij=>qa d σ f (some (.aj [.str [97,103,97,105,110],.int (k:Int)])) (some (.str ag)) (some (.int (p:Int))) (some (.aj (o.map bz))) e5 e6 e7 e8 e9 j2 jl gE fD fW f9 ig ij there part [] iW mV (QR l2);by_cases hq:there.length=part.length
  ·cases hm:lj f there part with
   |nil=>haveI kC:=hm▸kC;refine Rw (if_pos ⟨hq,rfl⟩) (?_);haveI kC:=kC (some (.str [97,103,97,105,110])) (some (.aj [.int (s:Int),.int (e:Int)])) (some (.str part)) (some (.str there)) none none none none none none none none none;exact ah 2 .z [] [.idx hi,.dV hc,.dV GU,.eI .z kC] 0x2222111211111 (ai l1 (ai l2 (ai l1 (ai (Fg hq) (ai KX (ai l1 tr))))))
   |cons z r=>exact Rw (if_neg (fun h=>bf h.2)) (ah 2 .z [] [.idx hi,.dV hc,.dV GU,.eI .z ((hm▸kC) (some (.str [97,103,97,105,110])) (some (.aj [.int (s:Int),.int (e:Int)])) (some (.str part)) (some (.str there)) none none none none none none none none none)] 0x2222111211111 (ai l1 (ai l2 (ai l1 (ai (Fg hq) (ai KX tr))))))
  ·exact Rw (if_neg (fun h=>hq h.1)) (ah 2 .z [] [.idx hi,.dV hc,.dV GU] 0x322111211111 (ai l1 (ai l2 (ai l1 (ai (qU hq) tr)))))
theorem Kc{α:Type}{c:Prop}[Decidable c]{x:α}:(if c then[x]else[]).length<=1:=by
 by_cases h:c
 ·exact Rw (if_pos h) (le_refl _)
 ·exact Rw (if_neg h) (zero_le _)
theorem mj(ag:List Nat)(f:Bool)(a:Atom)(g:Bool):∀(n least:Nat) (most:Int) (p:Nat) (o:List Span),(turns ag f a g n least most p o).length<=n
 |0=>@fun _ _ _ _=>le_refl _
 |n+1=>@fun least most p o=>by
  haveI ih:=mj ag f a g n (least-1) (if 0<most then most-1 else -1) (p+1) o;simp only[kR];generalize turns ag f a g n (least-1) (if 0<most then most-1 else -1) (p+1) o=z at *
  haveI hz:(if bH ag f a p then z else[]).length<=n:=by
   by_cases q:bH ag f a p=true
   ·exact Rw (if_pos q) ih
   ·exact Rw (if_neg q) (zero_le _)
  generalize(if bH ag f a p then z else[])=y at *;by_cases q:most=0
  ·exact Rw (if_pos q) (succ_le_succ (zero_le n))
  ·refine Rw (if_neg q) ?_;by_cases q:0<least
   ·exact Rw (if_pos q) (le_succ_of_le hz)
   ·refine Rw (if_neg q) ?_;cases g
    ·exact Rw (if_neg bf) (succ_le_succ hz)
    ·exact Rw (if_pos rfl) (Rw length_append (succ_le_succ hz))
theorem jc{ag:List Nat}{f:Bool}{a:Atom}{p:Nat}(hk:bH ag f a p=true):p<ag.length:=by
 refine Or.elim (lt_or_ge p ag.length) (fun h=>?_) fun h=>?_
 ·exact h
 ·unfold bH at hk;exact nomatch ((getElem?_eq_none h)▸hk)
theorem u9(ag:List Nat)(f:Bool)(a:Atom)(g:Bool)(x y:V)(ht:∀c∈ag,Sg c)(hl:ag.length<=100)(σ:St)(o:List Span):∀(n d least:Nat) (most:Int) (p:Nat),ag.length+1<=n+p->n<=200->1<=n->Run af (d+n+3) 23 [.int least,.int most,.aj [.str [111,102,116,101,110],x,y,.bool g,a.v],.str ag,.int p,dw o,.bool f] σ (.lst ((turns ag f a g n least most p o).map bK)) σ
 |0=>@fun _ _ _ _ _ _ h=>absurd h (by decide)
 |n+1=>@fun d least most p hn G9 _=>by
  show Run af ((d+n+3)+1) 23 _ σ _ σ;by_cases hm:most=0
  ·exact Rw (show turns ag f a g (n+1) least most p o=[(p,o)]from if_pos hm) (ah 4 .z [] [] 0x21 (ai hm tr))
  ·haveI lQ:=r6 (d+n) σ a ag p o f ht hl;haveI hlen:=mj ag f a g n (least-1) (if 0<most then most-1 else -1) (p+1) o;haveI hw:turns ag f a g (n+1) least most p o=(if 0<least then(if bH ag f a p then turns ag f a g n (least-1) (if 0<most then most-1 else -1) (p+1) o else[])else if g then(if bH ag f a p then turns ag f a g n (least-1) (if 0<most then most-1 else -1) (p+1) o else[])++[(p,o)]else(p,o)::(if bH ag f a p then turns ag f a g n (least-1) (if 0<most then most-1 else -1) (p+1) o else[])):=if_neg hm;refine Rw hw (?_);clear hw
   cases hk:bH ag f a p with
   |false=>
    have lQ:Run af (d+n+3) 22 [a.v,.str ag,.int p,dw o,.bool f] σ (.lst []) σ:=by
     haveI e:aS ag f (.atom a) p o=[]:=by simp only[jL,hk];rfl
     haveI lQ:=e▸lQ;exact lQ
    clear hlen;by_cases h1:0<least
    ·exact Rw (if_pos h1) (ah 4 .z [] [.call .z lQ] 0x212131 (ai hm (ai (gT h1) tr)))
    ·refine Rw (if_neg h1) (?_);haveI h1:=le_of_not_lt h1;cases g
     ·exact ah 4 .z [] [.call .z lQ,.bin (fun y_=>aJ (x:=[V.aj [V.int (↑p:Int),dw o]]) (y:=[]) (bl rfl))] 0x312131 (ai hm (ai (iX h1) tr))
     ·exact ah 4 .z [] [.call .z lQ,.bin (fun y_=>aJ (x:=[]) (y:=[V.aj [V.int (↑p:Int),dw o]]) (bl rfl))] 0x312131 (ai hm (ai (iX h1) tr))
   |true=>
    haveI lQ:Run af (d+n+3) 22 [a.v,.str ag,.int p,dw o,.bool f] σ (.lst [.aj [.int ((p:Int)+1),dw o]]) σ:=by
     haveI e:aS ag f (.atom a) p o=[(p+1,o)]:=by simp only[jL,hk];rfl
     rw[e]at lQ;exact lQ
    haveI ih:=u9 ag f a g x y ht hl σ o n d (least-1) (if 0<most then most-1 else -1) (p+1) (Us hn) (NA G9) (X5 hn (jc hk));haveI hle:((least-1:Nat):Int)=(if(least:Int)-1<0 then(0:Int)else(least:Int)-1):=by split<;>(first|exact VE (by assumption)|exact VG (by assumption))
    rw[hle]at ih;clear hle;refine Rw (if_pos rfl) (?_);generalize turns ag f a g n (least-1) (if 0<most then most-1 else -1) (p+1) o=tl at *;haveI l0:([]:List V).length+(tl.map bK).length<=1000000:=by rw[length_map];exact XJ G9 hlen
    haveI l1:(tl.map bK).length+[V.aj [.int (p:Int),dw o]].length<=1000000:=by rw[length_map];exact WR G9 hlen
    haveI l2:[V.aj [.int (p:Int),dw o]].length+(tl.map bK).length<=1000000:=by rw[length_map];exact Yw G9 hlen
    haveI XU:(tl++[(p,o)]).map bK=tl.map bK++[bK (p,o)]:=map_append;by_cases h2:0<most
    ·rw[if_pos h2]at ih;by_cases h1:0<least
     ·rw[if_pos h1];exact ah 4 .z [] [.call .z lQ,.call .z ih,.bin (fun y_=>aJ l0)] 0x222212131 (ai hm (ai (gT h1) (ai h2 (ai (gT h1) tr))))
     ·rw[if_neg h1];haveI h1:=le_of_not_lt h1;cases g
      ·exact ah 4 .z [] [.call .z lQ,.call .z ih,.bin (fun y_=>aJ l0),.bin (fun y_=>aJ (y:=[]++List.map bK tl) l2)] 0x3222312131 (ai hm (ai (iX h1) (ai h2 (ai h2 (ai (iX h1) tr)))))
      ·rw[if_pos rfl,XU];exact ah 4 .z [] [.call .z lQ,.call .z ih,.bin (fun y_=>aJ l0),.bin (fun y_=>aJ (x:=[]++List.map bK tl) l1)] 0x3222312131 (ai hm (ai (iX h1) (ai h2 (ai h2 (ai (iX h1) tr)))))
    ·rw[if_neg h2]at ih;by_cases h1:0<least
     ·rw[if_pos h1];exact ah 4 .z [] [.call .z lQ,.call .z ih,.bin (fun y_=>aJ l0)] 0x223212131 (ai hm (ai (gT h1) (ai h2 (ai (gT h1) tr))))
     ·rw[if_neg h1];haveI h1:=le_of_not_lt h1;cases g
      ·exact ah 4 .z [] [.call .z lQ,.call .z ih,.bin (fun y_=>aJ l0),.bin (fun y_=>aJ (y:=[]++List.map bK tl) l2)] 0x32323312131 (ai hm (ai (iX h1) (ai h2 (ai (gT (b:=p+1) (lt_succ_self p)) (ai h2 (ai (iX h1) tr))))))
      ·rw[if_pos rfl,XU];exact ah 4 .z [] [.call .z lQ,.call .z ih,.bin (fun y_=>aJ l0),.bin (fun y_=>aJ (x:=[]++List.map bK tl) l1)] 0x32323312131 (ai hm (ai (iX h1) (ai h2 (ai (gT (b:=p+1) (lt_succ_self p)) (ai h2 (ai (iX h1) tr))))))
noncomputable def Re.wb:Re->Nat
 |.atom _=>1
 |.again _=>1
 |.either a b=>a.wb+b.wb
 |.group _ a=>a.wb
 |.ba _ _=>5
 |.both a b=>a.wb*b.wb
theorem Re.Ar(vY:Atom):(Re.atom vY).wb=1:=rfl
theorem Re.AZ(pw:Nat):(Re.again pw).wb=1:=rfl
theorem Re.L7(pw:Nat)(a:Re):(Re.group pw a).wb=a.wb:=rfl
noncomputable def Re.need:Re->Nat
 |.atom _=>3
 |.again _=>3
 |.either a b=>1+max a.need b.need
 |.group _ a=>1+a.need
 |.ba _ _=>9
 |.both a b=>1+max a.need b.need
theorem Re.EK(vY:Atom):(Re.atom vY).need=3:=rfl
theorem Re.GK(pw:Nat):(Re.again pw).need=3:=rfl
theorem Re.xA(a:Re)(b:Re):(Re.either a b).need=1+max a.need b.need:=rfl
theorem Re.yL(pw:Nat)(a:Re):(Re.group pw a).need=1+a.need:=rfl
theorem Re.yY(Lu:Qn)(vY:Atom):(Re.ba Lu vY).need=9:=rfl
theorem Re.yB(a:Re)(b:Re):(Re.both a b).need=1+max a.need b.need:=rfl
theorem Re.lI:∀N:Re,1<=N.wb
 |.atom _=>le_refl _
 |.again _=>le_refl _
 |.either a _=>le_trans a.lI (le_add_right _ _)
 |.group _ a=>a.lI
 |.ba _ _=>bl rfl
 |.both a b=>mul_le_mul a.lI b.lI
theorem nR{α β:Type}(f:α->List β)(m:Nat):∀l:List α,(∀a∈l,(f a).length<=m)->(l.flatMap f).length<=l.length*m
 |[]=>@fun _=>(zero_le _)
 |a::r=>@fun h=>by simp only[flatMap_cons,length_append,length_cons,succ_mul];exact QW (h a mem_cons_self) (nR f m r fun b hb=>h b (mem_cons_of_mem _ hb))
theorem du(ag:List Nat)(f:Bool)(hl:ag.length<=4):∀(N:Re) (p:Nat) (o:List Span),(aS ag f N p o).length<=N.wb
 |.atom a=>@fun p o=>Kc
 |.again k=>@fun p o=>by
  show(aS ag f (.again k) p o).length<=1;rw[jB]
  cases o[k-1]? with
  |none=>exact zero_le _
  |some y=>cases y with
   |none=>exact zero_le _
   |some y=>exact Kc
 |.either a b=>@fun p o=>le_trans (le_of_eq length_append) (Nat.add_le_add (du ag f hl a p o) (du ag f hl b p o))
 |.group k a=>@fun p o=>le_trans (le_of_eq (length_map _)) (du ag f hl a p o)
 |.ba q a=>@fun p o=>TS hl (mj ag f a q.bS (ag.length-p+1) q.least q.most p o)
 |.both a b=>@fun p o=>le_trans (nR (fun w:Way=>aS ag f b w.1 w.2) b.wb (aS ag f a p o) fun w y_=>du ag f hl b w.1 w.2) (mul_le_mul_right _ (du ag f hl a p o))
theorem qM(ag:List Nat)(f:Bool)(a:Atom)(g:Bool):∀(n least:Nat) (most:Int) (p:Nat) (o:List Span),∀w∈turns ag f a g n least most p o,w.2=o
 |0=>by intro _ _ _ _ w hw;simp[zt]at hw
 |n+1=>by
  intro least most p o w hw;haveI ih:=qM ag f a g n (least-1) (if 0<most then most-1 else -1) (p+1) o;simp only[kR]at hw;generalize turns ag f a g n (least-1) (if 0<most then most-1 else -1) (p+1) o=z at *
  split at hw
  ·simp at hw;exact Rw hw rfl
  ·have hz:∀w∈(if bH ag f a p then z else[]),w.2=o:=by
    split
    ·exact ih
    ·intro w hw;cases hw
   generalize(if bH ag f a p then z else[])=y at *
   split at hw
   ·exact hz w hw
   ·split at hw<;>simp at hw<;>refine Or.elim hw (fun h=>?_) fun h=>?_<;>first|(exact hz w h)|(exact Rw h rfl)
theorem dp(ag:List Nat)(f:Bool):∀(N:Re) (p:Nat) (o:List Span),∀w∈aS ag f N p o,w.2.length=o.length
 |.atom a=>@fun p o w hw=>by simp only[jL]at hw;split at hw<;>simp at hw;exact Rw hw rfl
 |.again k=>@fun p o w hw=>by
  simp only[jB]at hw
  split at hw
  ·split at hw<;>simp at hw;exact Rw hw rfl
  ·simp at hw
 |.either a b=>@fun p o w hw=>by
  simp only[xm,mem_append]at hw;refine Or.elim hw (fun hw=>?_) fun hw=>?_
  ·exact dp ag f a p o w hw
  ·exact dp ag f b p o w hw
 |.group k a=>@fun p o w hw=>by simp only[xd,mem_map]at hw;obtain⟨u,hu,rfl⟩:=hw;simpa using dp ag f a p o u hu
 |.ba q a=>@fun p o w hw=>Rw (qM _ _ _ _ _ _ _ _ _ w hw) rfl
 |.both a b=>@fun p o w hw=>by simp only[wZ,mem_flatMap]at hw;obtain⟨u,hu,hw⟩:=hw;exact Rw (dp ag f b u.1 u.2 w hw) (Rw (dp ag f a p o u hu) rfl)
theorem m8(ag:List Nat)(f:Bool)(a:Atom)(g:Bool):∀(n least:Nat) (most:Int) (p:Nat) (o:List Span),∀w∈turns ag f a g n least most p o,w.1=p\/w.1<=ag.length
 |0=>@fun _ _ _ _ w hw=>by simp[zt]at hw
 |n+1=>@fun least most p o w hw=>by
  simp only[kR]at hw
  have hz:∀w∈(if bH ag f a p then turns ag f a g n (least-1) (if 0<most then most-1 else -1) (p+1) o else[]),w.1<=ag.length:=by
   split
   ·rename_i hk
    haveI hp:p<ag.length:=by
     unfold bH at hk;refine Or.elim (lt_or_ge p ag.length) (fun h=>?_) fun h=>?_
     ·exact h
     ·cases((getElem?_eq_none h)▸hk)
    intro w hw;exact RQ hp ((m8 ag f a g n (least-1) (if 0<most then most-1 else -1) (p+1) o) w hw)
   ·intro w hw;cases hw
  generalize(if bH ag f a p then turns ag f a g n (least-1) (if 0<most then most-1 else -1) (p+1) o else[])=y at *
  split at hw
  ·simp at hw;left;exact Rw hw rfl
  ·split at hw
   ·exact .inr (hz w hw)
   ·split at hw<;>simp at hw<;>refine Or.elim hw (fun h=>?_) fun h=>?_<;>first|(exact .inr (hz w h))|(left;exact Rw h rfl)
theorem eY(ag:List Nat)(f:Bool)(hl:ag.length<=100):∀(N:Re) (p:Nat) (o:List Span),∀w∈aS ag f N p o,p<=100->w.1<=100
 |.atom a=>@fun p o w hw hp=>by
  simp only[jL]at hw;split at hw
  ·rename_i hk;simp at hw;exact Rw hw (RJ (jc hk) hl)
  ·simp at hw
 |.again k=>@fun p o w hw hp=>by
  simp only[jB]at hw
  split at hw
  ·split at hw
   ·rename_i h;simp at hw;refine Rw hw (?_);haveI h1:=h.1;simp only[length_take,length_drop]at h1 ⊢;exact T8 hp hl h1
   ·simp at hw
  ·simp at hw
 |.either a b=>@fun p o w hw hp=>by
  simp only[xm,mem_append]at hw;refine Or.elim hw (fun hw=>?_) fun hw=>?_
  ·exact eY ag f hl a p o w hw hp
  ·exact eY ag f hl b p o w hw hp
 |.group k a=>@fun p o w hw hp=>by simp only[xd,mem_map]at hw;obtain⟨u,hu,rfl⟩:=hw;exact eY ag f hl a p o u hu hp
 |.ba q a=>@fun p o w hw hp=>PJ (m8 _ _ _ _ _ _ _ _ _ w hw) hl hp
 |.both a b=>@fun p o w hw hp=>by simp only[wZ,mem_flatMap]at hw;obtain⟨u,hu,hw⟩:=hw;exact eY ag f hl b u.1 u.2 w hw (eY ag f hl a p o u hu hp)
theorem DP(o:List Span)(k:Nat)(h1:1<=k)(h2:k<=o.length)(s:V)(x:Span)(hx:bz x=s):((o.map bz).take (k-1)++[s])++(o.map bz).drop k=(o.set (k-1) x).map bz:=by subst hx;refine Rw List.set_eq_take_append_cons_drop (Rw (if_pos (Mb h1 h2)) (?_));simp only[map_append,map_cons,append_assoc,cons_append,nil_append,map_take,List.map_drop];exact Rw (Fq h1) rfl
theorem y8(d:Nat)(σ:St)(k p:Nat)(f:Bool)(e0 e1 e3 e5 e6 e7 e8 e9 j2 gE fD fW f9:Option V)(n:Nat)(hn:n<=100)(h1:1<=k)(h2:k<=n)(w:Way)(hw:w.2.length=n):bV af d zo [16,17] true (.cst (.bool true)) [e0,e1,some (.int (p:Int)),e3,some (.bool f),e5,e6,e7,e8,e9,j2,some (.int (k:Int)),gE,fD,fW,f9,none,none] (bK w) σ (some (bK (w.1,w.2.set (k-1) (some (p,w.1))))) σ:=by
 obtain⟨e,own⟩:=w;haveI hlen:(own.map bz).length<=1000000:=by rw[length_map];exact Ro hw hn
 haveI c1:fp (.aj (own.map bz)) .none (.int ((k:Int)-1))=some (.aj ((own.map bz).take (k-1))):=Rw (IJ h1) (congrArg (Option.map V.aj) (ro hlen (k-1)));haveI c2:fp (.aj (own.map bz)) (.int (k:Int)) .none=some (.aj ((own.map bz).drop k)):=congrArg (Option.map V.aj) (DJ hlen k);haveI hs:(own.map bz).take (k-1)++[V.aj [.int (p:Int),.int (e:Int)]]++(own.map bz).drop k=(own.set (k-1) (some (p,e))).map bz:=DP own k h1 (Ye hw h2) _ (some (p,e)) rfl;haveI l4:((own.map bz).take (k-1)).length+[V.aj [.int (p:Int),.int (e:Int)]].length<=1000000:=by rw[length_take,length_map];exact NI hn h2
 haveI l5:((own.map bz).take (k-1)++[V.aj [.int (p:Int),.int (e:Int)]]).length+((own.map bz).drop k).length<=1000000:=by rw[length_append,length_take,length_drop,length_map];exact XM (by assumption) hn
 show bV af (d+0) _ _ _ _ _ (.aj [.int (e:Int),.aj (own.map bz)]) σ (some (.aj [.int (e:Int),.aj ((own.set (k-1) (some (p,e))).map bz)])) σ;exact Lw hs (eW 0 .z [] [.dV c1,.bin (fun y_=>qk l4),.dV c2,.bin (fun y_=>qk l5)] 0x22 tr)
theorem sU(d:Nat)(σ:St)(ag:List Nat)(f:Bool)(b:Re)(m n:Nat)(e0 v:V)(e2 e3 e5 e6 e7 e8 e9 jl fW f9 ig ij:Option V)
  (hb:∀(p:Nat) (o:List Span),o.length=n->p<=100->Run af d 22 [b.v,.str ag,.int p,dw o,.bool f] σ (.lst ((aS ag f b p o).map bK)) σ)
  (hm:∀(p:Nat) (o:List Span),(aS ag f b p o).length<=m):∀(l acc:List Way) (x y:Option V),(∀w∈l,w.2.length=n/\w.1<=100)->acc.length+l.length*m<=500000->∃x' y',cg (eU af d [12,13] true zB) (l.map bK) [some (.aj [e0,v,b.v]),some (.str ag),e2,e3,some (.bool f),e5,e6,e7,e8,e9,some (.lst (acc.map bK)),jl,x,y,fW,f9,ig,ij] σ
   .next [some (.aj [e0,v,b.v]),some (.str ag),e2,e3,some (.bool f),e5,e6,e7,e8,e9,some (.lst ((acc++l.flatMap fun w=>aS ag f b w.1 w.2).map bK)),jl,x',y',fW,f9,ig,ij] σ
 |[]=>@fun acc x y _ _=>⟨x,y,by rw[flatMap_nil,append_nil];exact .nil⟩
 |w::r=>@fun acc x y hk ha=>by
  obtain⟨e,own⟩:=w;haveI oo:=hk _ mem_cons_self;rw[length_cons,succ_mul]at ha;haveI l3:(acc.map bK).length+((aS ag f b e own).map bK).length<=1000000:=by rw[length_map,length_map];exact Ny ha (hm e own)
  obtain⟨x',y',ih⟩:=sU d σ ag f b m n e0 v e2 e3 e5 e6 e7 e8 e9 jl fW f9 ig ij hb hm r (acc++aS ag f b e own) (some (.int (e:Int))) (some (dw own)) (fun u hu=>hk u (mem_cons_of_mem _ hu)) (Rw length_append (QL ha (hm e own)));refine⟨x',y',?_⟩;rw[flatMap_cons,<-append_assoc];refine cg.next ?_ (map_append▸ih);exact dq 0 .z [] [.call .z (hb e own oo.1 oo.2),.bin (fun y_=>aJ l3)] 0x21 tr
theorem jm(ag:List Nat)(f:Bool)(ht:∀c∈ag,Sg c)(hl:ag.length<=4)(σ:St):∀(N:Re) (d p:Nat) (o:List Span),N.inR o.length->o.length<=100->N.wb<=100000->N.need<=d->p<=100->Run af d 22 [N.v,.str ag,.int p,dw o,.bool f] σ (.lst ((aS ag f N p o).map bK)) σ
 |.atom a=>by intro d p o _ _ _ hd _;obtain⟨d,rfl⟩:∃d',d=d'+3:=⟨d-3,UE hd⟩;exact r6 d σ a ag p o f ht (IA hl)
 |.again k=>by intro d p o hr ho _ hd _;obtain⟨d,rfl⟩:∃d',d=d'+2:=⟨d-2,Uh hd⟩;exact zP d σ k ag p o f ht (IA hl) hr.1 hr.2 (DK ho)
 |.either a b=>by
  intro d p o hr ho hw hd hp;simp only[Re.xA]at hd;obtain⟨d,rfl⟩:∃d',d=d'+1:=⟨d-1,JL hd⟩;haveI l3:((aS ag f a p o).map bK).length+((aS ag f b p o).map bK).length<=1000000:=by rw[length_map,length_map];exact Vr hw (du ag f hl b p o) (du ag f hl a p o)
  exact Rw (show aS ag f (.either a b) p o=aS ag f a p o++aS ag f b p o from rfl) (Rw map_append (ah 1 .z [] [.call .z (jm ag f ht hl σ a d p o hr.1 ho (Rd hw) (J0 hd) hp),.call .z (jm ag f ht hl σ b d p o hr.2 ho (Sm hw) (Ld hd) hp),.bin (fun y_=>aJ l3)] 0x212111111 tr))
 |.group k a=>by intro d p o hr ho hw hd hp;simp only[Re.yL]at hd;simp only[Re.L7]at hw;obtain⟨d,rfl⟩:∃d',d=d'+1:=⟨d-1,V2 hd⟩;haveI hc:=bw.map (aS ag f a p o) [] (fun w hw=>y8 d σ k p f (some (Re.group k a).v) (some (.str ag)) (some (dw o)) (some (.str [103,114,111,117,112])) none none none none (some (.lst ((aS ag f a p o).map bK))) none none none none o.length ho hr.1.1 hr.1.2 w (dp ag f a p o w hw)) (Kd hw (du ag f hl a p o));exact Rw (show aS ag f (.group k a) p o=(aS ag f a p o).map fun w=>(w.1,w.2.set (k-1) (some (p,w.1)))from rfl) (Rw map_map (ah 1 .z [] [.call .z (jm ag f ht hl σ a d p o hr.2 ho (Tu hw) (SA hd) hp),.eI .z hc] 0x2121111111 tr))
 |.ba q a=>by intro d p o _ ho _ hd hp;simp only[Re.yY]at hd;obtain⟨d,rfl⟩:∃d',d=d'+(ag.length-p+1)+3+1:=⟨d-(ag.length-p+1)-4,Qg hd hl⟩;exact Rw (show aS ag f (.ba q a) p o=turns ag f a q.bS (ag.length-p+1) q.least q.most p o from rfl) (ah 4 .z [] [.call .z (u9 ag f a q.bS (.int q.least) (.int q.most) ht (IA hl) σ o (ag.length-p+1) d q.least q.most p Uc (W0 hl) Nn)] 0x2111111111 tr)
 |.both a b=>by
  intro d p o hr ho hw hd hp;simp only[Re.yB]at hd;obtain⟨d,rfl⟩:∃d',d=d'+1:=⟨d-1,JL hd⟩
  obtain⟨x',y',dj⟩:=sU d σ ag f b b.wb o.length (.str [98,111,116,104]) a.v (some (.int (p:Int))) (some (dw o)) (some (.str [98,111,116,104])) none none none none none none none none none
   (fun p o' Di hp=>jm ag f ht hl σ b d p o' (Di▸hr.2) (Di▸ho) (le_trans (Nat.le_mul_of_pos_left _ a.lI) hw) (Ld hd) hp) (fun p o=>du ag f hl b p o) (aS ag f a p o) [] none none (fun w hw=>⟨dp ag f a p o w hw,eY ag f (IA hl) a p o w hw hp⟩)
   (le_trans (by show 0+_<=_;rw[zero_add];exact mul_le_mul_right _ (du ag f hl a p o)) (le_trans hw (by decide)))
  exact ah 1 .z [] [.call .z (jm ag f ht hl σ a d p o hr.1 ho (le_trans (Nat.le_mul_of_pos_right _ b.lI) hw) (J0 hd) hp),.md .z dj] 0x2211111111 tr
section
noncomputable def shift(b:Nat):Span->Span
 |none=>none
 |some (s,e)=>some (s+b,e+b)
noncomputable def cT(b s:Nat)(w:Way):V:=.lst ((some (s,w.1)::w.2).map fun x=>bz (shift b x))
noncomputable def ir(W:Nat->List Way):Nat->Nat->Option (Nat×Way)
 |0,_=>none
 |n+1,s=>match W s with
  |w::_=>some (s,w)
  |[]=>ir W n (s-1)
theorem yR(W:Nat->List Way)(n s:Nat):ir W (n+1) s=match W s with|w::_=>some (s,w)|[]=>ir W n (s-1):=rfl
noncomputable def fv(E:Nat->Option Way):Nat->Nat->Option Nat
 |0,_=>none
 |n+1,s=>if(E s).isSome then some s else fv E n (s-1)
theorem vE(E:Nat->Option Way)(s:Nat):fv E 0 s=none:=rfl
theorem u5(E:Nat->Option Way)(n s:Nat):fv E (n+1) s=if(E s).isSome then some s else fv E n (s-1):=rfl
noncomputable def dO(E:Nat->Option Way):Nat->Nat
 |0=>0
 |s+1=>if(E s).isSome then dO E s else s+1
theorem yv(E:Nat->Option Way)(s:Nat):dO E (s+1)=if(E s).isSome then dO E s else s+1:=rfl
noncomputable def dP(W:Nat->List Way)(p s:Nat):Option Way:=(W s).find? fun w=>w.1==p
noncomputable def i7(W:Nat->List Way)(p bd:Nat)(g:Bool):Option (Nat×Way):=match fv (dP W p) (p+1-bd) p with
 |none=>none
 |some s=>let s':=if g then dO (dP W p) s else s
  (dP W p s').map fun w=>(s',w)
noncomputable def jh(b:Nat):Option (Nat×Way)->V
 |none=>.none
 |some (s,w)=>cT b s w
theorem zH(d:Nat)(σ:St)(e0 e1:Option V)(b:Nat)(x:Span):bV af d xT [3] false (.cst (.bool true)) [e0,e1,some (.int (b:Int)),none] (bz x) σ (some (bz (shift b x))) σ:=by
 cases x with
 |none=>exact eW 0 .z [] [] 0x0 tr
 |some x=>exact eW 0 .z [] [] 0x0 tr
theorem tf(d:Nat)(σ:St)(w:Way)(s b:Nat)(h:w.2.length<=1000):Run af (d+1) 24 [bK w,.int s,.int b] σ (cT b s w) σ:=by
 obtain⟨e,own⟩:=w;haveI hc:=bw.map own [] (fun x y_=>zH d σ (some (bK (e,own))) (some (.int (s:Int))) b x) (L9 h);haveI l1:[V.aj [.int ((s:Int)+(b:Int)),.int ((e:Int)+(b:Int))]].length+([]++own.map fun x=>bz (shift b x)).length<=1000000:=by rw[nil_append,length_map];exact Ra h
 exact ah 1 .z [] [.eI .z hc,.bin (fun y_=>aJ l1)] 0x2111 tr
theorem AE(m:Nat):dw (List.replicate m none)=.aj (List.replicate m .none):=congrArg V.aj map_replicate
theorem uP(m:Nat)(h:m<=1000)(σ:St):binop .mul σ (.aj [.none]) (.int m)=some (.aj (List.replicate m .none)):=if_pos ⟨Int.natCast_nonneg m,Int.ofNat_le.mpr h⟩
theorem mx{E:Nat->Option Way}:∀{n i s:Nat},fv E n i=some s->n<=i+1->s<=i/\i+1<=s+n/\(E s).isSome
 |0=>by intro h _;simp[vE]at h
 |n+1=>by
  intro h hn;simp only[u5]at h
  split at h
  ·simp at h;subst h;exact⟨le_refl _,Ta,by assumption⟩
  ·rename_i hq;rcases eq_zero_or_pos n with rfl|hp
   ·simp[vE]at h
   ·haveI:=mx h (Ll hn);exact⟨X7 this.1,Sa this.2.1,this.2.2⟩
theorem vw{E:Nat->Option Way}:∀{s:Nat},dO E s<=s/\((E s).isSome->(E (dO E s)).isSome)
 |0=>⟨le_refl _,id⟩
 |s+1=>by
  simp only[yv]
  split
  ·rename_i h;haveI:=vw (E:=E) (s:=s);exact⟨Q0 this.1,fun y_=>this.2 h⟩
  ·exact⟨le_refl _,id⟩
section
variable {N:Re} {ag:List Nat} {f:Bool} {m:Nat} (ht:∀c∈ag,Sg c) (hl:ag.length<=4) (hr:N.inR m) (hm:m<=100) (lO:N.wb<=100000)
include ht hl hr hm lO
theorem vD(d:Nat)(σ:St)(p s:Nat)(hd:N.need<=d)(hs:s<=100):Run af d 22 [N.v,.str (ag.take p),.int s,.aj (List.replicate m .none),.bool f] σ (.lst ((aS (ag.take p) f N s (List.replicate m none)).map bK)) σ:=by rw[<-AE];exact jm (ag.take p) f (fun c hc=>ht c (mem_of_mem_take hc)) (by simp;exact WQ hl) σ N d s _ (by simpa using hr) (by simpa using hm) lO hd hs
omit ht hl hr hm lO in
theorem kM(d:Nat)(σ:St)(p:Nat)(e0 e1 e3 e4 e5 e6 e7:Option V):∀(l acc:List Way),acc.length+l.length<=1000000->bw (bV af d y9 [8] false yD [e0,e1,some (.int (p:Int)),e3,e4,e5,e6,e7,none]) (l.map bK) (acc.map bK) σ ((acc++l.filter (fun w=>w.1==p)).map bK) σ
 |[]=>@fun acc _=>⟨by rw[filter_nil,append_nil],rfl⟩
 |w::r=>@fun acc Ge=>by
  obtain⟨e,own⟩:=w;haveI Ge:=Ge;by_cases hw:e=p
  ·haveI ih:=kM d σ p e0 e1 e3 e4 e5 e6 e7 r (acc++[(e,own)]) (Rw length_append (LR Ge));rw[map_append]at ih;rw[filter_cons_of_pos (by exact beq_iff_eq.mpr hw),append_cons];refine .some ?_ (by rw[length_map];exact MI Ge) ih;show bV af (d+0) _ _ _ _ _ (.aj [.int (e:Int),dw own]) σ (some (.aj [.int (e:Int),dw own])) σ;exact eW 0 .z [] [] 0x21 (ai (Fg hw) tr)
  ·refine Rw (filter_cons_of_neg (by exact fun h=>hw (beq_iff_eq.mp h))) (?_);refine .none ?_ (kM d σ p e0 e1 e3 e4 e5 e6 e7 r acc (JF Ge));show bV af (d+0) _ _ _ _ _ (.aj [.int (e:Int),dw own]) σ none σ;exact eW 0 .z [] [] 0x31 (ai (qU hw) tr)
theorem mE(d:Nat)(σ:St)(p s:Nat)(hd:N.need<=d)(hs:s<=100):Run af (d+1) 26 [N.v,.str ag,.int p,.int s,.int m,.bool f] σ (((dP (fun s=>aS (ag.take p) f N s (List.replicate m none)) p s).map bK).getD .none) σ:=by
 haveI h1:=vD ht hl hr hm lO d σ p s (f:=f) hd hs;haveI h2:fp (.str ag) .none (.int (p:Int))=some (.str (ag.take p)):=congrArg (Option.map V.str) (ro (K7 hl) p);haveI h3:=uP m (DK hm);haveI hwl:=du (ag.take p) f (le_trans (List.length_take_le' _ _) hl) N s (List.replicate m none);refine Rw (show dP (fun s=>aS (ag.take p) f N s (List.replicate m none)) p s=(aS (ag.take p) f N s (List.replicate m none)).find? fun w=>w.1==p from rfl) (?_);generalize aS (ag.take p) f N s (List.replicate m none)=ws at *;haveI dj:=kM d σ p (some N.v) (some (.str ag)) (some (.int (s:Int))) (some (.int (m:Int))) (some (.bool f)) (some (.lst (ws.map bK))) none ws [] (Kd lO hwl);refine Rw ((List.head?_filter ..).symm) (?_);rw[nil_append]at dj
 cases hf:ws.filter fun w=>w.1==p with
 |nil=>rw[hf]at dj;exact ah 1 .z [] [.dV h2,.bin h3,.call .z h1,.eI .z dj] 0x2221 tr
 |cons w r=>rw[hf]at dj;haveI hi:idx ((w::r).map bK) 0=some (bK w):=mG _ _;exact ah 1 .z [] [.dV h2,.bin h3,.call .z h1,.eI .z dj,.idx hi] 0x212221 tr
theorem tV(d:Nat)(σ:St)(p bd b:Nat)(hd:N.need<=d+1):∀(n i:Nat) (e7 e8:Option V),n<=i+1->i<=100->mQ fun fl z0 Aa=>cg (eU af (d+1) [7] false zp) (down i n) [some N.v,some (.str ag),some (.int p),some (.int bd),some (.int m),some (.bool f),some (.int b),e7,e8] σ fl [some N.v,some (.str ag),some (.int p),some (.int bd),some (.int m),some (.bool f),some (.int b),z0,Aa] σ/\fl=match ir (fun s=>aS (ag.take p) f N s (List.replicate m none)) n i with|none=>.next|some (s,w)=>.ret (cT b s w)
 |0=>@fun i e7 e8 _ _=>⟨_,e7,e8,.nil,rfl⟩
 |n+1=>@fun i e7 e8 hn hi=>by
  haveI h1:=vD ht hl hr hm lO (d+1) σ p i (f:=f) hd hi;haveI h2:fp (.str ag) .none (.int (p:Int))=some (.str (ag.take p)):=congrArg (Option.map V.str) (ro (K7 hl) p);haveI h3:=uP m (DK hm);simp only[yR]
  cases hw:aS (ag.take p) f N i (List.replicate m none)with
  |nil=>
   haveI h1:=hw▸h1;obtain⟨fl,z0,Aa,ih,jY⟩:=tV d σ p bd b hd n (i-1) (some (.int i)) (some (.lst [])) (Ll hn) (QX hi);refine⟨fl,z0,Aa,?_,jY⟩;refine cg.next (aG:=[some N.v,some (.str ag),some (.int p),some (.int bd),some (.int m),some (.bool f),some (.int b),some (.int i),some (.lst [])]) (ae:=σ) ?h ?k
   case h=>exact dq 1 .z [] [.dV h2,.bin h3,.call .z h1] 0x22 tr
   case k=>
    cases n with
    |zero=>exact ih
    |succ n=>exact Rw (show(i:Int)-1=((i-1:Nat):Int) by exact Qj hn) ih
  |cons w r=>have zk:idx ((w::r).map bK) 0=some (bK w):=mG _ _;refine⟨_,some (.int i),some (.lst ((w::r).map bK)),?_,rfl⟩;refine cg.ret ?h;exact dq 1 .z [] [.dV h2,.bin h3,.call .z (hw▸h1),.idx zk,.call .z (tf d σ w i b (Rw ((dp (ag.take p) f N i (List.replicate m none)) w (Rw hw mem_cons_self)) (Rw length_replicate (DK hm))))] 0x22122 tr
theorem Df(d:Nat)(σ:St)(p bd b:Nat)(hd:N.need<=d+1)(hp:p<=ag.length)(pN:bd<=p):Run af (d+2) 25 [N.v,.str ag,.int p,.int bd,.int m,.bool f,.int b] σ (jh b (ir (fun s=>aS (ag.take p) f N s (List.replicate m none)) (p+1-bd) p)) σ:=by
 refine cps fun G kG=>?_;obtain⟨fl,e7,e8,h,jY⟩:=tV ht hl hr hm lO d σ p bd b hd (p+1-bd) p none none HI (VL hl hp);refine kG ?_;haveI hs:(small (p:Int)&&small ((bd:Int)-1))=true:=Rw (cZ fA (fE (Vs hl hp))) (Rw (cZ QB (Qy hl pN hp)) rfl);rw[show p+1-bd=((p:Int)-((bd:Int)-1)).toNat by exact Zi]at h jY ⊢
 cases hb:ir (fun s=>aS (ag.take p) f N s (List.replicate m none)) ((p:Int)-((bd:Int)-1)).toNat p with
 |none=>rw[hb]at jY;obtain rfl:=Eq.symm jY;exact ah 2 .z [] [.md .z h] 0x21 (ai hs tr)
 |some w=>rw[hb]at jY;subst jY;exact ah 2 .z [] [.md .z h] 0x21 (ai hs tr)
theorem lX(d:Nat)(σ:St)(p bd b:Nat)(g:Bool)(hd:N.need<=d)(E:Nat->Option Way)(hE:E=dP (fun s=>aS (ag.take p) f N s (List.replicate m none)) p):∀(n:Nat) (i:Int),i=(bd:Int)+n-1->bd+n<=100->Wh af (d+1) zW zF [some N.v,some (.str ag),some (.int p),some (.int bd),some (.int m),some (.bool f),some (.int b),some (.bool g),some (.int i)] σ
   .next [some N.v,some (.str ag),some (.int p),some (.int bd),some (.int m),some (.bool f),some (.int b),some (.bool g),some (.int (match fv E n (bd+n-1)with|some s=>(s:Int)|none=>(bd:Int)-1))] σ
 |0=>@fun i hi hb=>by haveI hi:=Vw hi;haveI h1:¬((bd:Int)<=(bd:Int)-1):=Sz;obtain rfl:=Eq.symm hi;exact Wh.stop (br 1 .z [] [] 0x3 (ai h1 tr))
 |n+1=>@fun i hi hb=>by
  haveI jZ:=OD hi;haveI h1:bd<=bd+n:=le_add_right _ _;haveI he:=mE ht hl hr hm lO d σ p (bd+n) (f:=f) hd (JZ hb);rw[<-hE]at he;haveI ih:=lX d σ p bd b g hd E hE n (i-1) (Qt jZ) (JZ hb);subst jZ;rw[show bd+(n+1)-1=bd+n from rfl,u5]
  cases hq:E (bd+n)with
  |none=>
   haveI he:=hq▸he;have he:Run af (d+1) 26 [N.v,.str ag,.int p,.int ((bd+n:Nat):Int),.int m,.bool f] σ .none σ:=he;refine Wh.next (ae:=σ) ?h1 ?h2 ih
   case h1=>exact br 1 .z [] [.call .z he] 0x22 (ai (fE h1) tr)
   case h2=>exact bJ 1 .z [] [] 0x0 tr
  |some w=>rw[hq]at he;exact Wh.stop (br 1 .z [] [.call .z he] 0x22 (ai (fE h1) tr))
theorem mf(d:Nat)(σ:St)(p bd b:Nat)(hd:N.need<=d)(E:Nat->Option Way)(hE:E=dP (fun s=>aS (ag.take p) f N s (List.replicate m none)) p):∀s:Nat,s<=100->Wh af (d+1) sm sq [some N.v,some (.str ag),some (.int p),some (.int bd),some (.int m),some (.bool f),some (.int b),some (.bool true),some (.int s)] σ
   .next [some N.v,some (.str ag),some (.int p),some (.int bd),some (.int m),some (.bool f),some (.int b),some (.bool true),some (.int (dO E s))] σ
 |0=>@fun hs=>Wh.stop (br 1 .z [] [] 0x0 tr)
 |s+1=>@fun hs=>by
  haveI h1:=succ_pos s;haveI h2:((s+1:Nat):Int)-1=(s:Int):=JO;haveI he:=mE ht hl hr hm lO d σ p s (f:=f) hd (KH hs);rw[<-hE]at he;haveI ih:=mf d σ p bd b hd E hE s (KH hs);rw[<-h2]at he ih;rw[yv]
  cases hq:E s with
  |none=>haveI he:=hq▸he;have he:Run af (d+1) 26 [N.v,.str ag,.int p,.int (((s+1:Nat):Int)-1),.int m,.bool f] σ .none σ:=he;exact Wh.stop (br 1 .z [] [.call .z he] 0x22 (ai (gT (b:=s+1) h1) tr))
  |some w=>
   rw[hq]at he;refine Wh.next (ae:=σ) ?h1 ?h2 ih
   case h1=>exact br 1 .z [] [.call .z he] 0x22 (ai (gT (b:=s+1) h1) tr)
   case h2=>exact bJ 1 .z [] [] 0x0 tr
theorem yz(d:Nat)(σ:St)(p bd b:Nat)(g:Bool)(hd:N.need<=d)(hp:p<=ag.length)(pN:bd<=p):Run af (d+2) 27 [N.v,.str ag,.int p,.int bd,.int m,.bool f,.int b,.bool g] σ (jh b (i7 (fun s=>aS (ag.take p) f N s (List.replicate m none)) p bd g)) σ:=by
 unfold i7;generalize hE:dP (fun s=>aS (ag.take p) f N s (List.replicate m none)) p=E;haveI dj:=lX ht hl hr hm lO d σ p bd b g hd E hE.symm (p+1-bd) (p:Int) (Oj pN) (Od hl pN hp);rw[show bd+(p+1-bd)-1=p by exact KP pN]at dj
 cases hq:fv E (p+1-bd) p with
 |none=>haveI dj:=hq▸dj;dsimp only at dj;have h1:(bd:Int)-1<(bd:Int):=Ww;exact ah 2 .z [] [.cL .z dj] 0x21 (ai h1 tr)
 |some s=>
  replace dj:=hq▸dj;dsimp only at dj;haveI hs:=mx hq HI;haveI fX:=vw (E:=E) (s:=s)
  haveI JP:∀t,t<=100->(E t).isSome->∃w,E t=some w/\Run af (d+1) 26 [N.v,.str ag,.int p,.int t,.int m,.bool f] σ (bK w) σ/\Run af (d+1) 24 [bK w,.int t,.int b] σ (cT b t w) σ:=by
   intro t iE pK;haveI he:=mE ht hl hr hm lO d σ p t (f:=f) hd iE;rw[hE]at he
   cases hw:E t with
   |none=>haveI pK:=hw▸pK;exact nomatch pK
   |some w=>
    haveI he:=hw▸he;refine⟨w,rfl,he,tf d σ w t b ?_⟩
    haveI:w∈aS (ag.take p) f N t (List.replicate m none):=by rw[<-hE]at hw;exact mem_of_find?_eq_some hw
    exact Rw (dp _ _ _ _ _ _ this) (Rw length_replicate (DK hm))
  cases g
  ·obtain⟨w,w1,w2,w3⟩:=JP s (KA hl hs.1 hp) hs.2.2
   haveI nu:Wh af (d+1) sm sq [some N.v,some (.str ag),some (.int p),some (.int bd),some (.int m),some (.bool f),some (.int b),some (.bool false),some (.int s)] σ
     .next [some N.v,some (.str ag),some (.int p),some (.int bd),some (.int m),some (.bool f),some (.int b),some (.bool false),some (.int s)] σ:=Wh.stop (br 1 .z [] [] 0x0 tr)
   show Run _ _ _ _ _ (jh b ((E s).map fun w=>(s,w))) _;exact Rw w1 (ah 2 .z [] [.cL .z dj,.cL .z nu,.call .z w2,.call .z w3] 0x2231 (ai (iX (JJ hs.2.1 hs.1)) tr))
  ·obtain⟨w,w1,w2,w3⟩:=JP (dO E s) (PT hl fX.1 hp hs.1) (fX.2 hs.2.2);show Run _ _ _ _ _ (jh b ((E (dO E s)).map fun w=>(dO E s,w))) _;exact Rw w1 (ah 2 .z [] [.cL .z dj,.cL .z (mf ht hl hr hm lO d σ p bd b hd E hE.symm s (KA hl hs.1 hp)),.call .z w2,.call .z w3] 0x2231 (ai (iX (JJ hs.2.1 hs.1)) tr))
end
end
inductive Gn:Re->Nat->List Nat->Nat->List Nat->Prop where
 |atom (a:Atom) (g:Nat) (cl:List Nat):Gn (.atom a) g cl g cl
 |again (k g:Nat) (cl:List Nat) (h:k∈cl):Gn (.again k) g cl g cl
 |either {a b:Re} {g g1 g2:Nat} {cl eN wF:List Nat} (h1:Gn a g cl g1 eN) (h2:Gn b g1 eN g2 wF):Gn (.either a b) g cl g2 wF
 |both {a b:Re} {g g1 g2:Nat} {cl eN wF:List Nat} (h1:Gn a g cl g1 eN) (h2:Gn b g1 eN g2 wF):Gn (.both a b) g cl g2 wF
 |ba (q:Qn) (a:Atom) (g:Nat) (cl:List Nat):Gn (.ba q a) g cl g cl
 |group {a:Re} {g g1:Nat} {cl eN:List Nat} (h1:Gn a (g+1) cl g1 eN):Gn (.group (g+1) a) g cl g1 (eN++[g+1])
noncomputable def hp(cells:List Int)(c g:Nat)(cl:List Nat):St:=[.list [.lst (cells.map .int),.int c],.list (cl.map fun k:Nat=>.int k),.list [.int g,.loc 1]]
def Cl(g:Nat)(cl:List Nat):Prop:=∀k∈cl,1<=k/\k<=g
theorem ji(d:Nat)(cells:List Int)(c g:Nat)(cl:List Nat)(m:Int)(hc:c<=1000)(hl:cells.length<=40)(hm:0<m):∃k:Int,0<=k/\k<m/\Run af (d+1) 17 [.loc 0,.int m] (hp cells c g cl) (.int k) (hp cells (c+1) g cl):=oS d (hp cells c g cl) 0 cells c m rfl hc hl hm
theorem zU(d:Nat)(cells:List Int)(c g:Nat)(cl:List Nat)(hc:c<=1000)(hl:cells.length<=40):∃a:Atom,Run af (d+2) 18 [.loc 0] (hp cells c g cl) (.aj [a.v,.str a.pat]) (hp cells (c+1) g cl):=by
 obtain⟨k,h0,h1,h⟩:=ji d cells c g cl 6 hc hl (by decide);rcases(IQ h0 h1)with rfl|rfl|rfl|rfl|rfl|rfl
 ·exact⟨.ca,ah 2 .z [] [.call .z h] 0x21 tr⟩
 ·exact⟨.cb,ah 2 .z [] [.call .z h] 0x21 tr⟩
 ·exact⟨.cA,ah 2 .z [] [.call .z h] 0x21 tr⟩
 ·exact⟨.any,ah 2 .z [] [.call .z h] 0x21 tr⟩
 ·exact⟨.Bd,ah 2 .z [] [.call .z h] 0x21 tr⟩
 ·exact⟨.su,ah 2 .z [] [.call .z h] 0x21 tr⟩
noncomputable def cB:Nat->Nat|0=>1|1=>3|_=>7
noncomputable def gB:Nat->Nat|0=>0|1=>1|_=>3
noncomputable def pB:Nat->Nat|0=>5|1=>18|_=>44
def NodeOk(D:Nat):Prop:=∀(d:Nat) (cells:List Int) (c g:Nat) (cl:List Nat),c+cB D+2<=1000->cells.length<=40->g+gB D<=4->Cl g cl->cl.length+gB D<=4->qX fun(N:Re) (c' g':Nat) (fL:List Nat)=>GQ (Gn N g cl g' fL) (N.dep<=D) (N.pat.length<=pB D) (c'<=c+cB D) (g<=g'/\g'<=g+gB D/\fL.length<=cl.length+gB D) (Cl g' fL)
   (Run af (d+3+D) 19 [.loc 0,.int D,.loc 2] (hp cells c g cl) (.aj [N.v,.str N.pat]) (hp cells c' g' fL))
theorem CF(d:Nat)(cells:List Int)(c g:Nat)(cl:List Nat)(hc:c<=1000)(hl:cells.length<=40):∃a:Atom,Run af (d+3) 19 [.loc 0,.int ((0:Nat):Int),.loc 2] (hp cells c g cl) (.aj [a.v,.str a.pat]) (hp cells (c+1) g cl):=by refine(zU d cells c g cl hc hl).elim fun a h=>⟨a,?_⟩;exact ah 3 .z [] [.call .z h] 0x21111 tr
theorem Me:NodeOk 0:=by intro d cells c g cl hc hl hg dE rM;refine(CF d cells c g cl (J2 hc) hl).elim fun a h=>⟨.atom a,c+1,g,cl,.atom a g cl,le_refl _,by cases a<;>decide,(le_refl _),⟨Un,CT,CT⟩,dE,h⟩
theorem ID(σ:St)(k:Nat)(h:k<10):gU .str σ (.int (k:Int))=some (.str [48+k]):=(if_pos (Po h):(if 0<=(k:Int)/\(k:Int)<10 then some (V.str [48+(k:Int).toNat])else none)=_)
theorem Cl.le{g:Nat}{cl:List Nat}(h:Cl g cl){k:Nat}(hk:k∈cl):1<=k/\k<=g:=h k hk
theorem Fb(D:Nat)(hD:D=0\/D=1)(ih:NodeOk D):NodeOk (D+1):=by
 intro d cells c g cl hc hl hg dE rM;have kA:cB (D+1)=1+2*cB D:=by rcases hD with rfl|rfl<;>rfl
 have mB:gB (D+1)=1+2*gB D:=by rcases hD with rfl|rfl<;>rfl
 have iW:2*pB D+8<=pB (D+1)/\17<=pB (D+1)/\pB D<=18:=by rcases hD with rfl|rfl<;>decide
 have HH:1<=cB D:=by rcases hD with rfl|rfl<;>decide
 have z8:(0:Int)<((D+1:Nat):Int):=ND;haveI LB:((D+1:Nat):Int)-1=(D:Int):=JO
 have hD2:(if((D+1:Nat):Int)-2<0 then(0:Int)else((D+1:Nat):Int)-2)=((0:Nat):Int):=by rcases hD with rfl|rfl<;>rfl
 haveI hd3:d+3+(D+1)=d+3+D+1:=Yf
 have draws:∀(c g:Nat) (cl:List Nat) (m:Int),c<=1000->0<m->∃k:Int,0<=k/\k<m/\Run af (d+3+D) 17 [.loc 0,.int m] (hp cells c g cl) (.int k) (hp cells (c+1) g cl):=by intro c g cl m hc hm;haveI:=ji (d+2+D) cells c g cl m hc hl hm;rwa [show d+2+D+1=d+3+D by exact UJ]at this
 obtain⟨k,h0,h1,h⟩:=draws c g cl 8 (J2 hc) R4;refine Rw hd3 (?_);haveI hk:=Tn h0 h1
 haveI H9:∃a:Atom,Run af (d+3+D) 18 [.loc 0] (hp cells (c+1) g cl) (.aj [a.v,.str a.pat]) (hp cells (c+1+1) g cl):=by haveI:=zU (d+1+D) cells (c+1) g cl (MZ hc) hl;rwa [show d+1+D+2=d+3+D by exact W9]at this
 obtain⟨a,H9⟩:=H9;have Gp:a.pat.length<=4:=by cases a<;>decide
 have e2:∀c g cl,(hp cells c g cl)[2]?=some (.list [.int g,.loc 1]):=fun y_ y_ y_=>rfl;haveI e1:∀c g cl,(hp cells c g cl)[1]?=some (.list (cl.map fun k:Nat=>.int k)):=fun y_ y_ y_=>rfl;rcases hk with rfl|rfl|rfl|rfl|hk|hk
 ·refine⟨.atom a,c+1+1,g,cl,.atom a g cl,zero_le _,?_,?_,⟨le_refl _,le_add_right _ _,le_add_right _ _⟩,dE,?_⟩
  ·exact Jq iW.2.1 Gp
  ·exact M4 HH kA
  exact ah 1 .z [] [.call .z h,.call .z H9] 0x211221 (ai z8 tr)
 ·by_cases Ht:cl=[]
  ·subst Ht;refine⟨.atom a,c+1+1,g,[],.atom a g [],zero_le _,?_,?_,⟨le_refl _,le_add_right _ _,le_add_right _ _⟩,dE,?_⟩
   ·exact Jq iW.2.1 Gp
   ·exact M4 HH kA
   exact ah 1 .z [.of (e2 (c+1) (g) ([]))] [.call .z h,.call .z H9] 0x211111221 (ai z8 tr)
  ·have lS:(cl.map fun k:Nat=>V.int k).isEmpty=false:=by simpa using Ht
   have OV:=length_pos_iff.mpr Ht;have MU:(cl.map fun k:Nat=>V.int k).length=cl.length:=by simp
   refine cps fun G kG=>?_;obtain⟨j,j0,j1,hj⟩:=draws (c+1) g cl ((cl.map fun k:Nat=>V.int k).length:Int) (MZ hc) (Yy OV MU);obtain⟨j,rfl⟩:∃j':Nat,j=(j':Int):=⟨j.toNat,Fc j0⟩;refine kG ?_;have EZ:=NM j1 MU
   have LW:idx (cl.map fun k:Nat=>V.int k) (j:Int)=some (.int (cl[j]:Nat)):=by refine Rw (kI _ _ (IS j1) (Uy rM EZ)) (?_);simp[getElem?_eq_getElem EZ]
   have zh:=getElem_mem EZ;have hb:=dE.le zh;have Zh:=PR rM MU;have Zo:(cl.map fun k:Nat=>V.int k)≠[]:=fun e=>Ht (List.map_eq_nil_iff.mp e);have Ut:=fun σ=>ID σ cl[j] (QV hg hb.2);have l2:[92].length+[48+cl[j]].length<=1000000:=(le_add_left _ _);refine⟨.again cl[j],c+1+1,g,cl,.again _ g cl zh,zero_le _,?_,?_,⟨le_refl _,le_add_right _ _,le_add_right _ _⟩,dE,?_⟩
   ·exact Tx iW.2.1
   ·exact M4 HH kA
   exact ah 1 .z [.of (e2 (c+1) (g) (cl)),.of (e1 (c+1) (g) (cl)),.of (e1 (c+1+1) (g) (cl))] [.call .z h,.call .z hj,.idx LW,.b1 Ut,.bin (fun y_=>cC l2)] 0x2232211113241111221 (ai z8 (ai Zo (ai Zh tr)))
 ·obtain⟨A,c1,g1,eN,G1,D1,P1,C1,B1,L1,r1⟩:=ih d cells (c+1) g cl (Ln hc kA) hl (Ex hg mB) dE (Ex rM mB);obtain⟨B,c2,g2,wF,G2,D2,P2,C2,B2,L2,r2⟩:=ih d cells c1 g1 eN (I2 hc kA C1) hl (Im hg mB B1.2.1) L1 (Im rM mB B1.2.2);haveI l1:[92,40,63,58].length+A.pat.length<=1000000:=by simp;exact N2 iW.2.2 P1
  haveI l2:([92,40,63,58]++A.pat).length+[92,124].length<=1000000:=by simp;exact Pn iW.2.2 P1
  haveI l3:([92,40,63,58]++A.pat++[92,124]).length+B.pat.length<=1000000:=by simp;exact Ov iW.2.2 P2 P1
  haveI l4:([92,40,63,58]++A.pat++[92,124]++B.pat).length+[92,41].length<=1000000:=by simp;exact P7 iW.2.2 P2 P1
  refine⟨.either A B,c2,g2,wF,.either G1 G2,?_,?_,?_,?_,L2,?_⟩
  ·exact I1 D2 D1
  ·simp only[Re.lx,length_append,length_nil];exact V0 iW.1 P2 P1
  ·exact JW kA C1 C2
  ·exact Je mB B1.1 B2.1 B2.2.2 B1.2.2 B1.2.1 B2.2.1
  rw[<-LB]at r1 r2;exact ah 1 .z [] [.call .z h,.call .z r1,.call .z r2,.bin (fun y_=>cC l1),.bin (fun y_=>cC l2),.bin (fun y_=>cC l3),.bin (fun y_=>cC l4)] 0x2211221 (ai z8 tr)
 ·obtain⟨A,c1,g1,eN,G1,D1,P1,C1,B1,L1,r1⟩:=ih d cells (c+1) (g+1) cl (Ln hc kA) hl (QY hg mB) (fun k hk=>by haveI:=dE k hk;exact Ho this.1 this.2) (Ex rM mB);have s2:∀c,(hp cells c g cl).set 2 (.list [.int ((g:Int)+1),.loc 1])=hp cells c (g+1) cl:=fun c=>rfl;have s1:(hp cells c1 g1 eN).set 1 (.list (eN.map (fun k:Nat=>V.int k)++[.int ((g+1:Nat):Int)]))=hp cells c1 g1 (eN++[g+1]):=by simp[hp]
  have l1:[92,40].length+A.pat.length<=1000000:=by simp;exact SP iW.2.2 P1
  have l2:([92,40]++A.pat).length+[92,41].length<=1000000:=by simp;exact Ya iW.2.2 P1
  haveI l3:(eN.map fun k:Nat=>V.int k).length<1000000:=by simp;exact W2 rM mB B1.2.2
  refine⟨.group (g+1) A,c1,g1,eN++[g+1],.group G1,?_,?_,KO kA C1,⟨Mu B1.1,KO mB B1.2.1,?_⟩,?_,?_⟩
  ·exact Pu D1
  ·simp only[Re.lF,length_append,length_nil];exact Wn iW.1 P1
  ·simp only[length_append,length_cons,length_nil];exact VH mB B1.2.2
  ·intro k hk;rw[mem_append]at hk;refine Or.elim hk (fun hk=>?_) fun hk=>?_
   ·exact L1 k hk
   ·simp at hk;exact Sw B1.1 hk
  haveI r1:=LB.symm▸r1;exact Lw s1 (ah 1 .z [.of (e2 (c+1) (g) (cl)),.of (e2 (c1) (g1) (eN)),.of (e1 (c1) (g1) (eN))] [.call .z h,.call .z r1,.bin (fun y_=>cC l1),.bin (fun y_=>cC l2)] 0x3331221111111111221 (ai z8 (ai l3 tr)))
 ·haveI xq:=Tf hk.1 hk.2;refine((show d+D+3=d+3+D by exact RB)▸(CF (d+D) cells (c+1) g cl (MZ hc) hl)).elim fun b hb=>?_;rw[<-hD2]at hb;have wW:b.pat.length<=4:=by cases b<;>decide
  obtain⟨j,j0,j1,hj⟩:=draws (c+1+1) g cl 6 (V5 hc) U6
  haveI Y3:∃q:Qn,idx [V.aj [.int 0,.int (-1),.bool true,.str [42]],.aj [.int 1,.int (-1),.bool true,.str [43]],.aj [.int 0,.int 1,.bool true,.str [63]],.aj [.int 0,.int (-1),.bool false,.str [42,63]],.aj [.int 1,.int 2,.bool true,.str [92,123,49,44,50,92,125]],.aj [.int 2,.int (-1),.bool true,.str [92,123,50,44,92,125]]] j=some (.aj [.int q.least,.int q.most,.bool q.bS,.str q.txt]):=by
   rcases(IQ j0 j1)with rfl|rfl|rfl|rfl|rfl|rfl
   ·exact⟨.star,rfl⟩
   ·exact⟨.plus,rfl⟩
   ·exact⟨.opt,rfl⟩
   ·exact⟨.lazy,rfl⟩
   ·exact⟨.sX,rfl⟩
   ·exact⟨.two,rfl⟩
  refine Y3.elim fun q hq=>?_;have UZ:q.txt.length<=7:=by cases q<;>decide
  have l1:[92,40,63,58].length+b.pat.length<=1000000:=by simp;exact Xu wW
  haveI l2:([92,40,63,58]++b.pat).length+[92,41].length<=1000000:=by simp;exact X1 wW
  haveI l3:([92,40,63,58]++b.pat++[92,41]).length+q.txt.length<=1000000:=by simp;exact SH wW UZ
  refine⟨.ba q b,c+1+1+1,g,cl,.ba q b g cl,zero_le _,?_,QU HH kA,⟨le_refl _,le_add_right _ _,le_add_right _ _⟩,dE,?_⟩
  ·simp only[Re.lE,length_append,length_nil];exact Xk iW.2.1 wW UZ
  exact ah 1 .z [] [.call .z h,.call .z hb,.call .z hj,.idx hq,.bin (fun y_=>cC l1),.bin (fun y_=>cC l2),.bin (fun y_=>cC l3)] 0x2222333221 (ai z8 (ai xq.1 (ai xq.2.1 (ai xq.2.2.1 (ai xq.2.2.2 tr)))))
 ·haveI xq:=YD hk.1;obtain⟨A,c1,g1,eN,G1,D1,P1,C1,B1,L1,r1⟩:=ih d cells (c+1) g cl (Ln hc kA) hl (Ex hg mB) dE (Ex rM mB);obtain⟨B,c2,g2,wF,G2,D2,P2,C2,B2,L2,r2⟩:=ih d cells c1 g1 eN (I2 hc kA C1) hl (Im hg mB B1.2.1) L1 (Im rM mB B1.2.2);have l1:=VU iW.2.2 P2 P1;refine⟨.both A B,c2,g2,wF,.both G1 G2,?_,?_,JW kA C1 C2,Je mB B1.1 B2.1 B2.2.2 B1.2.2 B1.2.1 B2.2.1,L2,?_⟩
  ·exact I1 D2 D1
  ·simp only[Re.jw,length_append];exact Py iW.1 P2 P1
  rw[<-LB]at r1 r2;exact ah 1 .z [] [.call .z h,.call .z r1,.call .z r2,.bin (fun y_=>cC l1)] 0x223333221 (ai z8 (ai xq.1 (ai xq.2.1 (ai xq.2.2.1 (ai xq.2.2.2 tr)))))
section
def Ext(U σ:St):Prop:=∀(i:Nat) (o:O),U[i]?=some o->σ[i]?=some o
theorem Ext.nP{σ:St}:Ext σ σ:=fun y_ y_ h=>h
theorem Ext.trans{a b c:St}(h:Ext a b)(h':Ext b c):Ext a c:=fun i o e=>h' i o (h i o e)
theorem Ext.app{U σ τ:St}(h:Ext U σ):Ext U (σ++τ):=fun i o e=>Rw (aO (aH (h i o e))) (h i o e)
theorem Ext.set{U σ:St}{n:Nat}{o:O}(h:Ext U σ)(hn:U.length<=n):Ext U (σ.set n o):=fun i o' e=>Rw (au (XX (aH e) hn)) (h i o' e)
theorem Ext.len{U σ:St}(h:Ext U σ):U.length<=σ.length:=by
 refine Or.elim (eq_zero_or_pos U.length) (fun h0=>?_) fun h0=>?_
 ·exact Ys h0
 ·haveI:=IT h0;exact Uk (aH (h (U.length-1) U[U.length-1] (by simp)))
noncomputable def cv(aa:List Nat):List V:=aa.map fun c:Nat=>.int c
structure PF where
 word:List Nat
 num:Nat
 done:List V
 nodes:List V
 loose:Bool
structure FL where
 f:PF
 a:Nat
 D:Nat
 N:Nat
noncomputable def zy(f:PF)(D N:Nat):O:=.inst 0 [(9,.str f.word),(10,.int f.num),(11,.loc D),(12,.loc N),(13,.bool f.loose)]
structure qc(σ:St)(l:FL):Prop where
 ha:σ[l.a]?=some (zy l.f l.D l.N)
 hD:σ[l.D]?=some (.list l.f.done)
 hN:σ[l.N]?=some (.list l.f.nodes)
theorem qc.mono{σ ab:St}{l:FL}(h:qc σ l)(h':∀x,x=l.a\/x=l.D\/x=l.N->ab[x]?=σ[x]?):qc ab l:=⟨(h' _ (.inl rfl)).trans h.ha,(h' _ (.inr (.inl rfl))).trans h.hD,(h' _ (.inr (.inr rfl))).trans h.hN⟩
noncomputable def pO(aa:List Nat)(pl F gr:Nat):O:=.inst 1 [(14,.lst (cv aa)),(15,.int pl),(16,.loc F),(1,.int gr)]
noncomputable def FL.iz(l:FL):List Nat:=[l.a,l.D,l.N]
structure bb(U σ:St)(P F:Nat)(aa:List Nat)(pl gr:Nat)(lo:List FL)(tp:FL):Prop where
 hP:σ[P]?=some (pO aa pl F gr)
 hF:σ[F]?=some (.list (lo.map (fun l=>.loc l.a)++[.loc tp.a]))
 hL:∀l∈lo,qc σ l
 hT:qc σ tp
 nd:(P::F::tp.a::tp.D::tp.N::lo.flatMap FL.iz).Nodup
 lb:∀x∈(P::F::tp.a::tp.D::tp.N::lo.flatMap FL.iz),U.length<=x
 ext:Ext U σ
section
variable {U σ:St} {P F:Nat} {aa:List Nat} {pl gr:Nat} {lo:List FL} {tp:FL}
structure Apart(P F:Nat)(tp:FL):Prop where
 PF:P≠F
 Pa:P≠tp.a
 PD:P≠tp.D
 PN:P≠tp.N
 Fa:F≠tp.a
 FD:F≠tp.D
 FN:F≠tp.N
 aD:tp.a≠tp.D
 aN:tp.a≠tp.N
 DN:tp.D≠tp.N
theorem bb.apart(p:bb U σ P F aa pl gr lo tp):Apart P F tp:=by haveI:=p.nd;simp only[nodup_cons,mem_cons,not_or]at this;refine cps fun G kG=>?_;obtain⟨⟨h1,h2,h3,h4,_⟩,⟨h5,h6,h7,_⟩,⟨h8,h9,_⟩,⟨H0,_⟩,_⟩:=this;exact kG ⟨h1,h2,h3,h4,h5,h6,h7,h8,h9,H0⟩
theorem bb.low(p:bb U σ P F aa pl gr lo tp){l:FL}(hl:l∈lo){x:Nat}(hx:x=l.a\/x=l.D\/x=l.N):P≠x/\F≠x/\tp.a≠x/\tp.D≠x/\tp.N≠x/\x<σ.length:=by
 haveI:=p.nd;simp only[nodup_cons,mem_cons,not_or]at this;refine cps fun G kG=>?_;obtain⟨⟨_,_,_,_,h1⟩,⟨_,_,_,h2⟩,⟨_,_,h3⟩,⟨_,h4⟩,h5,_⟩:=this;refine kG ?_;have hm:x∈lo.flatMap FL.iz:=mem_flatMap.mpr ⟨l,hl,by simp[FL.iz];exact hx⟩
 haveI cR:x<σ.length:=by
  rcases hx with rfl|rfl|rfl
  ·exact aH (p.hL l hl).ha
  ·exact aH (p.hL l hl).hD
  ·exact aH (p.hL l hl).hN
 exact⟨fun e=>h1 (e▸hm),fun e=>h2 (e▸hm),fun e=>h3 (e▸hm),fun e=>h4 (e▸hm),fun e=>h5 (e▸hm),cR⟩
theorem bb.jO(p:bb U σ P F aa pl gr lo tp)(Xi lP:Nat):bb U (σ.set P (pO aa Xi F lP)) P F aa Xi lP lo tp:=by
 have A:=p.apart;refine⟨aV (aH p.hP),(au A.PF).trans p.hF,fun l hl=>(p.hL l hl).mono fun x hx=>au (p.low hl hx).1,?_,p.nd,p.lb,p.ext.set (p.lb P mem_cons_self)⟩;refine p.hT.mono fun x hx=>au ?_;rcases hx with rfl|rfl|rfl
 ·exact A.Pa
 ·exact A.PD
 ·exact A.PN
theorem bb.mem(p:bb U σ P F aa pl gr lo tp):U.length<=P/\U.length<=F/\U.length<=tp.a/\U.length<=tp.D/\U.length<=tp.N:=⟨p.lb _ (by simp),p.lb _ (by simp),p.lb _ (by simp),p.lb _ (by simp),p.lb _ (by simp)⟩
theorem bb.ES(p:bb U σ P F aa pl gr lo tp)(ns:List V):bb U (σ.set tp.N (.list ns)) P F aa pl gr lo ⟨{tp.f with nodes:=ns},tp.a,tp.D,tp.N⟩:=by haveI A:=p.apart;refine⟨(au A.PN.symm).trans p.hP,(au A.FN.symm).trans p.hF,fun l hl=>(p.hL l hl).mono fun x hx=>au (p.low hl hx).2.2.2.2.1,?_,p.nd,p.lb,p.ext.set p.mem.2.2.2.2⟩;exact⟨(au A.aN.symm).trans p.hT.ha,(au A.DN.symm).trans p.hT.hD,aV (aH p.hT.hN)⟩
theorem bb.EX(p:bb U σ P F aa pl gr lo tp)(ns:List V):bb U (σ.set tp.D (.list ns)) P F aa pl gr lo ⟨{tp.f with done:=ns},tp.a,tp.D,tp.N⟩:=by haveI A:=p.apart;refine⟨(au A.PD.symm).trans p.hP,(au A.FD.symm).trans p.hF,fun l hl=>(p.hL l hl).mono fun x hx=>au (p.low hl hx).2.2.2.1,?_,p.nd,p.lb,p.ext.set p.mem.2.2.2.1⟩;exact⟨(au A.aD.symm).trans p.hT.ha,aV (aH p.hT.hD),(au A.DN).trans p.hT.hN⟩
theorem bb.JX(p:bb U σ P F aa pl gr lo tp)(b:Bool):bb U (σ.set tp.a (zy {tp.f with loose:=b} tp.D tp.N)) P F aa pl gr lo ⟨{tp.f with loose:=b},tp.a,tp.D,tp.N⟩:=by haveI A:=p.apart;refine⟨(au A.Pa.symm).trans p.hP,(au A.Fa.symm).trans p.hF,fun l hl=>(p.hL l hl).mono fun x hx=>au (p.low hl hx).2.2.1,?_,p.nd,p.lb,p.ext.set p.mem.2.2.1⟩;exact⟨aV (aH p.hT.ha),(au A.aD).trans p.hT.hD,(au A.aN).trans p.hT.hN⟩
theorem bb.vV(p:bb U σ P F aa pl gr lo tp):∀x∈(P::F::tp.a::tp.D::tp.N::lo.flatMap FL.iz),x<σ.length:=by
 intro x hx;simp only[mem_cons,mem_flatMap]at hx;rcases hx with rfl|rfl|rfl|rfl|rfl|⟨l,hl,hx⟩
 ·exact aH p.hP
 ·exact aH p.hF
 ·exact aH p.hT.ha
 ·exact aH p.hT.hD
 ·exact aH p.hT.hN
 ·refine(p.low hl ?_).2.2.2.2.2;simpa[FL.iz]using hx
theorem bb.XK(p:bb U σ P F aa pl gr lo tp):bb U ((σ++[O.list []]).set tp.a (zy {tp.f with nodes:=[],loose:=tp.f.loose} tp.D σ.length)) P F aa pl gr lo ⟨{tp.f with nodes:=[]},tp.a,tp.D,σ.length⟩:=by
 haveI A:=p.apart;have L:=p.vV;have gP:=L P (by simp);have gF:=L F (by simp);have ga:=L tp.a (by simp);have gD:=L tp.D (by simp);refine⟨(au A.Pa.symm).trans ((aO gP).trans p.hP),(au A.Fa.symm).trans ((aO gF).trans p.hF),?_,?_,?_,?_,p.ext.app.set p.mem.2.2.1⟩
 ·intro l hl;refine(p.hL l hl).mono fun x hx=>?_;haveI:=p.low hl hx;exact(au this.2.2.1).trans (aO this.2.2.2.2.2)
 ·exact⟨aV (by simp;exact SS ga),(au A.aD).trans ((aO gD).trans p.hT.hD),(au (Q5 ga)).trans ou⟩
 ·have Dd:=p.nd;have UX:σ.length∉lo.flatMap FL.iz:=fun h=>XH (L σ.length (by right;right;right;right;right;exact h));simp only[nodup_cons,mem_cons,not_or]at Dd ⊢;refine cps fun G kG=>?_;obtain⟨⟨h1,h2,h3,h4,h5⟩,⟨h6,h7,h8,h9⟩,⟨H0,h11,Zk⟩,⟨h13,Z7⟩,h15,Z8⟩:=Dd;exact kG ⟨⟨h1,h2,h3,Q5 gP,h5⟩,⟨h6,h7,Q5 gF,h9⟩,⟨H0,Q5 ga,Zk⟩,⟨Q5 gD,Z7⟩,UX,Z8⟩
 ·intro x hx;simp only[mem_cons]at hx;rcases hx with rfl|rfl|rfl|rfl|rfl|hx
  ·exact p.lb _ (by simp)
  ·exact p.lb _ (by simp)
  ·exact p.lb _ (by simp)
  ·exact p.lb _ (by simp)
  ·exact p.ext.len
  ·exact p.lb x (by right;right;right;right;right;exact hx)
theorem UU{σ:St}{a b c:O}:σ++[a]++[b]++[c]=σ++[a,b,c]:=by rw[append_assoc,append_assoc];rfl
theorem bb.push(p:bb U σ P F aa pl gr lo tp)(f:PF)(hd:f.done=[])(hn:f.nodes=[]):bb U ((σ++[zy f (σ.length+1) (σ.length+2)]++[O.list []]++[O.list []]).set F (O.list (lo.map (fun l=>V.loc l.a)++[V.loc tp.a]++[V.loc σ.length]))) P F aa pl gr (lo++[tp]) ⟨f,σ.length,σ.length+1,σ.length+2⟩:=by
 have A:=p.apart;have L:=p.vV;have gP:=L P (by simp);have gF:=L F (by simp);haveI n2:F≠σ.length+2:=LV gF;refine Rw UU ⟨(au A.PF.symm).trans ((aO gP).trans p.hP),?_,?_,?_,?_,?_,p.ext.app.set p.mem.2.1⟩
 ·refine Rw (aV (by simp;exact X6 gF)) (?_);simp
 ·intro l hl;rw[mem_append]at hl;rcases hl with hl|hl
  ·refine(p.hL l hl).mono fun x hx=>?_;haveI:=p.low hl hx;exact(au this.2.1).trans (aO this.2.2.2.2.2)
  ·simp at hl;obtain rfl:=Eq.symm hl;refine p.hT.mono fun x hx=>?_
   haveI ha:F≠x/\x<σ.length:=by
    rcases hx with rfl|rfl|rfl
    ·exact⟨A.Fa,L _ (by simp)⟩
    ·exact⟨A.FD,L _ (by simp)⟩
    ·exact⟨A.FN,L _ (by simp)⟩
   exact(au ha.1).trans (aO ha.2)
 ·refine⟨(au (Q5 gF)).trans ?_,(au (HY gF)).trans ?_,(au n2).trans ?_⟩
  ·simp
  ·refine Rw (getElem?_append_right U0) (?_);simp[hd]
  ·refine Rw (getElem?_append_right WV) (?_);simp[hn]
 ·haveI jY:(lo++[tp]).flatMap FL.iz=lo.flatMap FL.iz++[tp.a,tp.D,tp.N]:=by simp[FL.iz]
  refine Rw jY (?_);haveI Cf:(P::F::lo.flatMap FL.iz++[tp.a,tp.D,tp.N]).Perm (P::F::tp.a::tp.D::tp.N::lo.flatMap FL.iz):=List.Perm.cons _ (List.Perm.cons _ perm_append_comm);haveI zD:=Cf.symm.nodup p.nd;haveI JG:∀x∈(P::F::lo.flatMap FL.iz++[tp.a,tp.D,tp.N]),x<σ.length:=fun x hx=>L x (Cf.subset hx);simp only[cons_append,nodup_cons,mem_cons,not_or]at zD JG ⊢;haveI q1:∀k,σ.length+k∉lo.flatMap FL.iz++[tp.a,tp.D,tp.N]:=fun k h=>XZ (JG _ (.inr (.inr h)));exact⟨⟨zD.1.1,Q5 gP,HY gP,LV gP,zD.1.2⟩,⟨VV (Q5 gF),QF (HY gF),N9 n2,zD.2.1⟩,⟨M1,LO,q1 0⟩,⟨Q8,q1 1⟩,q1 2,zD.2.2⟩
 ·haveI ui:=p.ext.len;intro x hx;simp only[mem_cons,flatMap_append,mem_append,flatMap_cons,flatMap_nil,append_nil,FL.iz,not_mem_nil,or_false]at hx;rcases hx with rfl|rfl|rfl|rfl|rfl|hx|rfl|rfl|rfl
  ·exact p.lb _ (by simp)
  ·exact p.lb _ (by simp)
  ·exact ui
  ·exact Q0 ui
  ·exact KV ui
  ·exact p.lb x (by right;right;right;right;right;exact hx)
  ·exact p.lb _ (by simp)
  ·exact p.lb _ (by simp)
  ·exact p.lb _ (by simp)
theorem bb.pop{pr:FL}(p:bb U σ P F aa pl gr (lo++[pr]) tp):bb U (σ.set F (.list (lo.map (fun l=>.loc l.a)++[.loc pr.a]))) P F aa pl gr lo pr:=by
 have A:=p.apart;have DE:pr∈lo++[pr]:=by simp
 refine⟨(au A.PF.symm).trans p.hP,aV (aH p.hF),?_,?_,?_,?_,p.ext.set p.mem.2.1⟩
 ·intro l hl;exact(p.hL l (by simp[hl])).mono fun x hx=>au (p.low (by simp[hl]) hx).2.1
 ·exact(p.hL pr DE).mono fun x hx=>au (p.low DE hx).2.1
 ·haveI jY:(lo++[pr]).flatMap FL.iz=lo.flatMap FL.iz++[pr.a,pr.D,pr.N]:=by simp[FL.iz]
  haveI Oq:(P::F::(lo.flatMap FL.iz++[pr.a,pr.D,pr.N])).Sublist (P::F::tp.a::tp.D::tp.N::(lo.flatMap FL.iz++[pr.a,pr.D,pr.N])):=List.Sublist.cons_cons _ (List.Sublist.cons_cons _ (((List.Sublist.refl _).cons _).cons _ |>.cons _));haveI Cf:(P::F::(lo.flatMap FL.iz++[pr.a,pr.D,pr.N])).Perm (P::F::pr.a::pr.D::pr.N::lo.flatMap FL.iz):=List.Perm.cons _ (List.Perm.cons _ perm_append_comm);exact Cf.nodup (Oq.nodup (jY▸p.nd))
 ·intro x hx;refine p.lb x ?_;simp only[mem_cons,flatMap_append,mem_append,flatMap_cons,flatMap_nil,append_nil,FL.iz,not_mem_nil,or_false]at hx ⊢;rcases hx with rfl|rfl|rfl|rfl|rfl|hx
  ·simp
  ·simp
  ·simp
  ·simp
  ·simp
  ·right;right;right;right;right;left;exact hx
end
end
section
noncomputable def sgn(aa:List Nat)(pl:Nat):List Nat:=match aa[pl]? with|some c=>[c]|none=>[]
theorem DC{aa:List Nat}{pl:Nat}(h:aa[pl]?=none):sgn aa pl=[]:=by unfold sgn;exact Rw h rfl
theorem dt{aa:List Nat}{pl c:Nat}(h:aa[pl]?=some c):sgn aa pl=[c]:=by unfold sgn;exact Rw h rfl
structure Cd(aa:List Nat):Prop where
 lt:∀c∈aa,c<128
 len:aa.length<=1000
theorem bF(aa:List Nat):(cv aa).length=aa.length:=by simp[cv]
theorem Cd.idx{aa:List Nat}(h:Cd aa){pl:Nat}{c:Nat}(hc:aa[pl]?=some c):Internal.idx (cv aa) (pl:Int)=some (.int c)/\pl<aa.length/\c<128:=by haveI hl:=(List.getElem?_eq_some_iff.mp hc).1;refine⟨?_,hl,h.lt c (List.mem_of_getElem? hc)⟩;refine Rw (kI _ _ (by rw[bF];exact hl) (J6 hl h.len)) (?_);simp[cv,hc]
theorem Cm(σ:St)(c:Nat)(h:c<128):gU .chr σ (.int (c:Int))=some (.str [c]):=(if_pos (SX h):(if 0<=(c:Int)/\(c:Int)<128 then some (V.str [(c:Int).toNat])else none)=_)
theorem bX(d:Nat)(σ:St)(aa:List Nat)(pl:Nat)(h:Cd aa):Run af (d+1) 7 [.lst (cv aa),.int pl] σ (.str (sgn aa pl)) σ:=by
 haveI dE:=bF aa
 cases hc:aa[pl]? with
 |none=>
  haveI DA:aa.length<=pl:=by simpa using hc
  haveI h1:(cv aa).length<=pl:=Rw dE DA;exact Rw (DC hc) (ah 1 .z [] [] 0x31 (ai (Q1 dE h.len) (ai (iX h1) tr)))
 |some c=>haveI oo:=h.idx hc;haveI h1:pl<(cv aa).length:=Rw dE oo.2.1;exact Rw (dt hc) (ah 1 .z [] [.idx oo.1,.b1 (fun σ=>Cm σ c oo.2.2)] 0x2221 (ai (Q1 dE h.len) (ai (gT h1) tr)))
noncomputable def jn(l:List V):V:=match l with|[a]=>a|l=>.aj [.str [115,101,113],.aj l]
theorem my(d:Nat)(σ:St)(n:Nat)(l:List V)(h:σ[n]?=some (.list l))(hl:l.length<=1000):Run af (d+1) 9 [.loc n] σ (jn l) σ:=by
 match l,h,hl with
 |[],h,hl=>exact ah 1 .z [.of h] [] 0x0 (ai (show iu.length<=1000000 from(by decide)) (ai (show iu.length<=1000000 from(by decide)) tr))
 |[a],h,hl=>exact ah 1 .z [.of h] [] 0x0 (ai (show(a::iu).length<=1000000 from(bl rfl)) tr)
 |a::b::r,h,hl=>
  haveI h1:¬(a::b::r).length=1:=fun e=>by cases e
  haveI h2:(a::b::r).length<=1000000:=le_trans hl (by decide);exact ah 1 .z [.of h] [] 0x0 (ai h2 (ai h2 tr))
noncomputable def FL.put(l:FL)(v:V):FL:=⟨⟨l.f.word,l.f.num,l.f.done,l.f.nodes++[v],false⟩,l.a,l.D,l.N⟩
section
variable {U σ:St} {P F:Nat} {aa:List Nat} {pl gr:Nat} {lo:List FL} {tp:FL}
theorem eP(p:bb U σ P F aa pl gr lo tp)(d:Nat):Run af (d+1) 34 [.loc P] σ (.loc tp.a) σ:=ah 1 .z [.of p.hP,.of p.hF] [.idx (Hi (lo.map fun l=>V.loc l.a) (.loc tp.a))] 0x2211 tr
theorem i4(p:bb U σ P F aa pl gr lo tp)(h:Cd aa){c:Nat}(hc:aa[pl]?=some c)(d:Nat):∃ab,Run af (d+1) 35 [.loc P] σ (.str [c]) ab/\bb U ab P F aa (pl+1) gr lo tp:=by haveI oo:=h.idx hc;haveI h1:pl<(cv aa).length:=Rw (bF aa) oo.2.1;haveI e1:(pl:Int)+1-1=(pl:Int):=PL;refine⟨_,?_,p.jO (pl+1) gr⟩;haveI e2:((pl+1:Nat):Int)=(pl:Int)+1:=W4;exact ah 1 .z [.of p.hP] [.idx (e1.symm▸oo.1),.b1 (fun σ=>Cm σ c oo.2.2)] 0x22111113111 (ai (Q1 (bF aa) h.len) (ai (CZ h1) tr))
theorem ly(p:bb U σ P F aa pl gr lo tp)(v:V)(hn:tp.f.nodes.length<=1000)(d:Nat):∃ab,Run af (d+1) 30 [.loc tp.a,v] σ .none ab/\bb U ab P F aa pl gr lo (tp.put v):=by refine⟨_,?_,(p.ES (tp.f.nodes++[v])).JX false⟩;exact ah 1 .z [.of p.hT.ha,.of p.hT.hN] [] 0x21222211 (ai ((MK hn)) (ai p.apart.9 (ai p.apart.9 tr)))
theorem A3(p:bb U σ P F aa pl gr lo tp)(hn:tp.f.nodes.length<=1000)(hd:tp.f.done.length<=1000)(d:Nat):∃ab N',Run af (d+2) 31 [.loc tp.a] σ .none ab/\bb U ab P F aa pl gr lo ⟨⟨tp.f.word,tp.f.num,tp.f.done++[jn tp.f.nodes],[],true⟩,tp.a,tp.D,N'⟩:=by haveI q:=((p.EX (tp.f.done++[jn tp.f.nodes])).XK).JX true;rw[length_set,set_set]at q;refine⟨_,_,?_,q⟩;exact ah 2 .z [.of p.hT.ha,.of p.hT.hD] [.call .z (my d σ tp.N tp.f.nodes p.hT.hN hn)] 0x21111221222221211 (ai ((MK hd)) (ai p.apart.8 (ai p.apart.8 tr)))
noncomputable def eR(f:PF):V:=if f.done=[]then jn f.nodes else .aj [.str [97,108,116],.aj (f.done++[jn f.nodes])]
theorem yS(d:Nat){l:FL}(p:qc σ l)(hn:l.f.nodes.length<=1000)(hd:l.f.done.length<=1000):Run af (d+2) 32 [.loc l.a] σ (eR l.f) σ:=by
 unfold eR;by_cases h:l.f.done=[]
 ·exact Rw (if_pos h) (ah 2 .z [.of p.ha,.of p.hD] [.call .z (my d σ l.N l.f.nodes p.hN hn)] 0x2122411 (ai h tr))
 ·refine Rw (if_neg h) (?_);haveI h1:l.f.done.length+[jn l.f.nodes].length<=1000000:=TN hd;haveI h2:(l.f.done++[jn l.f.nodes]).length<=1000000:=Rw length_append h1;exact ah 2 .z [.of p.ha,.of p.hD] [.call .z (my d σ l.N l.f.nodes p.hN hn)] 0x221132411 (ai h (ai h1 (ai h2 tr)))
end
end
section
theorem k8{σ:St}{c:Nat}{l:List Nat}{b:Bool}(h:l.contains c=b):eg .isin σ (.str [c]) (.str l)=some b:=congrArg some h
theorem Lp{c:Nat}(h:48<=c/\c<=57):[48,49,50,51,52,53,54,55,56,57].contains c=true:=by rw[contains_iff_mem];simp only[mem_cons,not_mem_nil,or_false];exact TB h.1 h.2
theorem Fd{c:Nat}(h:¬(48<=c/\c<=57)):[48,49,50,51,52,53,54,55,56,57].contains c=false:=by refine Bool.eq_false_iff.mpr fun k=>h ?_;rw[contains_iff_mem]at k;simp only[mem_cons,not_mem_nil,or_false]at k;exact T3 k
theorem kP(d:Nat)(σ:St)(w:List Nat)(k:Nat):Run af (d+1) 29 [.loc σ.length,.str w,.int k] (σ++[.inst 0 []]) .none (σ++[zy ⟨w,k,[],[],true⟩ (σ.length+1) (σ.length+2)]++[.list []]++[.list []]):=ah 1 (.add .z _) [] [] 0x22212212212221221221221212121112111 (ai trivial tr)
section
variable {U σ:St} {P F:Nat} {aa:List Nat} {pl gr:Nat} {lo:List FL} {tp:FL}
theorem bb.app(p:bb U σ P F aa pl gr lo tp)(τ:St):bb U (σ++τ) P F aa pl gr lo tp:=by
 have L:=p.vV;refine⟨(aO (L P (by simp))).trans p.hP,(aO (L F (by simp))).trans p.hF,fun l hl=>(p.hL l hl).mono fun x hx=>aO (p.low hl hx).2.2.2.2.2,?_,p.nd,p.lb,p.ext.app⟩;refine p.hT.mono fun x hx=>aO ?_;rcases hx with rfl|rfl|rfl
 ·exact L _ (by simp)
 ·exact L _ (by simp)
 ·exact L _ (by simp)
theorem zR(p:bb U σ P F aa pl gr lo tp)(h:Cd aa){c:Nat}(hc:aa[pl]?=some c)(hn:¬(48<=c/\c<=57))(d:Nat):Run af (d+2) 46 [.loc P] σ (.aj [.int 0,.bool false]) σ:=by haveI hs:=bX d σ aa pl h;haveI hs:=(dt hc)▸hs;haveI hm:eg .isin σ (.str [c]) (.str [48,49,50,51,52,53,54,55,56,57])=some false:=k8 (Fd hn);haveI hw:Wh af (d+1) sF sH [some (.loc P),some (.int 0),some (.int 0)] σ .next [some (.loc P),some (.int 0),some (.int 0)] σ:=Wh.stop (br 1 .z [.of p.hP] [.call .z hs,.call .z hs] 0x62111211 (ai hm tr));exact ah 2 .z [] [.cL .z hw] 0x0 tr
theorem rL(p:bb U σ P F aa pl gr lo tp)(h:Cd aa){c e:Nat}(hc:aa[pl]?=some c)(hn:48<=c/\c<=57)(he:aa[pl+1]?=some e)(hen:¬(48<=e/\e<=57))(d:Nat):∃ab,Run af (d+2) 46 [.loc P] σ (.aj [.int ((c-48:Nat):Int),.bool true]) ab/\bb U ab P F aa (pl+1) gr lo tp:=by
 haveI hs:=bX d σ aa pl h;rw[dt hc]at hs;haveI hm:eg .isin σ (.str [c]) (.str [48,49,50,51,52,53,54,55,56,57])=some true:=k8 (Lp hn);haveI Zw:eg .isin (σ.set P (pO aa (pl+1) F gr)) (.str [e]) (.str [48,49,50,51,52,53,54,55,56,57])=some false:=k8 (Fd hen);haveI pK:=bX d (σ.set P (pO aa (pl+1) F gr)) aa (pl+1) h;rw[dt he]at pK;haveI gP:=aH p.hP
 haveI hw:Wh af (d+1) sF sH [some (.loc P),some (.int 0),some (.int 0)] σ .next [some (.loc P),some (.int ((0:Int)*10+(c:Int)-48)),some (.int 1)] (σ.set P (pO aa (pl+1) F gr)):=by
  refine Wh.next (ae:=σ) (av:=σ.set P (pO aa (pl+1) F gr)) ?_ ?_ (Wh.stop ?_)
  ·exact br 1 .z [.of p.hP] [.call .z hs,.call .z hs] 0x52111211 (ai hm tr)
  ·exact bJ 1 .z [.of p.hP] [.bin (fun y_=>bR (x:=0) (y:=10) (by decide) (by decide) (by decide) (by decide)),.idx (h.idx hc).1] 0x3111211 (ai (TJ (h.idx hc).2.2) tr)
  ·exact br 1 (.put .z _ _) [] [.call (.put .z _ _) pK,.call (.put .z _ _) pK] 0x62111211 (ai (ai gP tr) (ai (ai gP tr) (ai Zw (ai (ai gP tr) tr))))
 rw[(VF hn.1)]at hw;refine⟨_,?_,(p.jO (pl+1) gr)⟩;exact ah 2 .z [] [.cL (.put .z _ _) hw] 0x0 (ai (ai gP tr) tr)
theorem uw(p:bb U σ P F aa pl gr lo tp)(h:Cd aa)(hq:sgn aa pl≠[63])(dW:lo.length<=100)(d:Nat):gW fun ab l'=>eF (Run af (d+2) 44 [.loc P] σ .none ab) (bb U ab P F aa pl (gr+1) (lo++[tp]) l') (l'.f=⟨[103,114,111,117,112],gr+1,[],[],true⟩):=by
 haveI hf:=kP d (σ.set P (pO aa pl F (gr+1))) [103,114,111,117,112] (gr+1);haveI q:=(p.jO pl (gr+1)).push ⟨[103,114,111,117,112],gr+1,[],[],true⟩ rfl rfl;rw[length_set]at hf q;haveI hl:(lo.map (fun l=>V.loc l.a)++[V.loc tp.a]).length<1000000:=by rw[length_append,length_map];exact K8 dW
 haveI A:=p.apart.PF;refine⟨_,_,?_,q,rfl⟩;exact ah 2 .z [.of p.hP,.of p.hF] [.call .z (bX d σ aa pl h),.call (.add (.add (.add (.put .z _ _) _) _) _) hf] 0x22222222222122111122111 (ai hq (ai (Ne.symm A) (ai (ai (aH p.hP) tr) (ai (Ne.symm A) (ai hl (ai (Ne.symm A) tr))))))
theorem zg(p:bb U σ P F aa pl gr lo tp)(h:Cd aa)(hq:aa[pl]?=some 63)(hc:aa[pl+1]?=some 58)(dW:lo.length<=100)(d:Nat):gW fun ab l'=>eF (Run af (d+3) 44 [.loc P] σ .none ab) (bb U ab P F aa (pl+2) gr (lo++[tp]) l') (l'.f=⟨[115,104,121],0,[],[],true⟩):=by
 haveI hs:=bX (d+1) σ aa pl h;rw[dt hq]at hs;haveI p1:=p.jO (pl+1) gr;haveI kx:=bX (d+1) (σ.set P (pO aa (pl+1) F gr)) aa (pl+1) h;rw[dt hc]at kx;haveI p2:=p1.jO (pl+2) gr;rw[set_set]at p2;haveI hf:=kP (d+1) (σ.set P (pO aa (pl+2) F gr)) [115,104,121] 0;haveI q:=p2.push ⟨[115,104,121],0,[],[],true⟩ rfl rfl;rw[length_set]at hf q;haveI hl:(lo.map (fun l=>V.loc l.a)++[V.loc tp.a]).length<1000000:=by rw[length_append,length_map];exact K8 dW
 haveI gP:=aH p.hP;haveI A:=p.apart.PF;refine⟨_,_,?_,q,rfl⟩;exact ah 3 .z [.of p.hP,.of p.hF] [.call .z hs,.call (.put .z _ _) (zR p1 h hc (by decide) d),.call (.put .z _ _) kx,.call (.add (.add (.add (.put .z _ _) _) _) _) hf] 0x222222222222211211112112111112111 (ai (ai gP tr) (ai (ai gP tr) (ai (Ne.symm A) (ai (ai gP tr) (ai (Ne.symm A) (ai hl (ai (Ne.symm A) tr)))))))
theorem Bx{pr:FL}(p:bb U σ P F aa pl gr (lo++[pr]) tp)(dW:lo.length<=100)(hn:tp.f.nodes.length<=1000)(hd:tp.f.done.length<=1000)(hp:pr.f.nodes.length<=1000)(d:Nat):∃ab,Run af (d+3) 45 [.loc P] σ .none ab/\bb U ab P F aa pl gr lo
   (pr.put (if tp.f.word=[115,104,121]then .aj [.str [115,104,121],eR tp.f]else .aj [.str [103,114,111,117,112],.int tp.f.num,eR tp.f])):=by
 haveI q:=p.pop;haveI A5:=p.apart.5;haveI A6:=p.apart.6;haveI A7:=p.apart.7;haveI t1:qc (σ.set F (.list (lo.map (fun l=>.loc l.a)++[.loc pr.a]))) tp:=p.hT.mono fun x hx=>au (by rcases hx with rfl|rfl|rfl<;>assumption);haveI tL:=yS d t1 hn hd;haveI hF:σ[F]?=some (.list ((lo.map (fun l=>V.loc l.a)++[.loc pr.a])++[.loc tp.a])):=by simpa using p.hF
 haveI gl:((lo.map (fun l:FL=>V.loc l.a)++[V.loc pr.a])++[V.loc tp.a]).getLast?=some (V.loc tp.a):=by simp
 haveI dl:((lo.map (fun l:FL=>V.loc l.a)++[V.loc pr.a])++[V.loc tp.a]).dropLast=lo.map (fun l:FL=>V.loc l.a)++[V.loc pr.a]:=dropLast_concat;haveI nu:((lo.map (fun l:FL=>V.loc l.a)++[V.loc pr.a])++[V.loc tp.a]).length=lo.length+2:=by rw[length_append,length_append,length_map];rfl
 haveI iR:¬((lo.map (fun l:FL=>V.loc l.a)++[V.loc pr.a])++[V.loc tp.a]).length=1:=Rw nu OX;haveI Ii:((lo.map (fun l:FL=>V.loc l.a)++[V.loc pr.a])++[V.loc tp.a]).length<=1000000:=Rw nu (P8 dW);haveI gF:=aH hF;haveI DE:pr∈lo++[pr]:=List.mem_append_right _ mem_cons_self;haveI UO:=Ne.symm (p.low DE (.inl rfl)).2.1;by_cases hw:tp.f.word=[115,104,121]
 ·obtain⟨bQ,e2,q2⟩:=ly q (.aj [.str [115,104,121],eR tp.f]) hp (d+1);refine⟨bQ,?_,Rw (if_pos hw) q2⟩;exact ah 3 .z [.of p.hP,.of hF,.of p.hT.ha,.of ((p.hL pr DE).ha)] [.pop gl dl,.call (.put .z _ _) tL,.call (.put .z _ _) (eP q (d+1)),.call .z e2] 0x24221223223222213211 (ai Ii (ai (qU iR) (ai Ii (ai (Ne.symm A5) (ai hw (ai (Ne.symm A5) (ai (ai gF tr) (ai p.apart.1 (ai (ai gF tr) (ai UO tr))))))))))
 ·obtain⟨bQ,e2,q2⟩:=ly q (.aj [.str [103,114,111,117,112],.int tp.f.num,eR tp.f]) hp (d+1);refine⟨bQ,?_,Rw (if_neg hw) q2⟩;exact ah 3 .z [.of p.hP,.of hF,.of p.hT.ha,.of ((p.hL pr DE).ha)] [.pop gl dl,.call (.put .z _ _) tL,.call (.put .z _ _) (eP q (d+1)),.call .z e2] 0x2422122323233222213211 (ai Ii (ai (qU iR) (ai Ii (ai (Ne.symm A5) (ai hw (ai (Ne.symm A5) (ai (Ne.symm A5) (ai (ai gF tr) (ai p.apart.1 (ai (ai gF tr) (ai UO tr)))))))))))
theorem jr{ns:List V}{x:V}{w:List Nat}{num:Nat}{dn:List V}{ls:Bool}{a D N:Nat}(p:bb U σ P F aa pl gr lo ⟨⟨w,num,dn,ns++[x],ls⟩,a,D,N⟩)(hn:ns.length<=1000)(i j:Int)(b:Bool)(d:Nat):∃ab,Run af (d+2) 39 [.loc P,.int i,.int j,.bool b] σ .none ab/\bb U ab P F aa pl gr lo ⟨⟨w,num,dn,ns++[.aj [.str [116,105,109,101,115],.int i,.int j,.bool b,x]],ls⟩,a,D,N⟩:=by
 haveI q2:=(p.ES ns).ES (ns++[.aj [.str [116,105,109,101,115],.int i,.int j,.bool b,x]]);haveI hN:=p.hT.hN;haveI gl:(ns++[x]).getLast?=some x:=by simp
 haveI dl:(ns++[x]).dropLast=ns:=dropLast_concat;haveI l1:(ns++[x]).length<=1000000:=by simp;exact XN hn
 dsimp only at *;rw[set_set]at q2;refine⟨_,?_,q2⟩;exact ah 2 .z [.of p.hP,.of p.hT.ha,.of hN] [.call .z (eP p d),.pop gl dl] 0x21132332211 (ai l1 (ai (MK hn) tr))
theorem oz{σ:St}{n:Nat}{L:List V}(hn:σ[n]?=some (.list L))(i:Nat):(It.live n).nx σ i=some L[i]?:=by show(match σ[n]? with|some (.list l)=>some l[i]?|_=>none)=_;exact Rw hn rfl
theorem GC{α:Type}{step:V->St->Option V->St->Prop}{σ:St}{n:Nat}{L:List V}(hn:σ[n]?=some (.list L)){it g:α->V}{p:α->Bool}:∀(l:List α) (i:Nat) (acc:List V),L.drop i=l.map it->(∀a∈l,step (it a) σ (bif p a then some (g a)else none) σ)->acc.length+l.length<=1000000->fy step (.live n) l.length i acc σ (acc++(l.filter p).map g) σ
 |[]=>by intro i acc hl _ _;rw[filter_nil,List.map_nil,append_nil];refine .stop ?_;rw[oz hn,List.getElem?_eq_none_iff.mpr (drop_eq_nil_iff.mp hl)]
 |a::l=>by
  intro i acc hl hs hk;haveI hk:=hk;haveI hv:L[i]?=some (it a):=Lw (head?_drop) (Rw hl rfl);haveI hd:L.drop (i+1)=l.map it:=Lw drop_drop (Rw hl rfl);haveI h1:=hs a mem_cons_self;haveI ih:=fun acc=>GC hn l (i+1) acc hd fun b hb=>hs b (mem_cons_of_mem _ hb);haveI hx:(It.live n).nx σ i=some (some (it a)):=by rw[oz hn,hv]
  cases hp:p a with
  |true=>rw[hp]at h1;haveI:=ih (acc++[g a]) (Rw length_append (LR hk));rw[append_assoc]at this;exact Rw (filter_cons_of_pos hp) (.some hx h1 (show acc.length<1000000 by exact MI hk) this)
  |false=>rw[hp]at h1;exact Rw (filter_cons_of_neg (by exact Rw hp bf)) (.none hx h1 (ih acc (JF hk)))
theorem xh(σ:St)(k:Nat)(l:List Nat):member σ (.int k) (.lst (l.map fun n:Nat=>.int n))=some (decide (k∈l)):=by
 refine(if_pos (all_eq_true.mpr fun v hv=>by obtain⟨n,_,rfl⟩:=mem_map.mp hv;rfl)).trans ?_;refine congrArg some ?_;rw[Bool.eq_iff_iff];simp only[List.any_map,any_eq_true,Function.comp_apply,beq_iff_eq,decide_eq_true_eq];constructor
 ·rintro⟨x,hx,e⟩;exact Rw (Qq e) hx
 ·exact fun h=>⟨k,h,rfl⟩
noncomputable def cY(lo:List FL)(tp:FL):List Nat:=((lo++[tp]).filter fun l=>l.f.word==[103,114,111,117,112]).map fun l=>l.f.num
theorem E1(p:bb U σ P F aa pl gr lo tp)(k:Nat)(hk:k<=gr)(ho:k∉cY lo tp)(dW:lo.length<=100)(hn:tp.f.nodes.length<=1000)(d:Nat):∃ab,Run af (d+2) 43 [.loc P,.int k] σ .none ab/\bb U ab P F aa pl gr lo (tp.put (.aj [.str [98,97,99,107],.int k])):=by
 refine cps fun G kG=>?_;obtain⟨ab,e1,q⟩:=ly p (.aj [.str [98,97,99,107],.int k]) hn d;refine kG ?_;have hF:σ[F]?=some (.list ((lo++[tp]).map fun l=>V.loc l.a)):=by simpa using p.hF
 have Dc:∀l∈lo++[tp],qc σ l:=by
  intro l hl;rw[mem_append]at hl;rcases hl with hl|hl
  ·exact p.hL l hl
  ·simp at hl;obtain rfl:=Eq.symm hl;exact p.hT
 haveI hlen:(lo++[tp]).length<=101:=by simp;exact VQ dW
 unfold cY at ho;generalize lo++[tp]=ls at *
 haveI rf:∀e0 e1,∀l∈ls,bV af (d+1) yN [2] false yM [e0,e1,none] (.loc l.a) σ (bif l.f.word==[103,114,111,117,112]then some (.int l.f.num)else none) σ:=by
  intro e0 e1 l hl;by_cases hw:l.f.word=[103,114,111,117,112]
  ·exact Rw (beq_iff_eq.mpr hw) (eW 1 .z [.of ((Dc l hl).ha)] [] 0x21 (ai hw tr))
  ·exact Rw (beq_eq_false_iff_ne.mpr hw) (eW 1 .z [.of ((Dc l hl).ha)] [] 0x31 (ai hw tr))
 haveI Z3:=fun e0 e1=>GC hF (p:=fun l=>l.f.word==[103,114,111,117,112]) ls 0 [] rfl (rf e0 e1) (WO hlen);haveI zh:=xh σ k ((ls.filter fun l=>l.f.word==[103,114,111,117,112]).map fun l=>l.f.num);rw[decide_eq_false ho,map_map]at zh;refine⟨ab,?_,q⟩;exact ah 2 .z [.of p.hP,.of hF,.of p.hT.ha] [.comp .z (Z3 (some (.loc P)) (some (.int (k:Int)))),.call .z (eP p d),.call .z e1] 0x23216221311 (ai (iX hk) (ai zh tr))
end
end
section
noncomputable def Atom.nd:Atom->V
 |.ca=>.aj [.str [99,104,97,114],.int 97]
 |.cb=>.aj [.str [99,104,97,114],.int 98]
 |.cA=>.aj [.str [99,104,97,114],.int 65]
 |.any=>.aj [.str [97,110,121]]
 |.Bd=>.aj [.str [115,101,116],.bool false,.aj [.aj [.int 97,.int 97],.aj [.int 98,.int 98]],.aj []]
 |.su=>.aj [.str [115,101,116],.bool true,.aj [.aj [.int 97,.int 97]],.aj []]
theorem BD{σ:St}{c:Nat}{l:List Nat}(h:l.contains c=false):eg .pq σ (.str [c]) (.str l)=some true:=congrArg (fun b=>some !b) h
theorem QH{e:Nat}(h1:e≠42)(h2:e≠43)(h3:e≠63):[42,43,63].contains e=false:=by show(e==42||(e==43||(e==63||false)))=false;exact Rw (iQ h1) (Rw (iQ h2) (Rw (iQ h3) rfl))
theorem Kn{σ:St}{a b:O}:σ++[a]++[b]=σ++[a,b]:=by rw[append_assoc];rfl
theorem ue(d:Nat)(σ:St){aa:List Nat}(h:Cd aa){pl c e:Nat}(h0:aa[pl]?=some c)(h1:aa[pl+1]?=some e)(he:e≠45):Run af (d+1) 4 [.lst (cv aa),.int pl] σ (.aj [.aj [.int c,.int c],.int ((pl+1:Nat):Int)]) σ:=by
 by_cases hp:pl+2<(cv aa).length
 ·exact ah 1 .z [] [.idx (h.idx h0).1,.idx (h.idx h1).1] 0x32221 (ai (Q1 (bF aa) h.len) (ai (gT hp) (ai (qU he) tr)))
 ·exact ah 1 .z [] [.idx (h.idx h0).1] 0x321 (ai (Q1 (bF aa) h.len) (ai (iX (not_lt.mp hp)) tr))
theorem tD(d:Nat)(σ:St){aa:List Nat}(h:Cd aa){pl c e:Nat}(h0:aa[pl]?=some c)(h1:aa[pl+1]?=some e)(he:c≠91):Run af (d+1) 3 [.lst (cv aa),.int pl] σ .none σ:=by refine cps fun G kG=>?_;exact kG (ah 1 .z [] [.idx (h.idx h0).1] 0x2231 (ai (Q1 (bF aa) h.len) (ai (CZ (OI (h.idx h1).2.1 (bF aa))) (ai (qU he) tr))))
theorem oG(d:Nat)(σ:St){aa:List Nat}(h:Cd aa){pl c e st:Nat}(h0:aa[pl]?=some c)(h1:aa[pl+1]?=some e)(ux:c≠91)(kA:c≠93)(he:e≠45)(ng:Bool)(x y:Option V)(rs:List V)(t8:rs.length<=10):cX af (d+1) oi [some (.lst (cv aa)),some (.int pl),some (.bool ng),some (.int st),some (.loc σ.length),some (.loc (σ.length+1)),x,y] (σ++[O.list rs]++[O.list []]) .next [some (.lst (cv aa)),some (.int ((pl+1:Nat):Int)),some (.bool ng),some (.int st),some (.loc σ.length),some (.loc (σ.length+1)),some .none,some (.aj [.int c,.int c])] ((σ++[O.list (rs++[V.aj [.int c,.int c]])]++[O.list []])):=bJ 1 (.add (.add .z _) _) [] [.idx (h.idx h0).1,.call (.add (.add .z _) _) (tD d (σ++[O.list rs]++[O.list []]) h h0 h1 ux),.call (.add (.add .z _) _) (ue d (σ++[O.list rs]++[O.list []]) h h0 h1 he)] 0x22121212212323 (ai (Q1 (bF aa) h.len) (ai (CZ (Q3 (h.idx h0).2.1 (bF aa))) (ai (qU kA) (ai trivial (ai trivial (ai (Qo t8) (ai trivial tr)))))))
theorem xy(d:Nat)(σ:St){aa:List Nat}(h:Cd aa){pl st:Nat}(h0:aa[pl]?=some 93)(rf:st<pl)(ng:Bool)(x y:Option V)(rs:List V)(t8:rs.length<=10):cX af (d+1) oi [some (.lst (cv aa)),some (.int pl),some (.bool ng),some (.int st),some (.loc σ.length),some (.loc (σ.length+1)),x,y] (σ++[O.list rs]++[O.list []]) (.ret (.aj [.aj [.str [115,101,116],.bool ng,.aj rs,.aj []],.int ((pl+1:Nat):Int)])) [some (.lst (cv aa)),some (.int pl),some (.bool ng),some (.int st),some (.loc σ.length),some (.loc (σ.length+1)),x,y] (σ++[O.list rs]++[O.list []]):=bJ 1 (.add (.add .z _) _) [] [.idx ((h.idx h0).1)] 0x22123 (ai (Q1 (bF aa) h.len) (ai (CZ (Q3 ((h.idx h0).2.1) (bF aa))) (ai (gT rf) (ai (VK t8) (ai (show iu.length<=1000000 from(by decide)) (ai trivial tr))))))
theorem uy(d:Nat)(σ:St){aa:List Nat}(h:Cd aa){pl:Nat}(h0:aa[pl]?=some 97)(h1:aa[pl+1]?=some 98)(h2:aa[pl+2]?=some 93):∃τ,Run af (d+2) 5 [.lst (cv aa),.int pl] σ (.aj [Atom.Bd.nd,.int ((pl+3:Nat):Int)]) (σ++τ):=by
 haveI hw:∃fr,Wh af (d+1) nz oi [some (.lst (cv aa)),some (.int pl),some (.bool false),some (.int pl),some (.loc σ.length),some (.loc (σ.length+1)),none,none] (σ++[O.list []]++[O.list []]) (.ret (.aj [Atom.Bd.nd,.int ((pl+3:Nat):Int)])) fr (σ++[O.list [.aj [.int 97,.int 97],.aj [.int 98,.int 98]]]++[O.list []]):=by apply Exists.intro;have t1:∀fr σ,Ev af (d+1) nz fr σ (.bool true) σ:=fun fr σ=>br 1 .z [] [] 0x0 tr;exact Wh.next (t1 _ _) (oG d σ h h0 h1 (by decide) (by decide) (by decide) false none none [] (by decide)) (Wh.next (t1 _ _) (oG d σ h h1 h2 (by decide) (by decide) (by decide) false _ _ _ (by decide)) (Wh.ret (t1 _ _) (xy d σ h h2 Q9 false _ _ _ (by decide))))
 refine hw.elim fun fr hw=>⟨[.list [.aj [.int 97,.int 97],.aj [.int 98,.int 98]],.list []],?_⟩;exact Lw Kn (ah 2 .z [] [.idx ((h.idx h0).1),.cL (.add (.add .z _) _) hw] 0x221 (ai (Q1 (bF aa) h.len) (ai (gT (Q3 ((h.idx h0).2.1) (bF aa))) (ai trivial tr))))
theorem uc(d:Nat)(σ:St){aa:List Nat}(h:Cd aa){pl:Nat}(h0:aa[pl]?=some 94)(h1:aa[pl+1]?=some 97)(h2:aa[pl+2]?=some 93):∃τ,Run af (d+2) 5 [.lst (cv aa),.int pl] σ (.aj [Atom.su.nd,.int ((pl+3:Nat):Int)]) (σ++τ):=by
 haveI hw:∃fr,Wh af (d+1) nz oi [some (.lst (cv aa)),some (.int ((pl+1:Nat):Int)),some (.bool true),some (.int ((pl+1:Nat):Int)),some (.loc σ.length),some (.loc (σ.length+1)),none,none] (σ++[O.list []]++[O.list []]) (.ret (.aj [Atom.su.nd,.int ((pl+3:Nat):Int)])) fr (σ++[O.list [.aj [.int 97,.int 97]]]++[O.list []]):=by apply Exists.intro;have t1:∀fr σ,Ev af (d+1) nz fr σ (.bool true) σ:=fun fr σ=>br 1 .z [] [] 0x0 tr;exact Wh.next (t1 _ _) (oG d σ h h1 h2 (by decide) (by decide) (by decide) true none none [] (by decide)) (Wh.ret (t1 _ _) (xy d σ h h2 YL true _ _ _ (by decide)))
 refine hw.elim fun fr hw=>⟨[.list [.aj [.int 97,.int 97]],.list []],?_⟩;exact Lw Kn (ah 2 .z [] [.idx ((h.idx h0).1),.cL (.add (.add .z _) _) hw] 0x221 (ai (Q1 (bF aa) h.len) (ai (gT (Q3 ((h.idx h0).2.1) (bF aa))) (ai trivial tr))))
section
variable {U σ:St} {P F:Nat} {aa:List Nat} {pl gr:Nat} {lo:List FL}
def NQ(aa:List Nat)(pl:Nat):Prop:=∀c,aa[pl]?=some c->c≠42/\c≠43/\c≠63
noncomputable def Qn.nd(q:Qn)(x:V):V:=.aj [.str [116,105,109,101,115],.int q.least,.int q.most,.bool q.bS,x]
def Tr(c:Nat)(z m z' m' g':Bool):Prop:=(c=42/\z=false/\m=false/\z'=true/\m'=true/\g'=true)\/(c=43/\z=false/\m=false/\z'=false/\m'=true/\g'=true)\/(c=63/\z=false/\m=false/\z'=true/\m'=false/\g'=true)\/(c=63/\z=true/\m=true/\z'=true/\m'=true/\g'=false)
theorem zN{tp:FL}(p:bb U σ P F aa pl gr lo tp)(h:Cd aa)(hq:NQ aa pl){c:Nat}{z m z' m' g':Bool}(ht:Tr c z m z' m' g')(d:Nat):cX af (d+1) oA [some (.loc P),some (.str [c]),some (.bool z),some (.bool m),some (.bool true)] σ .brk [some (.loc P),some (.str (sgn aa pl)),some (.bool z'),some (.bool m'),some (.bool g')] σ:=by
 have hs:=bX d σ aa pl h;haveI hn:∀l,(∃e,sgn aa pl=[e]/\e≠42/\e≠43/\e≠63)\/sgn aa pl=l->(∃e,sgn aa pl=[e]/\e≠42/\e≠43/\e≠63)\/sgn aa pl=l:=fun y_ h=>h
 haveI LJ:sgn aa pl=[]\/∃e,sgn aa pl=[e]/\e≠42/\e≠43/\e≠63:=by
  unfold sgn
  cases he:aa[pl]? with
  |none=>exact .inl rfl
  |some e=>exact .inr ⟨e,rfl,hq e he⟩
 rcases LJ with hc|⟨e,hc,he1,he2,YW⟩
 ·rw[hc]at hs ⊢;rcases ht with⟨rfl,rfl,rfl,rfl,rfl,rfl⟩|⟨rfl,rfl,rfl,rfl,rfl,rfl⟩|⟨rfl,rfl,rfl,rfl,rfl,rfl⟩|⟨rfl,rfl,rfl,rfl,rfl,rfl⟩
  ·exact bJ 1 .z [.of p.hP] [.call .z hs] 0x211111 tr
  ·exact bJ 1 .z [.of p.hP] [.call .z hs] 0x211111 tr
  ·exact bJ 1 .z [.of p.hP] [.call .z hs] 0x211111 tr
  ·exact bJ 1 .z [.of p.hP] [.call .z hs] 0x2111 tr
 ·rw[hc]at hs ⊢;haveI hm:eg .pq σ (.str [e]) (.str [42,43,63])=some true:=BD (QH he1 he2 YW);rcases ht with⟨rfl,rfl,rfl,rfl,rfl,rfl⟩|⟨rfl,rfl,rfl,rfl,rfl,rfl⟩|⟨rfl,rfl,rfl,rfl,rfl,rfl⟩|⟨rfl,rfl,rfl,rfl,rfl,rfl⟩
  ·exact bJ 1 .z [.of p.hP] [.call .z hs] 0x51211111 (ai hm tr)
  ·exact bJ 1 .z [.of p.hP] [.call .z hs] 0x51211111 (ai hm tr)
  ·exact bJ 1 .z [.of p.hP] [.call .z hs] 0x51211111 (ai hm tr)
  ·exact bJ 1 .z [.of p.hP] [.call .z hs] 0x512111 (ai hm tr)
theorem rP{ns:List V}{x:V}{w:List Nat}{num:Nat}{dn:List V}{ls:Bool}{a D N:Nat}(p:bb U σ P F aa pl gr lo ⟨⟨w,num,dn,ns++[x],ls⟩,a,D,N⟩)(h:Cd aa)(hq:NQ aa pl)(hn:ns.length<=1000){c:Nat}{z m:Bool}(ht:Tr c false false z m true)(d:Nat):∃ab,Run af (d+3) 38 [.loc P,.str [c]] σ .none ab/\bb U ab P F aa pl gr lo ⟨⟨w,num,dn,ns++[.aj [.str [116,105,109,101,115],.int (if z then 0 else 1),.int (if m then -1 else 1),.bool true,x]],ls⟩,a,D,N⟩:=by
 haveI hw:Wh af (d+2) sh oA [some (.loc P),some (.str [c]),some (.bool false),some (.bool false),some (.bool true)] σ .next [some (.loc P),some (.str (sgn aa pl)),some (.bool z),some (.bool m),some (.bool true)] σ:=by refine Wh.brk ?_ (zN p h hq ht (d+1));exact br 2 .z [] [] 0x0 tr
 obtain⟨ab,e1,q⟩:=jr p hn (if z then 0 else 1) (if m then -1 else 1) true d;refine⟨ab,?_,q⟩;cases z<;>cases m<;>simp only[Bool.false_eq_true]at e1<;>exact ah 3 .z [.of p.hP] [.cL .z hw,.call .z e1] 0x211 tr
theorem Dq{ns:List V}{x:V}{w:List Nat}{num:Nat}{dn:List V}{ls:Bool}{a D N:Nat}(p:bb U σ P F aa pl gr lo ⟨⟨w,num,dn,ns++[x],ls⟩,a,D,N⟩)(h:Cd aa)(h0:aa[pl]?=some 63)(hq:NQ aa (pl+1))(hn:ns.length<=1000)(d:Nat):∃ab,Run af (d+3) 38 [.loc P,.str [42]] σ .none ab/\bb U ab P F aa (pl+1) gr lo ⟨⟨w,num,dn,ns++[.aj [.str [116,105,109,101,115],.int 0,.int (-1),.bool false,x]],ls⟩,a,D,N⟩:=by
 haveI p1:=p.jO (pl+1) gr
 haveI hw:Wh af (d+2) sh oA [some (.loc P),some (.str [42]),some (.bool false),some (.bool false),some (.bool true)] σ .next [some (.loc P),some (.str (sgn aa (pl+1))),some (.bool true),some (.bool true),some (.bool false)] (σ.set P (pO aa (pl+1) F gr)):=by
  refine Wh.next (ae:=σ) (av:=σ.set P (pO aa (pl+1) F gr)) ?_ ?_ (Wh.brk ?_ (zN p1 h hq (.inr (.inr (.inr ⟨rfl,rfl,rfl,rfl,rfl,rfl⟩))) (d+1)))
  ·exact br 2 .z [] [] 0x0 tr
  ·exact bJ 2 .z [.of p.hP] [.call .z ((dt h0)▸(bX (d+1) σ aa pl h))] 0x211111 tr
  ·exact br 2 (.put .z _ _) [] [] 0x0 (ai (ai (aH p.hP) tr) tr)
 obtain⟨ab,e2,q⟩:=jr p1 hn 0 (-1) false d;refine⟨ab,?_,q⟩;exact ah 3 .z [] [.cL (.put .z _ _) hw,.call .z e2] 0x211 (ai (ai (aH p.hP) tr) tr)
theorem pV(d:Nat)(σ:St){aa:List Nat}(h:Cd aa){pl c e:Nat}(h0:aa[pl]?=some c)(h1:aa[pl+1]?=some e):Run af (d+2) 8 [.lst (cv aa),.int pl,.str [125]] σ (.bool (decide (c=92)&&decide (e=125))) σ:=by
 haveI EP:=bX d σ aa pl h;haveI kx:=bX d σ aa (pl+1) h;haveI EP:=(dt h0)▸EP;haveI kx:=(dt h1)▸kx;by_cases hc:c=92
 ·subst hc;by_cases he:e=125
  ·subst he;exact ah 2 .z [] [.call .z EP,.call .z kx,.call .z kx] 0x212121 tr
  ·haveI h2:eg .isin σ (.str [e]) (.str [125])=some false:=k8 (show(e==125||false)=false by exact Rw (iQ he) rfl);exact Rw (decide_eq_false he) (ah 2 .z [] [.call .z EP,.call .z kx,.call .z kx] 0x6212121 (ai h2 tr))
 ·exact Rw (decide_eq_false hc) (ah 2 .z [] [.call .z EP] 0x321 (ai (wi hc) tr))
theorem uA{ns:List V}{x:V}{w:List Nat}{num:Nat}{dn:List V}{a D N:Nat}(p:bb U σ P F aa pl gr lo ⟨⟨w,num,dn,ns++[x],false⟩,a,D,N⟩)(h:Cd aa)(h0:aa[pl]?=some 49)(h1:aa[pl+1]?=some 44)(h2:aa[pl+2]?=some 50)(h3:aa[pl+3]?=some 92)(h4:aa[pl+4]?=some 125)(hn:ns.length<=1000)(d:Nat):∃ab,Run af (d+4) 48 [.loc P] σ .none ab/\bb U ab P F aa (pl+5) gr lo ⟨⟨w,num,dn,ns++[.aj [.str [116,105,109,101,115],.int 1,.int 2,.bool true,x]],false⟩,a,D,N⟩:=by refine cps fun G kG=>?_;obtain⟨bC,e1,p1⟩:=rL p h h0 Pf h1 KD d;obtain⟨wc,e3,p3'⟩:=rL (p1.jO (pl+2) gr) h h2 JQ h3 Jw d;haveI p3:bb U wc P F aa (pl+3) gr lo ⟨⟨w,num,dn,ns++[x],false⟩,a,D,N⟩:=p3';haveI p4:=p3.jO (pl+5) gr;obtain⟨uk,e5,p5⟩:=jr p4 hn 1 2 true (d+1);refine kG ⟨uk,?_,p5⟩;rw[show((49-48:Nat):Int)=1 from rfl]at e1;rw[show((50-48:Nat):Int)=2 from rfl]at e3;haveI e6:Run af (d+3) 47 [.loc P] σ (.aj [.int 1,.int 2]) (wc.set P (pO aa (pl+5) F gr)):=ah 3 .z [.of p.hP,.of p1.hP,.of p3.hP] [.call .z e1,.call .z ((dt h1)▸(bX (d+1) bC aa (pl+1) h)),.call .z e3,.call .z ((show(decide (92=92)&&decide (125=125))=true from rfl)▸(pV d wc h h3 h4))] 0x333112333332122212221211 (ai (Q1 (bF aa) h.len) (ai (CZ (Yi ((h.idx h3).2.1) (bF aa))) tr));exact ah 4 .z [.of p.hP,.of p3.hT.ha] [.call (.put .z _ _) e6,.call (.put .z _ _) (eP p4 (d+2)),.call .z e5] 0x2122212111 (ai (ai (aH p3.hP) tr) (ai (ai (aH p3.hP) tr) (ai (Ne.symm p3.apart.Pa) tr)))
theorem xv{ns:List V}{x:V}{w:List Nat}{num:Nat}{dn:List V}{a D N:Nat}(p:bb U σ P F aa pl gr lo ⟨⟨w,num,dn,ns++[x],false⟩,a,D,N⟩)(h:Cd aa)(h0:aa[pl]?=some 50)(h1:aa[pl+1]?=some 44)(h3:aa[pl+2]?=some 92)(h4:aa[pl+3]?=some 125)(hn:ns.length<=1000)(d:Nat):∃ab,Run af (d+4) 48 [.loc P] σ .none ab/\bb U ab P F aa (pl+4) gr lo ⟨⟨w,num,dn,ns++[.aj [.str [116,105,109,101,115],.int 2,.int (-1),.bool true,x]],false⟩,a,D,N⟩:=by refine cps fun G kG=>?_;obtain⟨bC,e1,p1⟩:=rL p h h0 JQ h1 KD d;haveI IC:=aH p1.hP;haveI p4:=p1.jO (pl+4) gr;obtain⟨uk,e5,p5⟩:=jr p4 hn 2 (-1) true (d+1);refine kG ⟨uk,?_,p5⟩;haveI e6:Run af (d+3) 47 [.loc P] σ (.aj [.int 2,.int (-1)]) (bC.set P (pO aa (pl+4) F gr)):=ah 3 .z [.of p.hP,.of p1.hP] [.call .z ((show((50-48:Nat):Int)=2 from rfl)▸e1),.call .z ((dt h1)▸(bX (d+1) bC aa (pl+1) h)),.call (.put .z _ _) (zR (p1.jO (pl+2) gr) h h3 Jw d),.call (.put .z _ _) ((show(decide (92=92)&&decide (125=125))=true from rfl)▸(pV d (bC.set P (pO aa (pl+2) F gr)) h h3 h4))] 0x211112113112122212221211 (ai (ai IC tr) (ai (Q1 (bF aa) h.len) (ai (CZ (OW ((h.idx h3).2.1) (bF aa))) (ai (ai IC tr) tr))));exact ah 4 .z [.of p.hP,.of p1.hT.ha] [.call (.put .z _ _) e6,.call (.put .z _ _) (eP p4 (d+2)),.call .z e5] 0x2122212111 (ai (ai IC tr) (ai (ai IC tr) (ai (Ne.symm p1.apart.Pa) tr)))
end
end
section
section
variable {U σ:St} {P F:Nat} {aa:List Nat} {pl gr:Nat} {lo:List FL} {tp:FL}
theorem mP(p:bb U σ P F aa pl gr lo tp)(h:Cd aa){c:Nat}(h0:aa[pl]?=some c)(hc:c=97\/c=98\/c=65)(hn:tp.f.nodes.length<=1000)(d:Nat):∃ab,Run af (d+9) 37 [.loc P] σ .none ab/\bb U ab P F aa (pl+1) gr lo (tp.put (.aj [.str [99,104,97,114],.int c])):=by
 obtain⟨bC,e1,p1⟩:=i4 p h h0 (d+7);obtain⟨bQ,e2,p2⟩:=ly p1 (.aj [.str [99,104,97,114],.int c]) hn (d+7);refine⟨bQ,?_,p2⟩;rcases hc with rfl|rfl|rfl
 all_goals exact ah 9 .z [.of p.hP,.of p1.hP,.of p1.hT.ha] [.call .z e1,.call .z (eP p1 (d+7)),.call .z e2] 0x21322111111211 tr
theorem step_any(p:bb U σ P F aa pl gr lo tp)(h:Cd aa)(h0:aa[pl]?=some 46)(hn:tp.f.nodes.length<=1000)(d:Nat):∃ab,Run af (d+9) 37 [.loc P] σ .none ab/\bb U ab P F aa (pl+1) gr lo (tp.put Atom.any.nd):=by refine cps fun G kG=>?_;obtain⟨bC,e1,p1⟩:=i4 p h h0 (d+7);obtain⟨bQ,e2,p2⟩:=ly p1 Atom.any.nd hn (d+7);refine kG ⟨bQ,?_,p2⟩;exact ah 9 .z [.of p.hP,.of p1.hP,.of p1.hT.ha] [.call .z e1,.call .z (eP p1 (d+7)),.call .z e2] 0x2322111211 tr
theorem vC(p:bb U σ P F aa pl gr lo tp)(h:Cd aa)(h0:aa[pl]?=some 91){v:V}{m:Nat}(hr:∀(d:Nat) (σ:St),∃τ,Run af (d+2) 5 [.lst (cv aa),.int ((pl+1:Nat):Int)] σ (.aj [v,.int (m:Int)]) (σ++τ))(hn:tp.f.nodes.length<=1000)(d:Nat):∃ab,Run af (d+9) 37 [.loc P] σ .none ab/\bb U ab P F aa m gr lo (tp.put v):=by refine cps fun G kG=>?_;obtain⟨bC,e1,p1⟩:=i4 p h h0 (d+7);refine kG ((hr (d+6) bC).elim fun τ e2=>?_);haveI p2:=p1.app τ;obtain⟨jV,e4,p4⟩:=ly (p2.jO m gr) v hn (d+7);refine⟨jV,?_,p4⟩;exact ah 9 .z [.of p.hP,.of p1.hP,.of p2.hP,.of p2.hT.ha] [.call .z e1,.call .z e2,.call (.put .z _ _) (eP (p2.jO m gr) (d+7)),.call .z e4] 0x24221332221111211 (ai (ai (aH p2.hP) tr) (ai (Ne.symm p2.apart.Pa) tr))
theorem gI(p:bb U σ P F aa pl gr lo tp)(h:Cd aa)(h0:aa[pl]?=some 92){c:Nat}(h1:aa[pl+1]?=some c)(d:Nat):∃ab,bb U ab P F aa (pl+2) gr lo tp/\∀bM,Run af (d+8) 40 [.loc P,.str [c]] ab .none bM->Run af (d+9) 37 [.loc P] σ .none bM:=by refine cps fun G kG=>?_;obtain⟨bC,e1,p1⟩:=i4 p h h0 (d+7);obtain⟨bQ,e2,p2⟩:=i4 p1 h h1 (d+7);refine kG ⟨bQ,p2,fun bM e3=>?_⟩;exact ah 9 .z [.of p.hP,.of p1.hP] [.call .z e1,.call .z e2,.call .z e3] 0x22221211 tr
theorem Bb(p:bb U σ P F aa pl gr lo tp)(h:Cd aa){k:Nat}(mi:1<=k)(Es:k<=9)(h0:aa[pl]?=some 92)(h1:aa[pl+1]?=some (48+k))(hk:k<=gr)(ho:k∉cY lo tp)(dW:lo.length<=100)(hn:tp.f.nodes.length<=1000)(d:Nat):∃ab,Run af (d+9) 37 [.loc P] σ .none ab/\bb U ab P F aa (pl+2) gr lo (tp.put (.aj [.str [98,97,99,107],.int k])):=by
 obtain⟨bC,p1,hs⟩:=gI p h h0 h1 d;obtain⟨bQ,e2,p2⟩:=E1 p1 k hk ho dW hn (d+5);refine⟨bQ,hs bQ ?_,p2⟩;have hP1:=p1.hP;rcases(RE mi Es)with rfl|rfl|rfl|rfl|rfl|rfl|rfl|rfl|rfl
 all_goals exact ah 8 .z [.of hP1] [.call .z e2] 0x211111111 tr
theorem vJ(p:bb U σ P F aa pl gr lo tp)(h:Cd aa)(h0:aa[pl]?=some 92)(h1:aa[pl+1]?=some 40)(h2:aa[pl+2]?=some 63)(h3:aa[pl+3]?=some 58)(dW:lo.length<=100)(d:Nat):gW fun ab l'=>eF (Run af (d+9) 37 [.loc P] σ .none ab) (bb U ab P F aa (pl+4) gr (lo++[tp]) l') (l'.f=⟨[115,104,121],0,[],[],true⟩):=by refine cps fun G kG=>?_;obtain⟨bC,p1,hs⟩:=gI p h h0 h1 d;obtain⟨bQ,l',e2,p2,hf⟩:=zg p1 h h2 h3 dW (d+4);refine kG ⟨bQ,l',hs bQ ?_,p2,hf⟩;exact ah 8 .z [.of p1.hP] [.call .z e2] 0x21111 tr
theorem zz(p:bb U σ P F aa pl gr lo tp)(h:Cd aa)(h0:aa[pl]?=some 92)(h1:aa[pl+1]?=some 40){c:Nat}(h2:aa[pl+2]?=some c)(hc:c≠63)(dW:lo.length<=100)(d:Nat):gW fun ab l'=>eF (Run af (d+9) 37 [.loc P] σ .none ab) (bb U ab P F aa (pl+2) (gr+1) (lo++[tp]) l') (l'.f=⟨[103,114,111,117,112],gr+1,[],[],true⟩):=by refine cps fun G kG=>?_;obtain⟨bC,p1,hs⟩:=gI p h h0 h1 d;obtain⟨bQ,l',e2,p2,hf⟩:=uw p1 h (by simp[sgn,h2,hc]) dW (d+5);refine kG ⟨bQ,l',hs bQ ?_,p2,hf⟩;exact ah 8 .z [.of p1.hP] [.call .z e2] 0x21111 tr
theorem Ac(p:bb U σ P F aa pl gr lo tp)(h:Cd aa)(h0:aa[pl]?=some 92)(h1:aa[pl+1]?=some 124)(hn:tp.f.nodes.length<=1000)(hd:tp.f.done.length<=1000)(d:Nat):gW fun ab l'=>eF (Run af (d+9) 37 [.loc P] σ .none ab) (bb U ab P F aa (pl+2) gr lo l') (l'.f=⟨tp.f.word,tp.f.num,tp.f.done++[jn tp.f.nodes],[],true⟩):=by refine cps fun G kG=>?_;obtain⟨bC,p1,hs⟩:=gI p h h0 h1 d;obtain⟨bQ,N',e2,p2⟩:=A3 p1 hn hd (d+5);refine kG ⟨bQ,_,hs bQ ?_,p2,rfl⟩;exact ah 8 .z [.of p1.hP,.of p1.hT.ha] [.call .z (eP p1 (d+6)),.call .z e2] 0x222111111 tr
theorem kH{pr:FL}(p:bb U σ P F aa pl gr (lo++[pr]) tp)(h:Cd aa)(h0:aa[pl]?=some 92)(h1:aa[pl+1]?=some 41)(dW:lo.length<=100)(hn:tp.f.nodes.length<=1000)(hd:tp.f.done.length<=1000)(hp:pr.f.nodes.length<=1000)(d:Nat):∃ab,Run af (d+9) 37 [.loc P] σ .none ab/\bb U ab P F aa (pl+2) gr lo
   (pr.put (if tp.f.word=[115,104,121]then .aj [.str [115,104,121],eR tp.f]else .aj [.str [103,114,111,117,112],.int tp.f.num,eR tp.f])):=by
 refine cps fun G kG=>?_;obtain⟨bC,p1,hs⟩:=gI p h h0 h1 d;obtain⟨bQ,e2,p2⟩:=Bx p1 dW hn hd hp (d+4);refine kG ⟨bQ,hs bQ ?_,p2⟩;exact ah 8 .z [.of p1.hP] [.call .z e2] 0x211111 tr
theorem lN{ns:List V}{x:V}{w:List Nat}{num:Nat}{dn:List V}{a D N:Nat}(p:bb U σ P F aa pl gr lo ⟨⟨w,num,dn,ns++[x],false⟩,a,D,N⟩)(h:Cd aa)(hn:ns.length<=1000)
  {c m:Nat}(h0:aa[pl]?=some c)(hc:c=42\/c=43\/c=63){v:V}
  (hr:∀bC,bb U bC P F aa (pl+1) gr lo ⟨⟨w,num,dn,ns++[x],false⟩,a,D,N⟩->∀d,∃ab,Run af (d+3) 38 [.loc P,.str [c]] bC .none ab/\bb U ab P F aa m gr lo ⟨⟨w,num,dn,ns++[v],false⟩,a,D,N⟩)(d:Nat):∃ab,Run af (d+9) 37 [.loc P] σ .none ab/\bb U ab P F aa m gr lo ⟨⟨w,num,dn,ns++[v],false⟩,a,D,N⟩:=by
 refine cps fun G kG=>?_;obtain⟨bC,e1,p1⟩:=i4 p h h0 (d+7);obtain⟨bQ,e2,p2⟩:=hr bC p1 (d+5);refine kG ⟨bQ,?_,p2⟩;haveI JY:=eP p1 (d+7);haveI ha:=p1.hT.ha;dsimp only at ha JY;rcases hc with rfl|rfl|rfl
 all_goals exact ah 9 .z [.of p.hP,.of p1.hP,.of ha] [.call .z e1,.call .z JY,.call .z e2] 0x2232211211 tr
theorem qd{ns:List V}{x:V}{w:List Nat}{num:Nat}{dn:List V}{a D N:Nat}(p:bb U σ P F aa pl gr lo ⟨⟨w,num,dn,ns++[x],false⟩,a,D,N⟩)(h:Cd aa)(hn:ns.length<=1000)
  {m:Nat}(h0:aa[pl]?=some 92)(h1:aa[pl+1]?=some 123){v:V}
  (hr:∀bC,bb U bC P F aa (pl+2) gr lo ⟨⟨w,num,dn,ns++[x],false⟩,a,D,N⟩->∀d,∃ab,Run af (d+4) 48 [.loc P] bC .none ab/\bb U ab P F aa m gr lo ⟨⟨w,num,dn,ns++[v],false⟩,a,D,N⟩)(d:Nat):∃ab,Run af (d+9) 37 [.loc P] σ .none ab/\bb U ab P F aa m gr lo ⟨⟨w,num,dn,ns++[v],false⟩,a,D,N⟩:=by
 refine cps fun G kG=>?_;obtain⟨bC,p1,hs⟩:=gI p h h0 h1 d;obtain⟨bQ,e2,p2⟩:=hr bC p1 (d+3);refine kG ⟨bQ,hs bQ ?_,p2⟩;exact ah 8 .z [.of p1.hP] [.call .z e2] 0x21111111 tr
theorem turn(p:bb U σ P F aa pl gr lo tp)(h:Cd aa){c:Nat}(h0:aa[pl]?=some c){d:Nat}{ab bM:St}{fl:Fl}{fr:Fr}(e:Run af (d+9) 37 [.loc P] σ .none ab)
  (r:Wh af (d+9) i0 jg [some (.loc P)] ab fl fr bM):Wh af (d+9) i0 jg [some (.loc P)] σ fl fr bM:=by
 haveI hl:pl<(cv aa).length:=Rw (bF aa) ((h.idx h0).2.1);refine Wh.next (ae:=σ) ?_ ?_ r
 ·exact br 9 .z [.of p.hP] [] 0x211 (ai (Q1 (bF aa) h.len) (ai (gT hl) tr))
 ·exact bJ 9 .z [.of p.hP] [.call .z e] 0x21 tr
end
end
section
noncomputable def Re.nd:Re->List V
 |.atom a=>[a.nd]
 |.again k=>[.aj [.str [98,97,99,107],.int k]]
 |.either a b=>[.aj [.str [115,104,121],.aj [.str [97,108,116],.aj [jn a.nd,jn b.nd]]]]
 |.group k a=>[.aj [.str [103,114,111,117,112],.int k,jn a.nd]]
 |.ba q a=>[q.nd (.aj [.str [115,104,121],a.nd])]
 |.both a b=>a.nd++b.nd
theorem Re.Mh(k:Nat):(Re.again k).nd=[.aj [.str [98,97,99,107],.int k]]:=rfl
theorem Re.L0(a:Re)(b:Re):(Re.either a b).nd=[.aj [.str [115,104,121],.aj [.str [97,108,116],.aj [jn a.nd,jn b.nd]]]]:=rfl
theorem Re.Mn(k:Nat)(a:Re):(Re.group k a).nd=[.aj [.str [103,114,111,117,112],.int k,jn a.nd]]:=rfl
theorem Re.Em(q:Qn)(a:Atom):(Re.ba q a).nd=[q.nd (.aj [.str [115,104,121],a.nd])]:=rfl
theorem Re.wG(a:Re)(b:Re):(Re.both a b).nd=a.nd++b.nd:=rfl
theorem Atom.i9(a:Atom):∃c r,a.pat=c::r/\c≠42/\c≠43/\c≠63:=by cases a<;>exact⟨_,_,rfl,by decide,by decide,by decide⟩
theorem Re.i9:∀N:Re,∃c r,N.pat=c::r/\c≠42/\c≠43/\c≠63
 |.atom a=>a.i9
 |.again k=>⟨_,_,rfl,by decide,by decide,by decide⟩
 |.either a b=>⟨92,_,rfl,by decide,by decide,by decide⟩
 |.group k a=>⟨92,_,rfl,by decide,by decide,by decide⟩
 |.ba q a=>⟨92,_,rfl,by decide,by decide,by decide⟩
 |.both a b=>by refine cps fun G kG=>?_;obtain⟨c,r,e,h⟩:=a.i9;exact kG ⟨c,r++b.pat,by simp[Re.jw,e],h⟩
theorem Re.iJ:∀N:Re,N.nd.length<=N.pat.length/\1<=N.nd.length
 |.atom a=>by cases a<;>decide
 |.again k=>by simp[Re.Mh,Re.Ci]
 |.either a b=>by simp[Re.L0,Re.lx]
 |.group k a=>by simp[Re.Mn,Re.lF]
 |.ba q a=>by simp[Re.Em,Re.lE]
 |.both a b=>by simp only[Re.wG,Re.jw,length_append];exact PS b.iJ.2 a.iJ.1 b.iJ.1
theorem cS{aa l:List Nat}{pl:Nat}(h:aa.drop pl=l)(i:Nat):aa[pl+i]?=l[i]?:=Lw h (Rw (getElem?_drop) rfl)
theorem dR{aa a b:List Nat}{pl:Nat}(h:aa.drop pl=a++b):aa.drop (pl+a.length)=b:=by refine Lw drop_drop (Rw h (?_));simp
theorem wx{aa a b:List Nat}{pl c:Nat}{r:List Nat}(h:aa.drop pl=a++b)(hb:b=c::r)(hc:c≠42/\c≠43/\c≠63):NQ aa (pl+a.length):=by intro e he;haveI:=cS (dR h) 0;haveI this:=hb▸this;simp only[add_zero,List.getElem?_cons_zero]at this;rw[this]at he;replace he:=oj he;subst he;exact hc
theorem Gn.mono{N:Re}{g g':Nat}{cl fL:List Nat}(h:Gn N g cl g' fL):g<=g'/\∀k∈fL,k∈cl\/(g<k/\k<=g'):=by
 induction h with
 |atom=>exact⟨le_refl _,fun k hk=>.inl hk⟩
 |again=>exact⟨le_refl _,fun k hk=>.inl hk⟩
 |ba=>exact⟨le_refl _,fun k hk=>.inl hk⟩
 |either _ _ i1 i2=>
  refine⟨Dh i2.1 i1.1,fun k hk=>?_⟩;rcases i2.2 k hk with h|h
  ·rcases i1.2 k h with h|h
   ·exact .inl h
   ·exact .inr (J9 h.1 h.2 i2.1)
  ·exact .inr (Jl h.1 h.2 i1.1)
 |both _ _ i1 i2=>
  refine⟨Dh i2.1 i1.1,fun k hk=>?_⟩;rcases i2.2 k hk with h|h
  ·rcases i1.2 k h with h|h
   ·exact .inl h
   ·exact .inr (J9 h.1 h.2 i2.1)
  ·exact .inr (Jl h.1 h.2 i1.1)
 |group _ i1=>
  refine⟨Mu i1.1,fun k hk=>?_⟩;rw[mem_append]at hk;refine Or.elim hk (fun hk=>?_) fun hk=>?_
  ·refine Or.elim (i1.2 k hk) (fun h=>?_) fun h=>?_
   ·exact .inl h
   ·exact .inr (WL h.1 h.2)
  ·simp at hk;exact .inr (Rl i1.1 hk)
theorem gZ(lo:List FL)(tp l:FL):cY (lo++[tp]) l=cY lo tp++(if l.f.word=[103,114,111,117,112]then[l.f.num]else[]):=by unfold cY;rw[filter_append,map_append];congr 1;by_cases hw:l.f.word=[103,114,111,117,112]<;>simp[hw]
theorem uE{lo:List FL}{l l':FL}(hw:l'.f.word=l.f.word)(hn:l'.f.num=l.f.num):cY lo l'=cY lo l:=by unfold cY;rw[filter_append,filter_append,map_append,map_append];congr 1;by_cases h:l.f.word=[103,114,111,117,112]<;>simp[hw,hn,h]
theorem Gn.y6{A B:Re}{g g':Nat}{cl fL:List Nat}(G:Gn (.either A B) g cl g' fL):∃g1 eN,Gn A g cl g1 eN/\Gn B g1 eN g' fL:=by cases G;exact⟨_,_,by assumption,by assumption⟩
theorem Gn.CV{A B:Re}{g g':Nat}{cl fL:List Nat}(G:Gn (.both A B) g cl g' fL):∃g1 eN,Gn A g cl g1 eN/\Gn B g1 eN g' fL:=by cases G;exact⟨_,_,by assumption,by assumption⟩
section
variable {U:St} {P F:Nat} {aa:List Nat} (h:Cd aa) (d:Nat)
def Wp(P d:Nat)(σ ab:St):Prop:=∀fl fr bM,Wh af (d+9) i0 jg [some (.loc P)] ab fl fr bM->Wh af (d+9) i0 jg [some (.loc P)] σ fl fr bM
include h
theorem qw(a:Atom){σ:St}{pl gr:Nat}{lo:List FL}{tp:FL}{rest:List Nat}(p:bb U σ P F aa pl gr lo tp)(hd:aa.drop pl=a.pat++rest)(hn:tp.f.nodes.length<=1000):∃ab,bb U ab P F aa (pl+a.pat.length) gr lo (tp.put a.nd)/\Wp P d σ ab:=by
 haveI g:=cS hd;haveI g0:=g 0;rw[add_zero]at g0;cases a
 ·obtain⟨ab,e,q⟩:=mP p h g0 ((by decide)) hn d;exact⟨ab,q,fun y_ y_ y_=>turn p h g0 e⟩
 ·obtain⟨ab,e,q⟩:=mP p h g0 ((by decide)) hn d;exact⟨ab,q,fun y_ y_ y_=>turn p h g0 e⟩
 ·obtain⟨ab,e,q⟩:=mP p h g0 ((by decide)) hn d;exact⟨ab,q,fun y_ y_ y_=>turn p h g0 e⟩
 ·obtain⟨ab,e,q⟩:=step_any p h g0 hn d;exact⟨ab,q,fun y_ y_ y_=>turn p h g0 e⟩
 ·obtain⟨ab,e,q⟩:=vC p h g0 (m:=pl+4) (fun d σ=>uy d σ h (g 1) (g 2) (g 3)) hn d;exact⟨ab,q,fun y_ y_ y_=>turn p h g0 e⟩
 ·obtain⟨ab,e,q⟩:=vC p h g0 (m:=pl+4) (fun d σ=>uc d σ h (g 1) (g 2) (g 3)) hn d;exact⟨ab,q,fun y_ y_ y_=>turn p h g0 e⟩
theorem Fj(q:Qn){σ:St}{pl gr:Nat}{lo:List FL}{rest:List Nat}{ns:List V}{x:V}{w:List Nat}{num:Nat}{dn:List V}{a D N:Nat}(p:bb U σ P F aa pl gr lo ⟨⟨w,num,dn,ns++[x],false⟩,a,D,N⟩)
  (hd:aa.drop pl=q.txt++rest)(hq:NQ aa (pl+q.txt.length))(hn:ns.length<=1000):∃ab,bb U ab P F aa (pl+q.txt.length) gr lo ⟨⟨w,num,dn,ns++[q.nd x],false⟩,a,D,N⟩/\Wp P d σ ab:=by
 haveI g:=cS hd;haveI g0:=g 0;rw[add_zero]at g0;cases q
 ·obtain⟨ab,e,r⟩:=lN p h hn g0 (by simp) (fun bC p1 d=>rP p1 h hq hn (.inl ⟨rfl,rfl,rfl,rfl,rfl,rfl⟩) d) d;exact⟨ab,r,fun y_ y_ y_=>turn p h g0 e⟩
 ·obtain⟨ab,e,r⟩:=lN p h hn g0 ((by decide)) (fun bC p1 d=>rP p1 h hq hn (.inr (.inl ⟨rfl,rfl,rfl,rfl,rfl,rfl⟩)) d) d;exact⟨ab,r,fun y_ y_ y_=>turn p h g0 e⟩
 ·obtain⟨ab,e,r⟩:=lN p h hn g0 ((by decide)) (fun bC p1 d=>rP p1 h hq hn (.inr (.inr (.inl ⟨rfl,rfl,rfl,rfl,rfl,rfl⟩))) d) d;exact⟨ab,r,fun y_ y_ y_=>turn p h g0 e⟩
 ·obtain⟨ab,e,r⟩:=lN p h hn (m:=pl+2) g0 (by simp) (fun bC p1 d=>Dq p1 h (g 1) hq hn d) d;exact⟨ab,r,fun y_ y_ y_=>turn p h g0 e⟩
 ·obtain⟨ab,e,r⟩:=qd p h hn (m:=pl+7) g0 (g 1) (fun bC p1 d=>uA p1 h (g 2) (g 3) (g 4) (g 5) (g 6) hn d) d;exact⟨ab,r,fun y_ y_ y_=>turn p h g0 e⟩
 ·obtain⟨ab,e,r⟩:=qd p h hn (m:=pl+6) g0 (g 1) (fun bC p1 d=>xv p1 h (g 2) (g 3) (g 4) (g 5) hn d) d;exact⟨ab,r,fun y_ y_ y_=>turn p h g0 e⟩
def qR(U:St)(P F:Nat)(aa:List Nat)(d:Nat)(N:Re):Prop:=∀{σ:St} {pl gr lP:Nat} {lo:List FL} {tp:FL} {rest:List Nat} {cl fL:List Nat} (p:bb U σ P F aa pl gr lo tp)
  (hd:aa.drop pl=N.pat++rest) (hq:NQ aa (pl+N.pat.length)) (G:Gn N gr cl lP fL) (ho:∀k∈cY lo tp,k<=gr/\k∉cl) (hc:∀k∈cl,1<=k/\k<=gr) (h9:lP<=9)
  (dW:lo.length+N.dep<=90) (hn:tp.f.nodes.length+N.pat.length<=900) (uv:tp.f.done.length<=900),gW fun(ab:St) (Fz:FL)=>eF (Fz.f=⟨tp.f.word,tp.f.num,tp.f.done,tp.f.nodes++N.nd,false⟩) (bb U ab P F aa (pl+N.pat.length) lP lo Fz) (Wp P d σ ab)
theorem Eg{a:Atom}:qR U P F aa d (.atom a):=by intro σ pl gr lP lo tp rest cl fL p hd hq G ho hc h9 dW hn uv;cases G;obtain⟨ab,q,e⟩:=qw h d a p hd (KI hn);exact⟨ab,_,rfl,q,e⟩
set_option tactic.hygienic true in
theorem BE{k:Nat}:qR U P F aa d (.again k):=by intro σ pl gr lP lo tp rest cl fL p hd hq G ho hc h9 dW hn uv;cases G;rename_i hk;haveI g0:=(cS hd) 0;rw[add_zero]at g0;haveI mi:=hc k hk;refine cps fun G kG=>?_;obtain⟨ab,e,q⟩:=Bb p h mi.1 (Mw h9 mi.2) g0 ((cS hd) 1) mi.2 (fun hm=>(ho k hm).2 hk) (MC dW) (KI hn) d;exact kG ⟨ab,_,rfl,q,fun y_ y_ y_=>turn p h g0 e⟩
theorem zw{A:Re}{B:Re}(iA:qR U P F aa d A)(iB:qR U P F aa d B):qR U P F aa d (.either A B):=by
 intro σ pl gr lP lo tp rest cl fL p hd hq G ho hc h9 dW hn uv;obtain⟨g1,eN,GA,GB⟩:=G.y6;simp only[Re.lx,length_append,length_nil]at hn;haveI mA:=GA.mono;have d0:aa.drop pl=[92,40,63,58]++(A.pat++([92,124]++(B.pat++([92,41]++rest)))):=by simpa[Re.lx]using hd
 haveI d1:=dR d0;have d2:=dR d1;haveI d3:=dR d2;haveI g:=cS d0;haveI g0:=g 0;rw[add_zero]at g0;obtain⟨bC,l1,e1,p1,f1⟩:=vJ p h g0 (g 1) (g 2) (g 3) (Jp dW) d;have t1:Wp P d _ _:=fun y_ y_ y_=>turn p h g0 e1
 obtain⟨bQ,l2,f2,p2,t2⟩:=iA p1 d1 (wx d1 rfl (by decide)) GA (by
  intro k hk;rw[gZ,f1]at hk;simp at hk
  exact ho k hk) hc (Mw h9 GB.mono.1) (by simp;exact Vj dW) (by refine Rw f1 (?_);simp;exact VO hn) (by refine Rw f1 (?_);simp)
 haveI f2:=f1▸f2;simp only[nil_append]at f2;haveI ME:=(cS d2) 0;rw[add_zero]at ME;obtain⟨wc,l3,e3,p3,f3⟩:=Ac p2 h ME ((cS d2) 1) (by refine Rw f2 (?_);simp;exact WK hn A.iJ.1) (by refine Rw f2 (?_);simp) d;have t3:Wp P d _ _:=fun y_ y_ y_=>turn p2 h ME e3;haveI f3:=f2▸f3;simp only[nil_append]at f3
 obtain⟨jV,l4,f4,p4,t4⟩:=iB p3 d3 (wx d3 rfl (by decide)) GB (by
  intro k hk;rw[gZ,f3]at hk;simp at hk;have:=ho k hk;refine⟨Q2 this.1 mA.1,fun hm=>?_⟩;refine Or.elim (mA.2 k hm) (fun hm=>?_) fun hm=>?_
  ·exact this.2 hm
  ·exact Q7 hm.1 this.1) (by
  intro k hk;refine Or.elim (mA.2 k hk) (fun hm=>?_) fun hm=>?_
  ·haveI:=hc k hm;exact CQ this.1 this.2 mA.1
  ·exact Eh hm.1 hm.2) (MX h9) (by simp;exact NX dW) (by refine Rw f3 (?_);simp;exact Qz hn) (by refine Rw f3 (?_);simp)
 haveI f4:=f3▸f4;simp only[nil_append]at f4;haveI sV:=(cS (dR d3)) 0;rw[add_zero]at sV;obtain⟨uk,e5,p5⟩:=kH p4 h sV ((cS (dR d3)) 1) (Jp dW) (by refine Rw f4 (?_);simp;exact UA hn B.iJ.1) (by refine Rw f4 (?_);simp) (Vl hn) d;have t5:Wp P d _ _:=fun y_ y_ y_=>turn p4 h sV e5
 haveI hv:(if l4.f.word=[115,104,121]then V.aj [.str [115,104,121],eR l4.f]else .aj [.str [103,114,111,117,112],.int l4.f.num,eR l4.f])=.aj [.str [115,104,121],.aj [.str [97,108,116],.aj [jn A.nd,jn B.nd]]]:=by refine Rw f4 (Rw (if_pos rfl) (?_));rfl
 rw[hv]at p5;haveI hlen:pl+4+A.pat.length+2+B.pat.length+2=pl+(Re.either A B).pat.length:=by simp[Re.lx];exact RP
 rw[hlen]at p5;refine⟨uk,_,rfl,p5,fun y_ y_ y_ r=>?_⟩;exact t1 _ _ _ (t2 _ _ _ (t3 _ _ _ (t4 _ _ _ (t5 _ _ _ r))))
theorem z6{j:Nat}{A:Re}(iA:qR U P F aa d A):qR U P F aa d (.group j A):=by
 intro σ pl gr lP lo tp rest cl fL p hd hq G ho hc h9 dW hn uv
 cases G with
 |@group _ _ _ _ eN GA=>
 simp only[Re.lF,length_append,length_nil]at hn;have d0:aa.drop pl=[92,40]++(A.pat++([92,41]++rest)):=by simpa[Re.lF]using hd
 haveI d1:=dR d0;haveI g0:=(cS d0) 0;rw[add_zero]at g0;refine cps fun G kG=>?_;obtain⟨c,r,YS,FV⟩:=A.i9;refine kG ?_;haveI gA:=cS d1 0;rw[add_zero,YS]at gA;obtain⟨bC,l1,e1,p1,f1⟩:=zz p h g0 ((cS d0) 1) gA FV.2.2 (IP dW) d;haveI t1:Wp P d _ _:=fun y_ y_ y_=>turn p h g0 e1
 obtain⟨bQ,l2,f2,p2,t2⟩:=iA p1 d1 (wx d1 rfl (by decide)) GA (by
  intro k hk;rw[gZ,f1]at hk;simp at hk;rcases hk with hk|rfl
  ·haveI:=ho k hk;exact⟨Q0 this.1,this.2⟩
  ·exact⟨le_refl _,fun hm=>Xm (hc _ hm).2⟩) (fun k hk=>by haveI:=hc k hk;exact Ho this.1 this.2) (MX h9) (by simp;exact OS dW) (by refine Rw f1 (?_);simp;exact Pd hn) (by refine Rw f1 (?_);simp)
 haveI f2:=f1▸f2;simp only[nil_append]at f2;haveI sV:=(cS (dR d1)) 0;rw[add_zero]at sV;obtain⟨uk,e5,p5⟩:=kH p2 h sV ((cS (dR d1)) 1) (IP dW) (by refine Rw f2 (?_);simp;exact Of hn A.iJ.1) (by refine Rw f2 (?_);simp) (Oc hn) d;haveI t5:Wp P d _ _:=fun y_ y_ y_=>turn p2 h sV e5
 haveI hv:(if l2.f.word=[115,104,121]then V.aj [.str [115,104,121],eR l2.f]else .aj [.str [103,114,111,117,112],.int l2.f.num,eR l2.f])=.aj [.str [103,114,111,117,112],.int ((gr+1:Nat):Int),jn A.nd]:=by refine Rw f2 (?_);rfl
 rw[hv]at p5;have hlen:pl+2+A.pat.length+2=pl+(Re.group (gr+1) A).pat.length:=by simp[Re.lF];exact R8
 rw[hlen]at p5;refine⟨uk,_,rfl,p5,fun y_ y_ y_ r=>?_⟩;exact t1 _ _ _ (t2 _ _ _ (t5 _ _ _ r))
theorem Be{q:Qn}{a:Atom}:qR U P F aa d (.ba q a):=by
 intro σ pl gr lP lo tp rest cl fL p hd hq G ho hc h9 dW hn uv;cases G;simp only[Re.lE,length_append,length_nil]at hn;have d0:aa.drop pl=[92,40,63,58]++(a.pat++([92,41]++(q.txt++rest))):=by simpa[Re.lE]using hd
 haveI d2:=dR (dR d0);haveI g:=cS d0;haveI g0:=g 0;rw[add_zero]at g0;refine cps fun G kG=>?_;obtain⟨bC,l1,e1,p1,f1⟩:=vJ p h g0 (g 1) (g 2) (g 3) (MC dW) d;haveI t1:Wp P d _ _:=fun y_ y_ y_=>turn p h g0 e1;obtain⟨bQ,p2,t2⟩:=qw h d a p1 (dR d0) (by refine Rw f1 (?_);simp);refine kG ?_;have f2:(l1.put a.nd).f=⟨[115,104,121],0,[],[a.nd],false⟩:=by simp[FL.put,f1]
 haveI sV:=(cS d2) 0;rw[add_zero]at sV;obtain⟨uk,e5,p5⟩:=kH p2 h sV ((cS d2) 1) (MC dW) (by refine Rw f2 (?_);simp) (by refine Rw f2 (?_);simp) (Jg hn) d;haveI t5:Wp P d _ _:=fun y_ y_ y_=>turn p2 h sV e5
 haveI hv:(if(l1.put a.nd).f.word=[115,104,121]then V.aj [.str [115,104,121],eR (l1.put a.nd).f]else .aj [.str [103,114,111,117,112],.int (l1.put a.nd).f.num,eR (l1.put a.nd).f])=.aj [.str [115,104,121],a.nd]:=by refine Rw f2 (Rw (if_pos rfl) (?_));rfl
 rw[hv]at p5;have hlen:pl+4+a.pat.length+2+q.txt.length=pl+(Re.ba q a).pat.length:=by simp[Re.lE];exact VZ
 obtain⟨En,p6,t6⟩:=Fj h d q p5 (dR d2) (Rw hlen hq) (Jg hn);rw[hlen]at p6;refine⟨En,_,rfl,p6,fun y_ y_ y_ r=>?_⟩;exact t1 _ _ _ (t2 _ _ _ (t5 _ _ _ (t6 _ _ _ r)))
theorem DB{A:Re}{B:Re}(iA:qR U P F aa d A)(iB:qR U P F aa d B):qR U P F aa d (.both A B):=by
 intro σ pl gr lP lo tp rest cl fL p hd hq G ho hc h9 dW hn uv;obtain⟨g1,eN,GA,GB⟩:=G.CV;simp only[Re.jw,length_append]at hn;haveI mA:=GA.mono;have d0:aa.drop pl=A.pat++(B.pat++rest):=by simpa[Re.jw]using hd
 obtain⟨c,r,ZO,FV⟩:=B.i9;obtain⟨bQ,l2,f2,p2,t2⟩:=iA p d0 (wx d0 (r:=r++rest) (Rw ZO rfl) FV) GA ho hc (Mw h9 GB.mono.1) (UD dW) (NK hn) uv;haveI hlen:pl+A.pat.length+B.pat.length=pl+(Re.both A B).pat.length:=by simp only[Re.jw,length_append];exact RA
 obtain⟨jV,l4,f4,p4,t4⟩:=iB p2 (dR d0) (Rw hlen hq) GB (by
  intro k hk;haveI hk:=(uE (l:=tp) (Rw f2 rfl) (Rw f2 rfl))▸hk;have:=ho k hk;refine⟨Q2 this.1 mA.1,fun hm=>?_⟩;refine Or.elim (mA.2 k hm) (fun hm=>?_) fun hm=>?_
  ·exact this.2 hm
  ·exact Q7 hm.1 this.1) (by
  intro k hk;refine Or.elim (mA.2 k hk) (fun hm=>?_) fun hm=>?_
  ·haveI:=hc k hm;exact CQ this.1 this.2 mA.1
  ·exact Eh hm.1 hm.2) (MX h9) (WN dW) (by refine Rw f2 (?_);simp only[length_append];exact SJ hn A.iJ.1) (Rw f2 uv)
 rw[hlen]at p4;refine⟨jV,l4,by refine Rw f4 (Rw f2 (?_));simp[Re.wG],p4,fun y_ y_ y_ r=>?_⟩;exact t2 _ _ _ (t4 _ _ _ r)
theorem E0:∀N:Re,qR U P F aa d N:=fun N=>by
 induction N with
 |atom a=>exact Eg h d
 |again k=>exact BE h d
 |either A B iA iB=>exact zw h d iA iB
 |group j A iA=>exact z6 h d iA
 |ba q a=>exact Be h d
 |both A B iA iB=>exact DB h d iA iB
theorem Ea(N:Re){σ:St}{pl gr lP:Nat}{lo:List FL}{tp:FL}{rest:List Nat}{cl fL:List Nat}(p:bb U σ P F aa pl gr lo tp)
  (hd:aa.drop pl=N.pat++rest)(hq:NQ aa (pl+N.pat.length))(G:Gn N gr cl lP fL)(ho:∀k∈cY lo tp,k<=gr/\k∉cl)(hc:∀k∈cl,1<=k/\k<=gr)(h9:lP<=9)
  (dW:lo.length+N.dep<=90)(hn:tp.f.nodes.length+N.pat.length<=900)(uv:tp.f.done.length<=900):gW fun(ab:St) (Fz:FL)=>eF (Fz.f=⟨tp.f.word,tp.f.num,tp.f.done,tp.f.nodes++N.nd,false⟩) (bb U ab P F aa (pl+N.pat.length) lP lo Fz) (Wp P d σ ab):=E0 h d N p hd hq G ho hc h9 dW hn uv
end
end
noncomputable def qx:PF:=⟨[116,111,112],0,[],[],true⟩
noncomputable def oX(σ:St)(aa:List Nat):St:=σ++[pO aa 0 (σ.length+4) 0]++[zy qx (σ.length+2) (σ.length+3)]++[O.list []]++[O.list []]++[O.list [.loc (σ.length+1)]]
theorem uM(σ:St)(aa:List Nat):oX σ aa=σ++[pO aa 0 (σ.length+4) 0,zy qx (σ.length+2) (σ.length+3),.list [],.list [],.list [.loc (σ.length+1)]]:=by unfold oX;rw[append_assoc,append_assoc,append_assoc,append_assoc];rfl
theorem um(d:Nat)(σ:St)(aa:List Nat):Run af (d+2) 33 [.loc σ.length,.lst (cv aa)] (σ++[.inst 1 []]) .none (oX σ aa):=by haveI hf:=kP d (σ++[.inst 1 [(14,.lst (cv aa)),(15,.int 0)]]) [116,111,112] 0;exact ah 2 (.add .z _) [] [.call (.add (.add (.add (.add .z _) _) _) _) (length_append▸hf)] 0x22222122221222212222212222122222121112111 (ai trivial (ai trivial tr))
theorem Kx(σ:St)(aa:List Nat):bb σ (oX σ aa) σ.length (σ.length+4) aa 0 0 [] ⟨qx,σ.length+1,σ.length+2,σ.length+3⟩:=by
 have g:∀i,(oX σ aa)[σ.length+i]?=[pO aa 0 (σ.length+4) 0,zy qx (σ.length+2) (σ.length+3),.list [],.list [],.list [.loc (σ.length+1)]][i]?:=fun i=>by rw[uM,getElem?_append_right CT];simp
 refine⟨g 0,g 4,fun l hl=>(by cases hl),⟨g 1,g 2,g 3⟩,?_,?_,uM σ aa▸Ext.nP.app⟩
 ·simp
 ·simp
theorem ja(d:Nat)(σ:St)(N:Re)(gr:Nat)(cl:List Nat)(h:Cd N.pat)(hp:N.pat.length<=500)(G:Gn N 0 [] gr cl)(h9:gr<=9)(OY:N.dep<=50):∃ab,Run af (d+11) 10 [.lst (cv N.pat)] σ (.aj [jn N.nd,.int gr]) ab/\Ext σ ab:=by
 obtain⟨bC,tp,f1,p1,hw⟩:=Ea h d N (Kx σ N.pat) (rest:=[]) (by simp) (by intro c hc;simp at hc) G (by intro k hk;simp[cY,qx]at hk) (by intro k hk;cases hk) h9 (by simp;exact R2 OY) (by simp[qx];exact ON hp) ((zero_le _));haveI Mr:0+N.pat.length=N.pat.length:=Wu;haveI p1:=Mr▸p1;haveI hfn:eR tp.f=jn N.nd:=by refine Rw f1 (?_);rfl
 haveI hW:Wh af (d+9) i0 jg [some (.loc σ.length)] (oX σ N.pat) .next [some (.loc σ.length)] bC:=hw _ _ _ (Wh.stop (br 9 .z [.of p1.hP] [] 0x311 (ai (Q1 (bF N.pat) h.len) (ai (iX (FH (Vi (bF N.pat)))) tr))));refine⟨bC,?_,p1.ext⟩;exact ah 11 .z [.of (Kx σ N.pat).hP,.of p1.hP,.of p1.hF,.of p1.hT.ha] [.call .z (um (d+8) σ N.pat),.cL .z hW,.call .z (eP p1 (d+8)),.call .z (hfn▸(yS (d+7) p1.hT (by refine Rw f1 (?_);simp[qx];exact UT h.len N.iJ.1) (by refine Rw f1 (?_);simp[qx])))] 0x224221321121 (ai (show(V.loc tp.a::iu).length<=1000000 from(bl rfl)) tr)
section
set_option genCtorIdx false in inductive Row where
 |bL (a:Atom)
 |back (k:Nat)
 |point
 |split (a b:Nat)
 |bq (a:Nat)
 |save (i:Nat)
 |mark (m:Nat)
 |af (m:Nat)
 |done
noncomputable def Row.ctorIdx(x:Row):Nat:=Row.casesOn x (fun y_=>0) (fun y_=>1) 2 (fun y_ y_=>3) (fun y_=>4) (fun y_=>5) (fun y_=>6) (fun y_=>7) 8
noncomputable def Row.v(fo:Bool):Row->V
 |.bL a=>match a with
  |.cA=>.aj [.str [99,104,97,114],.int (if fo then 97 else 65)]
  |a=>a.nd
 |.back k=>.aj [.str [98,97,99,107],.int k]
 |.point=>.aj [.str [97,116],.str [112,111,105,110,116]]
 |.split a b=>.aj [.str [115,112,108,105,116],.int a,.int b]
 |.bq a=>.aj [.str [106,117,109,112],.int a]
 |.save i=>.aj [.str [115,97,118,101],.int i]
 |.mark m=>.aj [.str [109,97,114,107],.int m]
 |.af m=>.aj [.str [112,114,111,103,114,101,115,115],.int m]
 |.done=>.aj [.str [100,111,110,101]]
set_option genCtorIdx false in inductive Task where
 |node (v:V)
 |row (r:Row)
 |label (n:Nat)
noncomputable def Task.ctorIdx(x:Task):Nat:=Task.casesOn x (fun y_=>0) (fun y_=>1) (fun y_=>2)
noncomputable def Task.v(fo:Bool):Task->V
 |.node v=>.aj [.str [110,111,100,101],v]
 |.row r=>.aj [.str [114,111,119],r.v fo]
 |.label n=>.aj [.str [108,97,98,101,108],.int n]
structure CS where
 aq:List Row
 dict:List (Nat×Nat)
 ax:Nat
 bB:Nat
 wait:List Task
noncomputable def cO(fo:Bool)(R D W ax mk:Nat):O:=.inst 3 [(34,.bool fo),(33,.loc R),(35,.loc D),(36,.int ax),(4,.int mk),(37,.loc W)]
noncomputable def gf(d:List (Nat×Nat)):List (Int×V):=d.map fun x=>((x.1:Int),V.int x.2)
noncomputable def cE(k:Nat):List (Nat×Nat)->Option Nat
 |[]=>none
 |(j,v)::r=>if j=k then some v else cE k r
theorem Bf(k j v:Nat)(r:List (Nat×Nat)):cE k ((j,v)::r)=if j=k then some v else cE k r:=rfl
theorem fu(k:Nat):∀d:List (Nat×Nat),bx (k:Int) (gf d)=(cE k d).map fun n:Nat=>V.int n
 |[]=>rfl
 |(j,v)::r=>by
  haveI ih:=fu k r;simp only[gf,map_cons,r7,Bf]at ih ⊢;by_cases h:j=k
  ·obtain rfl:=Eq.symm h;simp
  ·have:=Kk h;exact Rw (if_neg this) (Rw (if_neg h) ih)
theorem qp(k v:Nat):∀d:List (Nat×Nat),cE k d=none->dput (k:Int) (.int v) (gf d)=gf (d++[(k,v)])
 |[]=>@fun _=>rfl
 |(j,x)::r=>@fun h=>by
  simp only[Bf]at h;by_cases hj:j=k
  ·replace h:=(if_pos hj)▸h;cases h
  ·haveI h:=(if_neg hj)▸h;haveI ih:=qp k v r h;simp only[gf,map_cons,Hw]at ih ⊢;exact Rw (if_neg (Kk hj)) (Rw ih rfl)
theorem mY(k:Nat):∀(d e:List (Nat×Nat)),cE k (d++e)=match cE k d with|some v=>some v|none=>cE k e
 |[]=>@fun e=>rfl
 |(j,v)::r=>@fun e=>by
  simp only[cons_append,Bf];by_cases h:j=k
  ·exact Rw (if_pos h) (Rw (if_pos h) rfl)
  ·exact Rw (if_neg h) (Rw (if_neg h) (mY k r e))
structure cp(U σ:St)(C R D W:Nat)(fo:Bool)(s:CS):Prop where
 hC:σ[C]?=some (cO fo R D W s.ax s.bB)
 hR:σ[R]?=some (.list (s.aq.map (Row.v fo)))
 hD:σ[D]?=some (.dict (gf s.dict))
 hW:σ[W]?=some (.list (s.wait.map (Task.v fo)))
 CR:C≠R
 CD:C≠D
 CW:C≠W
 RD:R≠D
 RW:R≠W
 DW:D≠W
 lC:U.length<=C
 lR:U.length<=R
 lD:U.length<=D
 lW:U.length<=W
 ext:Ext U σ
section
variable {U σ:St} {C R D W:Nat} {fo:Bool} {s:CS}
theorem cp.setC(p:cp U σ C R D W fo s)(ax mk:Nat):cp U (σ.set C (cO fo R D W ax mk)) C R D W fo {s with ax:=ax,bB:=mk}:=⟨aV (aH p.1),(au p.5).trans p.2,(au p.6).trans p.3,(au p.7).trans p.4,p.5,p.6,p.7,p.8,p.9,p.10,p.11,p.12,p.13,p.14,p.15.set p.11⟩
theorem cp.s7(p:cp U σ C R D W fo s)(aq:List Row):cp U (σ.set R (.list (aq.map (Row.v fo)))) C R D W fo {s with aq:=aq}:=⟨(au p.5.symm).trans p.1,aV (aH p.2),(au p.8).trans p.3,(au p.9).trans p.4,p.5,p.6,p.7,p.8,p.9,p.10,p.11,p.12,p.13,p.14,p.15.set p.12⟩
theorem cp.EX(p:cp U σ C R D W fo s)(d:List (Nat×Nat)):cp U (σ.set D (.dict (gf d))) C R D W fo {s with dict:=d}:=⟨(au p.6.symm).trans p.1,(au p.8.symm).trans p.2,aV (aH p.3),(au p.10).trans p.4,p.5,p.6,p.7,p.8,p.9,p.10,p.11,p.12,p.13,p.14,p.15.set p.13⟩
theorem cp.BQ(p:cp U σ C R D W fo s)(w:List Task):cp U (σ.set W (.list (w.map (Task.v fo)))) C R D W fo {s with wait:=w}:=⟨(au p.7.symm).trans p.1,(au p.9.symm).trans p.2,(au p.10.symm).trans p.3,aV (aH p.4),p.5,p.6,p.7,p.8,p.9,p.10,p.11,p.12,p.13,p.14,p.15.set p.14⟩
theorem fK(p:cp U σ C R D W fo s)(d:Nat):∃ab,Run af (d+1) 51 [.loc C] σ (.int ((s.ax+1:Nat):Int)) ab/\cp U ab C R D W fo {s with ax:=s.ax+1}:=by haveI e1:((s.ax+1:Nat):Int)=(s.ax:Int)+1:=W4;refine⟨_,?_,(p.setC (s.ax+1) s.bB)⟩;exact ah 1 .z [.of p.hC] [] 0x0 tr
theorem rT(d:Nat):∀(ts:List Task) {σ:St} {s:CS} (p:cp U σ C R D W fo s) (v:V) (e:Option V),s.wait.length+ts.length<=100000->∃ab e',cg (eU af d [2] false xR) (ts.map (Task.v fo)) [some (.loc C),some v,e] σ .next [some (.loc C),some v,e'] ab/\cp U ab C R D W fo {s with wait:=s.wait++ts}
 |[]=>by rename_i σ s;intro p v e _;exact⟨σ,e,cg.nil,by rw[append_nil];exact p⟩
 |t::ts=>by
  rename_i s;intro p v e hl;obtain⟨ab,e',h,q'⟩:=rT d ts (p.BQ (s.wait++[t])) v (some (t.v fo)) (Rw length_append (OQ hl));refine⟨ab,e',cg.next ?_ (map_append▸h),by rw[append_cons];exact q'⟩;haveI iR:(s.wait.map (Task.v fo)).length<1000000:=by rw[length_map];exact R9 hl
  exact dq 0 .z [.of p.hC,.of p.hW] [] 0x2221 (ai iR tr)
theorem hH(p:cp U σ C R D W fo s)(ts:List Task)(hl:s.aq.length+s.wait.length+ts.length<=20000)(d:Nat):∃ab,Run af (d+1) 52 [.loc C,.lst (ts.map (Task.v fo))] σ .none ab/\cp U ab C R D W fo {s with wait:=s.wait++ts.reverse}:=by refine cps fun G kG=>?_;obtain⟨ab,e',h,q⟩:=rT d ts.reverse p (.lst (ts.map (Task.v fo))) none (Rw length_reverse (Pc hl));refine kG ⟨ab,?_,q⟩;haveI m1:(s.aq.map (Row.v fo)).length=s.aq.length:=length_map ..;haveI m2:(s.wait.map (Task.v fo)).length=s.wait.length:=length_map ..;haveI m3:(ts.map (Task.v fo)).length=ts.length:=length_map ..;exact ah 1 .z [.of p.hC,.of p.hR,.of p.hW] [.md .z (map_reverse▸h)] 0x2331211 (ai (WX hl m1) (ai (XQ hl m2) (ai (XB hl m3) (ai (iX (U2 hl m3 m1 m2)) tr))))
end
end
section
noncomputable def Qn.loops:Qn->Bool|.opt=>false|.sX=>false|_=>true
noncomputable def eu(g:Bool)(x:V)(ax mk e:Nat):List Task:=[.label (ax+1),.row (if g then .split (ax+2) e else .split e (ax+2)),.label (ax+2),.row (.mark mk),.node x,.row (.af mk),.row (.bq (ax+1))]
noncomputable def gx(q:Qn)(x:V)(ax mk:Nat):List Task:=List.replicate q.least (.node x)++(if q.loops then eu q.bS x (ax+1) mk (ax+1)else[.row (.split (ax+2) (ax+1)),.label (ax+2),.node x])++[.label (ax+1)]
noncomputable def zT(a b:V)(ax:Nat):List Task:=[.row (.split (ax+2) (ax+3)),.label (ax+2),.node a,.row (.bq (ax+1)),.label (ax+3),.node b,.label (ax+1)]
section
variable {U σ:St} {C R D W:Nat} {fo:Bool} {s:CS}
theorem rp(p:cp U σ C R D W fo s)(r:Row):cp U (σ.set R (.list ((s.aq.map (Row.v fo))++[r.v fo]))) C R D W fo {s with aq:=s.aq++[r]}:=by simpa using(p.s7 (s.aq++[r]))
theorem s6(p:cp U σ C R D W fo s)(a:Atom)(hl:s.aq.length<=20000)(d:Nat):∃ab,Run af (d+8) 54 [.loc C,a.nd] σ .none ab/\cp U ab C R D W fo {s with aq:=s.aq++[.bL a]}:=by
 refine⟨_,?_,rp p (.bL a)⟩;haveI hC:=p.hC;haveI hR:=p.hR;haveI iR:(s.aq.map (Row.v fo)).length<1000000:=by simp;exact DS hl
 cases a<;>cases fo
 ·exact ah 8 .z [.of hC,.of hR] [] 0x221121111 (ai iR tr)
 ·exact ah 8 .z [.of hC,.of hR] [] 0x22111111121111 (ai iR tr)
 ·exact ah 8 .z [.of hC,.of hR] [] 0x221121111 (ai iR tr)
 ·exact ah 8 .z [.of hC,.of hR] [] 0x22111111121111 (ai iR tr)
 ·exact ah 8 .z [.of hC,.of hR] [] 0x221121111 (ai iR tr)
 ·exact ah 8 .z [.of hC,.of hR] [] 0x2211111121111 (ai iR tr)
 ·exact ah 8 .z [.of hC,.of hR] [] 0x22211111 (ai iR tr)
 ·exact ah 8 .z [.of hC,.of hR] [] 0x22211111 (ai iR tr)
 ·exact ah 8 .z [.of hC,.of hR] [] 0x22211111 (ai iR tr)
 ·exact ah 8 .z [.of hC,.of hR] [] 0x22211111 (ai iR tr)
 ·exact ah 8 .z [.of hC,.of hR] [] 0x22211111 (ai iR tr)
 ·exact ah 8 .z [.of hC,.of hR] [] 0x22211111 (ai iR tr)
theorem Ag(p:cp U σ C R D W fo s)(k:Nat)(hl:s.aq.length<=20000)(d:Nat):∃ab,Run af (d+8) 54 [.loc C,.aj [.str [98,97,99,107],.int k]] σ .none ab/\cp U ab C R D W fo {s with aq:=s.aq++[.back k]}:=by
 refine⟨_,?_,rp p (.back k)⟩;haveI iR:(s.aq.map (Row.v fo)).length<1000000:=by simp;exact DS hl
 exact ah 8 .z [.of p.hC,.of p.hR] [] 0x22211111 (ai iR tr)
theorem yc(p:cp U σ C R D W fo s)(hl:s.aq.length<=20000)(d:Nat):∃ab,Run af (d+8) 54 [.loc C,.aj [.str [97,116],.str [112,111,105,110,116]]] σ .none ab/\cp U ab C R D W fo {s with aq:=s.aq++[.point]}:=by
 refine⟨_,?_,rp p .point⟩;haveI iR:(s.aq.map (Row.v fo)).length<1000000:=by simp;exact DS hl
 exact ah 8 .z [.of p.hC,.of p.hR] [] 0x22211111 (ai iR tr)
theorem vF(p:cp U σ C R D W fo s)(l:List V)(hl:s.aq.length+s.wait.length+l.length<=20000)(d:Nat):∃ab,Run af (d+8) 54 [.loc C,.aj [.str [115,101,113],.aj l]] σ .none ab/\cp U ab C R D W fo {s with wait:=s.wait++(l.map .node).reverse}:=by obtain⟨ab,e,q⟩:=hH p (l.map .node) (by simpa using hl) (d+6);refine⟨ab,?_,q⟩;haveI GR:=fun e0 e1 e2=>bw.map (step:=bV af (d+7) yJ [3] false (.cst (.bool true)) [e0,e1,e2,none]) (σ:=σ) (i:=fun v=>v) (g:=fun v=>Task.v fo (.node v)) l [] (fun v y_=>eW 7 .z [] [] 0x0 tr) (Xx hl);rw[List.map_id',nil_append]at GR;exact ah 8 .z [.of p.hC] [.eI .z (GR (some (.loc C)) (some (.aj [.str [115,101,113],.aj l])) (some (.str [115,101,113]))),.call .z (map_map▸e)] 0x221111111 tr
theorem pM(p:cp U σ C R D W fo s)(x:V)(hl:s.aq.length+s.wait.length+1<=20000)(d:Nat):∃ab,Run af (d+8) 54 [.loc C,.aj [.str [115,104,121],x]] σ .none ab/\cp U ab C R D W fo {s with wait:=s.wait++[.node x]}:=by obtain⟨ab,e,q⟩:=hH p [.node x] (hl) (d+6);refine⟨ab,?_,q⟩;exact ah 8 .z [.of p.hC] [.call .z e] 0x211111111 tr
theorem xX(p:cp U σ C R D W fo s)(k:Nat)(hk:k<=1000)(x:V)(hl:s.aq.length+s.wait.length+3<=20000)(d:Nat):∃ab,Run af (d+8) 54 [.loc C,.aj [.str [103,114,111,117,112],.int k,x]] σ .none ab/\cp U ab C R D W fo {s with wait:=s.wait++[.row (.save (2*k+1)),.node x,.row (.save (2*k))]}:=by obtain⟨ab,e,q⟩:=hH p [.row (.save (2*k)),.node x,.row (.save (2*k+1))] (hl) (d+6);refine⟨ab,?_,q⟩;exact ah 8 .z [.of p.hC] [.bin (fun y_=>bR (x:=2) (by decide) (by decide) (fA) (fE (b:=1000000000) (Lc hk))),.bin (fun y_=>bR (x:=2) (by decide) (by decide) (fA) (fE (b:=1000000000) (Lc hk))),.call .z e] 0x211111111111 tr
theorem Ek(p:cp U σ C R D W fo s)(a b:V)(hl:s.aq.length+s.wait.length+7<=20000)(d:Nat):∃ab,Run af (d+8) 54 [.loc C,.aj [.str [97,108,116],.aj [a,b]]] σ .none ab/\cp U ab C R D W fo {s with ax:=s.ax+3,wait:=s.wait++(zT a b s.ax).reverse}:=by refine cps fun G kG=>?_;obtain⟨bC,e1,p1⟩:=fK p (d+5);obtain⟨bQ,e2,p2⟩:=fK p1 (d+5);obtain⟨wc,e3,p3⟩:=fK p2 (d+5);obtain⟨ab,e,q⟩:=hH p3 (zT a b s.ax) (hl) (d+5);refine kG ⟨ab,?_,q⟩;dsimp only at e1 e2 e3;exact ah 8 .z [.of p.hC,.of p1.hC,.of p2.hC,.of p3.hC] [.call .z e1,.call .z e2,.call .z e3,.bin (fun y_=>aJ (x:=[]) (y:=[V.aj [V.str [114,111,119],V.aj [V.str [115,112,108,105,116],V.int (↑(s.ax+1+1):Int),V.int (↑(s.ax+1+1+1):Int)]],V.aj [V.str [108,97,98,101,108],V.int (↑(s.ax+1+1):Int)],V.aj [V.str [110,111,100,101],a]]) (bl rfl)),.bin (fun y_=>aJ (x:=[]++[V.aj [V.str [114,111,119],V.aj [V.str [115,112,108,105,116],V.int (↑(s.ax+1+1):Int),V.int (↑(s.ax+1+1+1):Int)]],V.aj [V.str [108,97,98,101,108],V.int (↑(s.ax+1+1):Int)],V.aj [V.str [110,111,100,101],a]]) (y:=[V.aj [V.str [114,111,119],V.aj [V.str [106,117,109,112],V.int (↑(s.ax+1):Int)]],V.aj [V.str [108,97,98,101,108],V.int (↑(s.ax+1+1+1):Int)]]) (bl rfl)),.bin (fun y_=>aJ (x:=[]++[V.aj [V.str [114,111,119],V.aj [V.str [115,112,108,105,116],V.int (↑(s.ax+1+1):Int),V.int (↑(s.ax+1+1+1):Int)]],V.aj [V.str [108,97,98,101,108],V.int (↑(s.ax+1+1):Int)],V.aj [V.str [110,111,100,101],a]]++[V.aj [V.str [114,111,119],V.aj [V.str [106,117,109,112],V.int (↑(s.ax+1):Int)]],V.aj [V.str [108,97,98,101,108],V.int (↑(s.ax+1+1+1):Int)]]) (y:=[V.aj [V.str [110,111,100,101],b],V.aj [V.str [108,97,98,101,108],V.int (↑(s.ax+1):Int)]]) (bl rfl)),.call .z e] 0x2142322112111111111111 tr
end
end
section
section
variable {U σ:St} {C R D W:Nat} {fo:Bool} {s:CS}
theorem vm(p:cp U σ C R D W fo s)(a b:Nat)(g:Bool)(d:Nat):Run af (d+1) 57 [.loc C,.int a,.int b,.bool g] σ (Row.v fo (if g then .split a b else .split b a)) σ:=by cases g<;>exact ah 1 .z [] [] 0x0 tr
theorem EC(p:cp U σ C R D W fo s)(x:V)(g:Bool)(e:Nat)(d:Nat):∃ab,Run af (d+2) 58 [.loc C,x,.bool g,.int e] σ (.lst ((eu g x s.ax s.bB e).map (Task.v fo))) ab/\cp U ab C R D W fo {s with ax:=s.ax+2,bB:=s.bB+1}:=by
 obtain⟨bC,e1,p1⟩:=fK p d;obtain⟨bQ,e2,p2⟩:=fK p1 d;haveI p3:=p2.setC (s.ax+2) (s.bB+1);haveI qS:=p2.hC;haveI pG:=vm p3 (s.ax+2) e g d;refine⟨_,?_,p3⟩;cases g
 ·exact ah 2 .z [.of p.hC,.of p1.hC,.of qS] [.call .z e1,.call .z e2,.call (.put .z _ _) pG,.bin (fun y_=>aJ (x:=[V.aj [V.str [108,97,98,101,108],V.int (↑(s.ax+1):Int)],V.aj [V.str [114,111,119],Row.v fo (if false=true then Row.split (s.ax+2) e else Row.split e (s.ax+2))],V.aj [V.str [108,97,98,101,108],V.int (↑(s.ax+1+1):Int)]]) (y:=[V.aj [V.str [114,111,119],V.aj [V.str [109,97,114,107],V.int (↑s.bB:Int)]],V.aj [V.str [110,111,100,101],x],V.aj [V.str [114,111,119],V.aj [V.str [112,114,111,103,114,101,115,115],V.int (↑s.bB:Int)]]]) (bl rfl)),.bin (fun y_=>aJ (x:=[V.aj [V.str [108,97,98,101,108],V.int (↑(s.ax+1):Int)],V.aj [V.str [114,111,119],Row.v fo (if false=true then Row.split (s.ax+2) e else Row.split e (s.ax+2))],V.aj [V.str [108,97,98,101,108],V.int (↑(s.ax+1+1):Int)]]++[V.aj [V.str [114,111,119],V.aj [V.str [109,97,114,107],V.int (↑s.bB:Int)]],V.aj [V.str [110,111,100,101],x],V.aj [V.str [114,111,119],V.aj [V.str [112,114,111,103,114,101,115,115],V.int (↑s.bB:Int)]]]) (y:=[V.aj [V.str [114,111,119],V.aj [V.str [106,117,109,112],V.int (↑(s.ax+1):Int)]]]) (bl rfl))] 0x21333322211 (ai (ai (aH qS) tr) tr)
 ·exact ah 2 .z [.of p.hC,.of p1.hC,.of qS] [.call .z e1,.call .z e2,.call (.put .z _ _) pG,.bin (fun y_=>aJ (x:=[V.aj [V.str [108,97,98,101,108],V.int (↑(s.ax+1):Int)],V.aj [V.str [114,111,119],Row.v fo (if true=true then Row.split (s.ax+2) e else Row.split e (s.ax+2))],V.aj [V.str [108,97,98,101,108],V.int (↑(s.ax+1+1):Int)]]) (y:=[V.aj [V.str [114,111,119],V.aj [V.str [109,97,114,107],V.int (↑s.bB:Int)]],V.aj [V.str [110,111,100,101],x],V.aj [V.str [114,111,119],V.aj [V.str [112,114,111,103,114,101,115,115],V.int (↑s.bB:Int)]]]) (bl rfl)),.bin (fun y_=>aJ (x:=[V.aj [V.str [108,97,98,101,108],V.int (↑(s.ax+1):Int)],V.aj [V.str [114,111,119],Row.v fo (if true=true then Row.split (s.ax+2) e else Row.split e (s.ax+2))],V.aj [V.str [108,97,98,101,108],V.int (↑(s.ax+1+1):Int)]]++[V.aj [V.str [114,111,119],V.aj [V.str [109,97,114,107],V.int (↑s.bB:Int)]],V.aj [V.str [110,111,100,101],x],V.aj [V.str [114,111,119],V.aj [V.str [112,114,111,103,114,101,115,115],V.int (↑s.bB:Int)]]]) (y:=[V.aj [V.str [114,111,119],V.aj [V.str [106,117,109,112],V.int (↑(s.ax+1):Int)]]]) (bl rfl))] 0x21333322211 (ai (ai (aH qS) tr) tr)
theorem yw(p:cp U σ C R D W fo s)(q:Qn)(x:V)(hl:s.aq.length+s.wait.length+20<=20000)(d:Nat):∃ab,Run af (d+8) 54 [.loc C,q.nd x] σ .none ab/\cp U ab C R D W fo {s with ax:=(if q.loops then s.ax+3 else s.ax+2),bB:=(if q.loops then s.bB+1 else s.bB),wait:=s.wait++(gx q x s.ax s.bB).reverse}:=by
 obtain⟨bC,e1,p1⟩:=fK p (d+5);haveI hC:=p.hC;haveI DI:=p1.hC;have lt:(gx q x s.ax s.bB).length<=15:=by cases q<;>exact bl rfl
 haveI m0:∀σ,binop .mul σ (.lst [.aj [.str [110,111,100,101],x]]) (.int 0)=some (.lst []):=fun y_=>rfl;haveI m1:∀σ,binop .mul σ (.lst [.aj [.str [110,111,100,101],x]]) (.int 1)=some (.lst [.aj [.str [110,111,100,101],x]]):=fun y_=>rfl;haveI m2:∀σ,binop .mul σ (.lst [.aj [.str [110,111,100,101],x]]) (.int 2)=some (.lst [.aj [.str [110,111,100,101],x],.aj [.str [110,111,100,101],x]]):=fun y_=>rfl;cases hq:q.loops
 ·obtain⟨bQ,e2,p2⟩:=fK p1 (d+5);have qS:=p2.hC;have pG:=vm p2 (s.ax+2) (s.ax+1) true (d+5);obtain⟨ab,e,r⟩:=hH p2 (gx q x s.ax s.bB) (Jb hl lt) (d+5);refine⟨ab,?_,r⟩;cases q<;>try cases hq
  ·exact ah 8 .z [.of hC,.of DI,.of qS] [.bin m0,.call .z e1,.call .z e2,.call .z pG,.bin (fun y_=>aJ (x:=[]) (y:=[V.aj [V.str [114,111,119],Row.v fo (if true=true then Row.split (s.ax+2) (s.ax+1)else Row.split (s.ax+1) (s.ax+2))],V.aj [V.str [108,97,98,101,108],V.int (↑(s.ax+1+1):Int)],V.aj [V.str [110,111,100,101],x]]) (bl rfl)),.bin (fun y_=>aJ (x:=[]++[V.aj [V.str [114,111,119],Row.v fo (if true=true then Row.split (s.ax+2) (s.ax+1)else Row.split (s.ax+1) (s.ax+2))],V.aj [V.str [108,97,98,101,108],V.int (↑(s.ax+1+1):Int)],V.aj [V.str [110,111,100,101],x]]) (y:=[V.aj [V.str [108,97,98,101,108],V.int (↑(s.ax+1):Int)]]) (bl rfl)),.call .z e] 0x232322111211111111111 (ai (show iu.length<=1000000 from(by decide)) (ai (show small (Qn.opt.most-(↑Qn.opt.least:Int))=true from(by decide)) tr))
  ·exact ah 8 .z [.of hC,.of DI,.of qS] [.bin m1,.call .z e1,.call .z e2,.call .z pG,.bin (fun y_=>aJ (x:=[V.aj [V.str [110,111,100,101],x]]) (y:=[V.aj [V.str [114,111,119],Row.v fo (if true=true then Row.split (s.ax+2) (s.ax+1)else Row.split (s.ax+1) (s.ax+2))],V.aj [V.str [108,97,98,101,108],V.int (↑(s.ax+1+1):Int)],V.aj [V.str [110,111,100,101],x]]) (bl rfl)),.bin (fun y_=>aJ (x:=[V.aj [V.str [110,111,100,101],x]]++[V.aj [V.str [114,111,119],Row.v fo (if true=true then Row.split (s.ax+2) (s.ax+1)else Row.split (s.ax+1) (s.ax+2))],V.aj [V.str [108,97,98,101,108],V.int (↑(s.ax+1+1):Int)],V.aj [V.str [110,111,100,101],x]]) (y:=[V.aj [V.str [108,97,98,101,108],V.int (↑(s.ax+1):Int)]]) (bl rfl)),.call .z e] 0x232322111211111111111 (ai (show(V.aj (V.str (110::111::100::101::jd)::x::iu)::iu).length<=1000000 from(bl rfl)) (ai (show small (Qn.sX.most-(↑Qn.sX.least:Int))=true from(by decide)) tr))
 ·obtain⟨bQ,e2,p2⟩:=EC p1 x q.bS (s.ax+1) (d+4);have qS:=p2.hC;obtain⟨ab,e,r⟩:=hH p2 (gx q x s.ax s.bB) (Jb hl lt) (d+5);refine⟨ab,?_,r⟩;cases q<;>try cases hq
  ·exact ah 8 .z [.of hC,.of DI,.of qS] [.bin m0,.call .z e1,.call .z e2,.bin (fun y_=>aJ (x:=[]) (y:=List.map (Task.v fo) (eu Qn.star.bS x (s.ax+1) s.bB (s.ax+1))) (bl rfl)),.bin (fun y_=>aJ (x:=[]++List.map (Task.v fo) (eu Qn.star.bS x (s.ax+1) s.bB (s.ax+1))) (y:=[V.aj [V.str [108,97,98,101,108],V.int (↑(s.ax+1):Int)]]) (bl rfl)),.call .z e] 0x2312211211111111111 (ai (show iu.length<=1000000 from(by decide)) (ai (show small (Qn.star.most-(↑Qn.star.least:Int))=true from(by decide)) tr))
  ·exact ah 8 .z [.of hC,.of DI,.of qS] [.bin m1,.call .z e1,.call .z e2,.bin (fun y_=>aJ (x:=[V.aj [V.str [110,111,100,101],x]]) (y:=List.map (Task.v fo) (eu Qn.plus.bS x (s.ax+1) s.bB (s.ax+1))) (bl rfl)),.bin (fun y_=>aJ (x:=[V.aj [V.str [110,111,100,101],x]]++List.map (Task.v fo) (eu Qn.plus.bS x (s.ax+1) s.bB (s.ax+1))) (y:=[V.aj [V.str [108,97,98,101,108],V.int (↑(s.ax+1):Int)]]) (bl rfl)),.call .z e] 0x2312211211111111111 (ai (show(V.aj (V.str (110::111::100::101::jd)::x::iu)::iu).length<=1000000 from(bl rfl)) (ai (show small (Qn.plus.most-(↑Qn.plus.least:Int))=true from(by decide)) tr))
  ·exact ah 8 .z [.of hC,.of DI,.of qS] [.bin m0,.call .z e1,.call .z e2,.bin (fun y_=>aJ (x:=[]) (y:=List.map (Task.v fo) (eu Qn.lazy.bS x (s.ax+1) s.bB (s.ax+1))) (bl rfl)),.bin (fun y_=>aJ (x:=[]++List.map (Task.v fo) (eu Qn.lazy.bS x (s.ax+1) s.bB (s.ax+1))) (y:=[V.aj [V.str [108,97,98,101,108],V.int (↑(s.ax+1):Int)]]) (bl rfl)),.call .z e] 0x2312211211111111111 (ai (show iu.length<=1000000 from(by decide)) (ai (show small (Qn.lazy.most-(↑Qn.lazy.least:Int))=true from(by decide)) tr))
  ·exact ah 8 .z [.of hC,.of DI,.of qS] [.bin m2,.call .z e1,.call .z e2,.bin (fun y_=>aJ (x:=[V.aj [V.str [110,111,100,101],x],V.aj [V.str [110,111,100,101],x]]) (y:=List.map (Task.v fo) (eu Qn.two.bS x (s.ax+1) s.bB (s.ax+1))) (bl rfl)),.bin (fun y_=>aJ (x:=[V.aj [V.str [110,111,100,101],x],V.aj [V.str [110,111,100,101],x]]++List.map (Task.v fo) (eu Qn.two.bS x (s.ax+1) s.bB (s.ax+1))) (y:=[V.aj [V.str [108,97,98,101,108],V.int (↑(s.ax+1):Int)]]) (bl rfl)),.call .z e] 0x2312211211111111111 (ai (show(V.aj (V.str (110::111::100::101::jd)::x::iu)::V.aj (V.str (110::111::100::101::jd)::x::iu)::iu).length<=1000000 from(bl rfl)) (ai (show small (Qn.two.most-(↑Qn.two.least:Int))=true from(by decide)) tr))
end
end
section
section
variable (A:Nat->Row->Prop) (M:Nat)
def oK(g:Bool)(a:Atom)(pc cy:Nat):Prop:=∃m,GQ (m<M) (A pc (if g then .split (pc+1) cy else .split cy (pc+1))) (A (pc+1) (.mark m)) (A (pc+2) (.bL a)) (A (pc+3) (.af m)) (A (pc+4) (.bq pc)) (cy=pc+5)
def s9(a:Atom)(pc cy:Nat):Prop:=A pc (.split (pc+1) cy)/\A (pc+1) (.bL a)/\cy=pc+2
def Fw(q:Qn)(a:Atom)(pc cy:Nat):Prop:=(∀i,i<q.least->A (pc+i) (.bL a))/\(if q.loops then oK A M q.bS a (pc+q.least) cy else s9 A a (pc+q.least) cy)
noncomputable def Code:Re->Nat->Nat->Prop
 |.atom a,pc,cy=>A pc (.bL a)/\cy=pc+1
 |.again k,pc,cy=>A pc (.back k)/\cy=pc+1
 |.either a b,pc,cy=>∃p1,A pc (.split (pc+1) (p1+1))/\Code a (pc+1) p1/\A p1 (.bq cy)/\Code b (p1+1) cy
 |.group k a,pc,cy=>∃p1,A pc (.save (2*k))/\Code a (pc+1) p1/\A p1 (.save (2*k+1))/\cy=p1+1
 |.ba q a,pc,cy=>Fw A M q a pc cy
 |.both a b,pc,cy=>∃p1,Code a pc p1/\Code b p1 cy
end
theorem Code.mono{A A':Nat->Row->Prop}{M M':Nat}(hA:∀pc r,A pc r->A' pc r)(hM:M<=M'):∀{N:Re} {pc cy:Nat},Code A M N pc cy->Code A' M' N pc cy
 |.atom a=>@fun h=>⟨hA _ _ h.1,h.2⟩
 |.again k=>@fun h=>⟨hA _ _ h.1,h.2⟩
 |.either a b=>by intro kW;obtain⟨p1,h1,h2,h3,h4⟩:=kW;exact⟨p1,hA _ _ h1,Code.mono hA hM h2,hA _ _ h3,Code.mono hA hM h4⟩
 |.group k a=>by intro kW;obtain⟨p1,h1,h2,h3,h4⟩:=kW;exact⟨p1,hA _ _ h1,Code.mono hA hM h2,hA _ _ h3,h4⟩
 |.ba q a=>by
  intro h;refine⟨fun i hi=>hA _ _ (h.1 i hi),?_⟩;haveI h2:=h.2
  split at h2
  ·rename_i hq;obtain⟨m,hm,h1,h2,h3,h4,h5,h6⟩:=h2;exact Rw (if_pos hq) ⟨m,QZ hm hM,hA _ _ h1,hA _ _ h2,hA _ _ h3,hA _ _ h4,hA _ _ h5,h6⟩
  ·rename_i hq;exact Rw (if_neg hq) ⟨hA _ _ h2.1,hA _ _ h2.2.1,h2.2.2⟩
 |.both a b=>by intro kW;obtain⟨p1,h1,h2⟩:=kW;exact⟨p1,Code.mono hA hM h1,Code.mono hA hM h2⟩
noncomputable def settle(d:List (Nat×Nat)):Row->Option Row
 |.split a b=>match cE a d,cE b d with|some x,some y=>some (.split x y)|_,_=>none
 |.bq a=>(cE a d).map .bq
 |r=>some r
def AG(aq:List Row)(d:List (Nat×Nat))(pc:Nat)(r:Row):Prop:=∃r0,aq[pc]?=some r0/\settle d r0=some r
def dh(d d':List (Nat×Nat)):Prop:=∀k v,cE k d=some v->cE k d'=some v
theorem ur{d:List (Nat×Nat)}{a b:Nat}{r:Row}(h:settle d (.split a b)=some r):∃x y,cE a d=some x/\cE b d=some y/\Row.split x y=r:=by
 revert h;show(match cE a d,cE b d with|some x,some y=>some (Row.split x y)|_,_=>none)=some r->_
 cases cE a d with
 |none=>exact nn
 |some x=>cases cE b d with
  |none=>exact nn
  |some y=>exact fun e=>⟨x,y,rfl,rfl,oj e⟩
set_option tactic.hygienic true in
theorem wq{d d':List (Nat×Nat)}(h:dh d d'){r0 r:Row}(e:settle d r0=some r):settle d' r0=some r:=by
 cases r0<;>simp only[settle]at e ⊢<;>try exact e
 ·rename_i a b
  cases ha:cE a d with
  |none=>haveI e:=ha▸e;exact nn e
  |some x=>
   cases hb:cE b d with
   |none=>haveI e:=hb▸(ha▸e);exact nn e
   |some y=>haveI e:=hb▸(ha▸e);exact Rw (h _ _ ha) (Rw (h _ _ hb) e)
 ·rename_i a
  cases ha:cE a d with
  |none=>haveI e:=ha▸e;exact nn e
  |some x=>exact Rw (h _ _ ha) (ha▸e)
theorem AG.mono{aq rs:List Row}{d d':List (Nat×Nat)}(h:dh d d'){pc:Nat}{r:Row}(a:AG aq d pc r):AG (aq++rs) d' pc r:=by obtain⟨r0,h1,h2⟩:=a;exact⟨r0,Rw (getElem?_append_left (List.getElem?_eq_some_iff.mp h1).1) h1,wq h h2⟩
theorem a9{k n v:Nat}{d:List (Nat×Nat)}(h:k≠n):cE k (d++[(n,v)])=cE k d:=by
 rw[mY]
 cases cE k d with
 |some x=>rfl
 |none=>show(if n=k then _ else _)=_;exact Rw (if_neg (fun e=>h e.symm)) rfl
theorem bW{n v:Nat}{d:List (Nat×Nat)}(h:cE n d=none):cE n (d++[(n,v)])=some v:=by rw[mY,h];show(if n=n then _ else _)=_;exact Rw (if_pos rfl) rfl
theorem dh.snoc{n v:Nat}{d:List (Nat×Nat)}:dh d (d++[(n,v)]):=fun k x e=>by rw[mY,e]
theorem dh.nP{d:List (Nat×Nat)}:dh d d:=fun y_ y_ e=>e
theorem dh.trans{a b c:List (Nat×Nat)}(h:dh a b)(h':dh b c):dh a c:=fun k v e=>h' k v (h k v e)
section
variable (U:St) (C R D W:Nat) (fo:Bool) (d:Nat) (nv:V)
def Do(s s':CS):Prop:=∀(σ:St) (e2 e3:Option V),cp U σ C R D W fo s->mQ fun ab Av mh=>cp U ab C R D W fo s'/\∀fl fr bM,Wh af (d+9) ni nH [some (.loc C),some nv,Av,mh] ab fl fr bM->Wh af (d+9) ni nH [some (.loc C),some nv,e2,e3] σ fl fr bM
end
section
variable {U:St} {C R D W:Nat} {fo:Bool} {d:Nat} {nv:V}
theorem Do.trans{s s' Vv:CS}(h:Do U C R D W fo d nv s s')(h':Do U C R D W fo d nv s' Vv):Do U C R D W fo d nv s Vv:=by intro σ e2 e3 p;refine cps fun G kG=>?_;obtain⟨bC,f2,f3,p1,h1⟩:=h σ e2 e3 p;obtain⟨bQ,g2,g3,p2,h2⟩:=h' bC f2 f3 p1;exact kG ⟨bQ,g2,g3,p2,fun fl fr bM r=>h1 fl fr bM (h2 fl fr bM r)⟩
theorem Do.zero{s:CS}:Do U C R D W fo d nv s s:=fun σ e2 e3 p=>⟨σ,e2,e3,p,fun y_ y_ y_ r=>r⟩
theorem kh(fo:Bool)(w:List Task)(t:Task):((w++[t]).map (Task.v fo)).getLast?=some (t.v fo)/\((w++[t]).map (Task.v fo)).dropLast=w.map (Task.v fo)/\(w++[t]).map (Task.v fo)≠[]:=Rw map_append ⟨getLast?_concat,dropLast_concat,fun e=>by cases(List.append_eq_nil_iff.mp e).2⟩
theorem mI{fo:Bool}{w:List Task}{t:Task}(h:w.length<=20000):((w++[t]).map (Task.v fo)).length<=1000000:=by rw[length_map,length_append];exact RY h
theorem vI{fo:Bool}{rs:List Row}(h:rs.length<=20000):(rs.map (Row.v fo)).length<1000000:=by rw[length_map];exact DS h
theorem fj{s:CS}{w:List Task}{r:Row}(hs:s.wait=w++[.row r])(hw:w.length<=20000)(hr:s.aq.length<=20000):Do U C R D W fo d nv s {s with aq:=s.aq++[r],wait:=w}:=by
 intro σ e2 e3 p;haveI hW:=p.hW;haveI Mv:=p.RW;haveI hW:=hs▸hW;haveI oo:=kh fo w (.row r);refine⟨_,some (.str [114,111,119]),some (r.v fo),(rp (p.BQ w) r),fun fl fr bM k=>Wh.next (ae:=σ) ?_ ?_ k⟩
 ·exact br 9 .z [.of p.hC,.of hW] [] 0x3241 (ai oo.2.2 tr)
 ·exact bJ 9 .z [.of p.hC,.of hW,.of p.hR] [.pop oo.1 oo.2.1] 0x3232321212221 (ai (mI (fo:=fo) (t:=.row r) hw) (ai p.CW (ai Mv (ai Mv (ai (vI (fo:=fo) hr) (ai Mv tr))))))
theorem eZ{s:CS}{w:List Task}{n:Nat}(hs:s.wait=w++[.label n])(hw:w.length<=20000)(hr:s.aq.length<=20000)(hd:s.dict.length<=20000)(hn:cE n s.dict=none):Do U C R D W fo d nv s {s with dict:=s.dict++[(n,s.aq.length)],wait:=w}:=by
 intro σ e2 e3 p;haveI hW:=p.hW;haveI hW:=hs▸hW;haveI oo:=kh fo w (.label n);haveI hl:(gf s.dict).length<1000000:=by rw[gf,length_map];exact DS hd
 haveI Gw:dput (n:Int) (.int ((s.aq.map (Row.v fo)).length:Nat)) (gf s.dict)=gf (s.dict++[(n,s.aq.length)]):=by rw[length_map];exact qp n _ _ hn
 refine⟨_,some (.str [108,97,98,101,108]),some (.int n),(Gw.symm▸((p.BQ w).EX (s.dict++[(n,s.aq.length)]))),fun fl fr bM k=>Wh.next (ae:=σ) ?_ ?_ k⟩
 ·exact br 9 .z [.of p.hC,.of hW] [] 0x3241 (ai oo.2.2 tr)
 ·haveI hf:bx (n:Int) (gf s.dict)=none:=by rw[fu,hn];rfl
  exact bJ 9 .z [.of p.hC,.of hW,.of p.hR,.of p.hD] [.pop oo.1 oo.2.1] 0x42242123212112221 (ai (mI (fo:=fo) (t:=.label n) hw) (ai p.CW (ai p.RW (ai (Nat.le_of_lt (vI (fo:=fo) hr)) (ai p.CW (ai p.DW (ai hf (ai hl (ai p.DW tr)))))))))
theorem dM{s s':CS}{w:List Task}{v:V}(hs:s.wait=w++[.node v])(hw:w.length<=20000)
  (hn:∀σ,cp U σ C R D W fo {s with wait:=w}->∃ab,Run af (d+9) 54 [.loc C,v] σ .none ab/\cp U ab C R D W fo s'):Do U C R D W fo d nv s s':=by
 intro σ e2 e3 p;haveI hW:=p.hW;haveI hW:=hs▸hW;haveI oo:=kh fo w (.node v);obtain⟨ab,e,q⟩:=hn _ (p.BQ w);refine⟨ab,some (.str [110,111,100,101]),some v,q,fun fl fr bM k=>Wh.next (ae:=σ) ?_ ?_ k⟩
 ·exact br 9 .z [.of p.hC,.of hW] [] 0x3241 (ai oo.2.2 tr)
 ·exact bJ 9 .z [.of p.hC,.of hW] [.pop oo.1 oo.2.1,.call .z e] 0x212112221 (ai (mI (fo:=fo) (t:=.node v) hw) (ai p.CW tr))
end
end
section
noncomputable def Re.wt:Re->Nat
 |.atom _=>1
 |.again _=>1
 |.either a b=>a.wt+b.wt+10
 |.group _ a=>a.wt+5
 |.ba _ _=>20
 |.both a b=>a.wt+b.wt
theorem Re.oI(vY:Atom):(Re.atom vY).wt=1:=rfl
theorem Re.wC(pw:Nat):(Re.again pw).wt=1:=rfl
theorem Re.vW(Lu:Qn)(vY:Atom):(Re.ba Lu vY).wt=20:=rfl
theorem Re.wD:∀N:Re,N.nd.length<=N.wt
 |.atom _=>le_refl _
 |.again _=>le_refl _
 |.either a b=>(le_add_left _ _)
 |.group k a=>(le_add_left _ _)
 |.ba _ _=>(le_add_left _ _)
 |.both a b=>by haveI:=a.wD;simp only[Re.wG,length_append];exact OE b.wD (by assumption)
def pj(s:CS):Prop:=∀k,s.ax<k->cE k s.dict=none
structure Fin(N:Re)(s:CS)(w:List Task)(s':CS):Prop where
 wait:s'.wait=w
 aq:∃rs,s'.aq=s.aq++rs
 me:s'.aq.length<=s.aq.length+N.wt
 ext:dh s.dict s'.dict
 new:∀k,(k<=s.ax\/s'.ax<k)->cE k s'.dict=cE k s.dict
 ax:s.ax<=s'.ax
 bB:s.bB<=s'.bB
 dl:s'.dict.length<=s.dict.length+N.wt
 code:Code (AG s'.aq s'.dict) s'.bB N s.aq.length s'.aq.length
 yK:s'.bB<=s.bB+N.wt
theorem Fin.fresh{N:Re}{s s':CS}{w:List Task}(f:Fin N s w s')(h:pj s):pj s':=fun k hk=>Rw (f.new k (.inr hk)) (Rw (h k (O1 hk f.ax)) rfl)
theorem bU{aq rs:List Row}{i:Nat}{r:Row}(h:aq[i]?=some r):(aq++rs)[i]?=some r:=Rw (getElem?_append_left (List.getElem?_eq_some_iff.mp h).1) h
theorem cP{aq:List Row}{r:Row}:(aq++[r])[aq.length]?=some r:=by simp
section
variable {U:St} {C R D W:Nat} {fo:Bool} {d:Nat} {nv:V}
def jf(U:St)(C R D W:Nat)(fo:Bool)(d:Nat)(nv:V)(N:Re):Prop:=∀(s:CS) (w:List Task),s.wait=w++(N.nd.map .node).reverse->pj s->s.aq.length+w.length+N.wt<=15000->s.dict.length+N.wt<=15000->∃s',Do U C R D W fo d nv s s'/\Fin N s w s'
theorem zi{N:Re}(h:jf U C R D W fo d nv N)(s:CS)(w:List Task)(hs:s.wait=w++[.node (jn N.nd)])(hf:pj s)(h1:s.aq.length+w.length+N.wt<=15000)(h2:s.dict.length+N.wt<=15000):∃s',Do U C R D W fo d nv s s'/\Fin N s w s':=by
 by_cases VM:∃x,N.nd=[x]
 ·refine VM.elim fun x hx=>?_;haveI hs:=hx▸hs;obtain⟨s',hd,jN⟩:=h s w (Rw hx hs) hf h1 h2;exact⟨s',hd,jN⟩
 ·haveI hj:jn N.nd=.aj [.str [115,101,113],.aj N.nd]:=by
   cases hn:N.nd with
   |nil=>rfl
   |cons x r=>
    cases r with
    |nil=>exact absurd ⟨x,hn⟩ VM
    |cons y r=>rfl
  have hw:=N.wD;have d1:Do U C R D W fo d nv s {s with wait:=w++(N.nd.map .node).reverse}:=dM (hj▸hs) (OO h1) fun σ p=>(vF p N.nd (Pt h1 hw) (d+1));obtain⟨s',hd,jN⟩:=h {s with wait:=w++(N.nd.map .node).reverse} w rfl hf h1 h2;exact⟨s',d1.trans hd,⟨jN.wait,jN.aq,jN.me,jN.ext,jN.new,jN.ax,jN.bB,jN.dl,jN.code,jN.yK⟩⟩
theorem Ec(a:Atom):jf U C R D W fo d nv (.atom a):=by
 intro s w hs hf h1 h2;refine⟨{s with aq:=s.aq++[.bL a],wait:=w},?_,?_⟩
 ·exact dM hs (J1 h1) fun σ p=>(s6 p a (Jk h1) (d+1))
 ·refine⟨rfl,⟨_,rfl⟩,by simp[Re.oI],dh.nP,fun k y_=>rfl,le_refl _,le_refl _,(le_add_right _ _),⟨⟨.bL a,cP,rfl⟩,length_append⟩,(le_add_right _ _)⟩
theorem Aq(k:Nat):jf U C R D W fo d nv (.again k):=by
 intro s w hs hf h1 h2;refine⟨{s with aq:=s.aq++[.back k],wait:=w},?_,?_⟩
 ·exact dM hs (J1 h1) fun σ p=>(Ag p k (Jk h1) (d+1))
 ·refine⟨rfl,⟨_,rfl⟩,by simp[Re.wC],dh.nP,fun k y_=>rfl,le_refl _,le_refl _,(le_add_right _ _),⟨⟨.back k,cP,rfl⟩,length_append⟩,(le_add_right _ _)⟩
theorem D3{a b:Re}(ha:jf U C R D W fo d nv a)(hb:jf U C R D W fo d nv b):jf U C R D W fo d nv (.both a b):=by
 intro s w hs hf h1 h2;simp only[Re.wG,map_append,List.reverse_append,<-append_assoc]at hs;refine cps fun G kG=>?_;obtain⟨s1,d1,f1⟩:=ha s (w++(b.nd.map .node).reverse) hs hf (by simp;exact Nr h1 b.wD) (Yu h2);obtain⟨s2,d2,f2⟩:=hb s1 w f1.wait (f1.fresh hf) (PZ h1 f1.me) (UY h2 f1.dl);refine kG (f1.aq.elim fun rs1 e1=>?_);obtain⟨rs2,e2⟩:=f2.aq;refine⟨s2,d1.trans d2,⟨f2.wait,⟨rs1++rs2,by rw[e2,e1,append_assoc]⟩,MH f2.me f1.me,f1.ext.trans f2.ext,?_,Dh f2.ax f1.ax,Dh f2.bB f1.bB,MH f2.dl f1.dl,?_,MH f2.yK f1.yK⟩⟩
 ·intro k hk;exact Rw (f2.new k (T6 f1.ax hk)) (Rw (f1.new k (XY f2.ax hk)) rfl)
 ·refine⟨s1.aq.length,f1.code.mono (fun pc r h=>?_) f2.bB,f2.code⟩;exact Rw e2 (h.mono f2.ext)
theorem z7{a:Re}(k:Nat)(hk:k<=1000)(ha:jf U C R D W fo d nv a):jf U C R D W fo d nv (.group k a):=by
 intro s w hs hf h1 h2;haveI d1:Do U C R D W fo d nv s {s with wait:=w++[.row (.save (2*k+1)),.node (jn a.nd),.row (.save (2*k))]}:=dM hs (Jh h1) fun σ p=>(xX p k hk (jn a.nd) (SE h1) (d+1));haveI d2:=fj (U:=U) (C:=C) (R:=R) (D:=D) (W:=W) (fo:=fo) (d:=d) (nv:=nv) (s:={s with wait:=w++[.row (.save (2*k+1)),.node (jn a.nd),.row (.save (2*k))]}) (w:=w++[.row (.save (2*k+1)),.node (jn a.nd)]) (r:=.save (2*k)) (by simp) (by simp;exact O9 h1) (WU h1);dsimp only at d2;obtain⟨s3,d3,f3⟩:=zi ha {s with aq:=s.aq++[.save (2*k)],wait:=w++[.row (.save (2*k+1)),.node (jn a.nd)]} (w++[.row (.save (2*k+1))]) (by simp) hf (by simp;exact Wz h1) (OP h2);haveI r3:=f3.me;haveI q3:=f3.dl;haveI l3:=f3.ax;simp only[length_append,length_cons,length_nil]at r3 q3 l3;obtain⟨ZH,e3⟩:=f3.aq;refine⟨_,(d1.trans d2).trans d3 |>.trans (fj (U:=U) (C:=C) (R:=R) (D:=D) (W:=W) (fo:=fo) (d:=d) (nv:=nv) f3.wait (Jh h1) (Tv h1 r3)),⟨rfl,⟨[.save (2*k)]++ZH++[.save (2*k+1)],by simp[e3]⟩,by simp;exact Vn r3,f3.ext,f3.new,f3.ax,f3.bB,IU q3,?_,by simp only[Re.oI]at *;exact IU f3.yK⟩⟩;refine⟨s3.aq.length,⟨.save (2*k),?_,rfl⟩,?_,⟨.save (2*k+1),cP,rfl⟩,length_append⟩
 ·show(s3.aq++_)[s.aq.length]?=_;exact Rw e3 (bU (bU cP))
 ·haveI:=f3.code;simp only[length_append,length_cons,length_nil]at this;exact this.mono (fun pc r h=>h.mono dh.nP) (le_refl _)
theorem yn{a b:Re}(ha:jf U C R D W fo d nv a)(hb:jf U C R D W fo d nv b):jf U C R D W fo d nv (.either a b):=by
 intro s w hs hf h1 h2
 haveI d1:Do U C R D W fo d nv s {s with wait:=w++[.node (.aj [.str [97,108,116],.aj [jn a.nd,jn b.nd]])]}:=by refine dM hs (MQ h1) fun σ p=>?_;exact pM p _ (Tb h1) (d+1)
 haveI d2:Do U C R D W fo d nv {s with wait:=w++[.node (.aj [.str [97,108,116],.aj [jn a.nd,jn b.nd]])]} {s with ax:=s.ax+3,wait:=w++(zT (jn a.nd) (jn b.nd) s.ax).reverse}:=by refine dM rfl (MQ h1) fun σ p=>?_;exact Ek p _ _ (Ou h1) (d+1)
 haveI d3:=fj (U:=U) (C:=C) (R:=R) (D:=D) (W:=W) (fo:=fo) (d:=d) (nv:=nv) (s:={s with ax:=s.ax+3,wait:=w++(zT (jn a.nd) (jn b.nd) s.ax).reverse}) (w:=w++[.label (s.ax+1),.node (jn b.nd),.label (s.ax+3),.row (.bq (s.ax+1)),.node (jn a.nd),.label (s.ax+2)]) (r:=.split (s.ax+2) (s.ax+3)) (by simp[zT]) (by simp;exact Xc h1) (Nw h1);dsimp only at d3;haveI d4:=eZ (U:=U) (C:=C) (R:=R) (D:=D) (W:=W) (fo:=fo) (d:=d) (nv:=nv) (s:={s with aq:=s.aq++[.split (s.ax+2) (s.ax+3)],ax:=s.ax+3,wait:=w++[.label (s.ax+1),.node (jn b.nd),.label (s.ax+3),.row (.bq (s.ax+1)),.node (jn a.nd),.label (s.ax+2)]}) (w:=w++[.label (s.ax+1),.node (jn b.nd),.label (s.ax+3),.row (.bq (s.ax+1)),.node (jn a.nd)]) (by simp) (by simp;exact O6 h1) (by simp;exact Yt h1) (XC h2) (hf _ Q9);dsimp only at d4;have EV:∀k v,k≠s.ax+2->cE k (s.dict++[(s.ax+2,v)])=cE k s.dict:=fun k v h=>a9 h
 obtain⟨s5,d5,f5⟩:=zi ha _ (w++[.label (s.ax+1),.node (jn b.nd),.label (s.ax+3),.row (.bq (s.ax+1))]) (show _=_ by simp) (show pj {s with aq:=s.aq++[.split (s.ax+2) (s.ax+3)],dict:=s.dict++[(s.ax+2,(s.aq++[Row.split (s.ax+2) (s.ax+3)]).length)],ax:=s.ax+3,wait:=w++[.label (s.ax+1),.node (jn b.nd),.label (s.ax+3),.row (.bq (s.ax+1)),.node (jn a.nd)]}from fun k hk=>by
  exact Rw (EV _ _ (Um hk)) (hf k (Xb hk))) (by simp;exact Wv h1) (by simp;exact Rr h2)
 haveI r5:=f5.me;haveI q5:=f5.dl;haveI l5:=f5.ax;simp only[length_append,length_nil]at r5 q5 l5;haveI d6:=fj (U:=U) (C:=C) (R:=R) (D:=D) (W:=W) (fo:=fo) (d:=d) (nv:=nv) (w:=w++[.label (s.ax+1),.node (jn b.nd),.label (s.ax+3)]) (r:=.bq (s.ax+1)) (by refine Rw f5.wait (?_);simp) (by simp;exact Ur h1) (P4 h1 r5)
 haveI n3:cE (s.ax+3) s5.dict=none:=by refine Rw (f5.new _ (.inl (le_refl _))) (?_);exact Rw (EV _ _ NC) (hf _ QA)
 haveI d7:=eZ (U:=U) (C:=C) (R:=R) (D:=D) (W:=W) (fo:=fo) (d:=d) (nv:=nv) (s:={s5 with aq:=s5.aq++[.bq (s.ax+1)],wait:=w++[.label (s.ax+1),.node (jn b.nd),.label (s.ax+3)]}) (w:=w++[.label (s.ax+1),.node (jn b.nd)]) (by simp) (by simp;exact QN h1) (by simp;exact QM h1 r5) (Xq h2 q5) n3;dsimp only at d7
 obtain⟨s8,d8,f8⟩:=zi hb _ (w++[.label (s.ax+1)]) (show _=_ by simp) (show pj {s5 with aq:=s5.aq++[.bq (s.ax+1)],dict:=s5.dict++[(s.ax+3,(s5.aq++[Row.bq (s.ax+1)]).length)],wait:=w++[.label (s.ax+1),.node (jn b.nd)]}from fun k hk=>by
  refine Rw (a9 (RZ l5 hk)) (Rw (f5.new k (.inr hk)) (?_));exact Rw (EV _ _ (PC l5 hk)) (hf k (XR l5 hk))) (by simp;exact QK h1 r5) (by simp;exact UL h2 q5)
 haveI r8:=f8.me;haveI q8:=f8.dl;haveI l8:=f8.ax;simp only[length_append,length_nil]at r8 q8 l8
 haveI n1:cE (s.ax+1) s8.dict=none:=by refine Rw (f8.new _ (.inl (Qh l5))) (?_);refine Rw (a9 HJ) (Rw (f5.new _ (.inl (Np))) (?_));exact Rw (EV _ _ Q8) (hf _ L3)
 haveI d9:=eZ (U:=U) (C:=C) (R:=R) (D:=D) (W:=W) (fo:=fo) (d:=d) (nv:=nv) (Rw f8.wait rfl) (MQ h1) (Se h1 r8 r5) (W5 h2 q8 q5) n1;refine f5.aq.elim fun Zz e5=>?_;obtain⟨Uo,e8⟩:=f8.aq;dsimp only at e5 e8;haveI x8:dh (s5.dict++[(s.ax+3,(s5.aq++[Row.bq (s.ax+1)]).length)]) (s8.dict++[(s.ax+1,s8.aq.length)]):=f8.ext.trans dh.snoc;haveI x5:=(f5.ext.trans dh.snoc).trans x8
 haveI k2:cE (s.ax+2) (s8.dict++[(s.ax+1,s8.aq.length)])=some (s.aq.length+1):=by refine x5 _ _ ?_;refine Rw (bW (hf _ Q9)) (?_);simp
 haveI k3:cE (s.ax+3) (s8.dict++[(s.ax+1,s8.aq.length)])=some (s5.aq.length+1):=by refine x8 _ _ ?_;refine Rw (bW n3) (?_);simp
 haveI k1:cE (s.ax+1) (s8.dict++[(s.ax+1,s8.aq.length)])=some s8.aq.length:=bW n1;refine⟨_,((((((d1.trans d2).trans d3).trans d4).trans d5).trans d6).trans d7).trans d8 |>.trans d9,⟨rfl,⟨[.split (s.ax+2) (s.ax+3)]++Zz++[.bq (s.ax+1)]++Uo,by simp[e8,e5]⟩,?_,dh.snoc.trans x5,?_,?_,?_,?_,?_,by haveI:=f5.yK;haveI:=f8.yK;simp only[Re.oI]at *;exact U4 this (by assumption)⟩⟩
 ·exact Vy r8 r5
 ·intro k hk;refine Rw (a9 (TZ l5 l8 hk)) (Rw (f8.new k (Wq l5 hk)) (?_));refine Rw (a9 (X4 l5 l8 hk)) (Rw (f5.new k (Wl l8 hk)) (?_));exact Rw (EV _ _ (Oh l5 l8 hk)) rfl
 ·exact YA l5 l8
 ·haveI:=f5.bB;haveI:=f8.bB;dsimp only at *;exact Dh this (by assumption)
 ·simp only[length_append,length_cons,length_nil];exact Xt q8 q5
 ·refine⟨s5.aq.length,⟨.split (s.ax+2) (s.ax+3),?_,?_⟩,?_,⟨.bq (s.ax+1),?_,?_⟩,?_⟩
  ·exact Rw e8 (Rw e5 (bU (bU (bU cP))))
  ·simp only[settle,k2,k3]
  ·haveI:=f5.code;simp only[length_append,length_nil]at this;refine this.mono (fun pc r h=>?_) (by haveI:=f8.bB;exact this);haveI h':=h.mono (rs:=[.bq (s.ax+1)]++Uo) (dh.snoc.trans x8);rw[<-append_assoc,<-e8]at h';exact h'
  ·exact Rw e8 (bU cP)
  ·simp only[settle,k1];rfl
  ·haveI:=f8.code;simp only[length_append,length_nil]at this;refine this.mono (fun pc r h=>?_) (le_refl _);haveI:=h.mono (rs:=[]) (dh.snoc (n:=s.ax+1) (v:=s8.aq.length));rw[append_nil]at this;exact this
theorem kD{s:CS}{w:List Task}{a:Atom}(hs:s.wait=w++[.node (.aj [.str [115,104,121],a.nd])])(hw:w.length<=19000)(hr:s.aq.length+w.length<=19000):Do U C R D W fo d nv s {s with aq:=s.aq++[.bL a],wait:=w}:=by haveI d1:Do U C R D W fo d nv s {s with wait:=w++[.node a.nd]}:=dM hs (K4 hr) fun σ p=>(pM p _ (Yh hr) (d+1));haveI d2:Do U C R D W fo d nv {s with wait:=w++[.node a.nd]} {s with aq:=s.aq++[.bL a],wait:=w}:=dM rfl (K4 hr) fun σ p=>(s6 p a (Nv hr) (d+1));exact d1.trans d2
theorem tc{a:Atom}:∀(n:Nat) {s:CS} {w:List Task} (hs:s.wait=w++List.replicate n (.node (.aj [.str [115,104,121],a.nd]))) (hr:s.aq.length+w.length+n<=18000),Do U C R D W fo d nv s {s with aq:=s.aq++List.replicate n (.bL a),wait:=w}
 |0=>by
  rename_i s w;intro hs hr
  haveI:{s with aq:=s.aq++List.replicate 0 (.bL a),wait:=w}=s:=by simp only[List.replicate,append_nil]at hs ⊢;exact Lw hs rfl
  exact Rw this Do.zero
 |n+1=>by rename_i s w;intro hs hr;haveI:=(kD (U:=U) (C:=C) (R:=R) (D:=D) (W:=W) (fo:=fo) (d:=d) (nv:=nv) (by rw[hs,List.replicate_succ',append_assoc]) (by simp;exact Xa hr) (by simp;exact P0 hr)).trans (tc n (s:={s with aq:=s.aq++[.bL a],wait:=w++List.replicate n (.node (.aj [.str [115,104,121],a.nd]))}) rfl (by simp;exact YI hr));dsimp only at this;rw[append_assoc,show[Row.bL a]++List.replicate n (.bL a)=List.replicate (n+1) (.bL a)from rfl]at this;exact this
theorem G5{s:CS}{w:List Task}{a:Atom}{l:Nat}(hs:s.wait=w++([.row (.split (l+2) (l+1)),.label (l+2),.node (.aj [.str [115,104,121],a.nd])]++[.label (l+1)]:List Task).reverse)(hl:s.ax=l+2)(hf:cE (l+1) s.dict=none)(NU:cE (l+2) s.dict=none)(h1:s.aq.length+w.length<=17000)(h2:s.dict.length<=17000):∃s',AI (Do U C R D W fo d nv s s') (s'.wait=w) ((∃rs,s'.aq=s.aq++rs)) (s'.aq.length<=s.aq.length+6) (dh s.dict s'.dict) ((∀k,(k<=l\/l+2<k)->cE k s'.dict=cE k s.dict)) (s'.ax=s.ax) (s'.bB=s.bB) (s'.dict.length<=s.dict.length+4) (s9 (AG s'.aq s'.dict) a s.aq.length s'.aq.length):=by
 haveI d2:=eZ (U:=U) (C:=C) (R:=R) (D:=D) (W:=W) (fo:=fo) (d:=d) (nv:=nv) (s:={s with aq:=s.aq++[.split (l+2) (l+1)],wait:=w++[.label (l+1),.node (.aj [.str [115,104,121],a.nd]),.label (l+2)]}) (w:=w++[.label (l+1),.node (.aj [.str [115,104,121],a.nd])]) (by simp) (by simp;exact K6 h1) (by simp;exact Lj h1) (I8 h2) NU;dsimp only at d2;haveI d3:=kD (U:=U) (C:=C) (R:=R) (D:=D) (W:=W) (fo:=fo) (d:=d) (nv:=nv) (s:={s with aq:=s.aq++[.split (l+2) (l+1)],dict:=s.dict++[(l+2,(s.aq++[Row.split (l+2) (l+1)]).length)],wait:=w++[.label (l+1),.node (.aj [.str [115,104,121],a.nd])]}) (w:=w++[.label (l+1)]) (a:=a) (by simp) (by simp;exact OB h1) (by simp;exact SK h1);dsimp only at d3;haveI n1:cE (l+1) (s.dict++[(l+2,(s.aq++[Row.split (l+2) (l+1)]).length)])=none:=Rw (a9 Q8) hf;haveI d4:=eZ (U:=U) (C:=C) (R:=R) (D:=D) (W:=W) (fo:=fo) (d:=d) (nv:=nv) (s:={s with aq:=s.aq++[.split (l+2) (l+1)]++[.bL a],dict:=s.dict++[(l+2,(s.aq++[Row.split (l+2) (l+1)]).length)],wait:=w++[.label (l+1)]}) rfl (Ja h1) (by simp;exact X2 h1) (by simp;exact Kj h2) n1;dsimp only at d4;refine⟨_,(((fj (U:=U) (C:=C) (R:=R) (D:=D) (W:=W) (fo:=fo) (d:=d) (nv:=nv) (w:=w++[.label (l+1),.node (.aj [.str [115,104,121],a.nd]),.label (l+2)]) (r:=.split (l+2) (l+1)) (by refine Rw hs (?_);simp) (by simp;exact PV h1) (MD h1)).trans d2).trans d3).trans d4,rfl,⟨[.split (l+2) (l+1)]++[.bL a],(append_assoc _ _ _)⟩,by simp,dh.snoc.trans dh.snoc,?_,rfl,rfl,by simp,?_⟩
 ·intro k hk;exact Rw (a9 (Vb hk)) (Rw (a9 (XO hk)) rfl)
 ·refine⟨⟨.split (l+2) (l+1),bU cP,?_⟩,⟨.bL a,?_,rfl⟩,by simp⟩
  ·haveI k2:cE (l+2) (s.dict++[(l+2,(s.aq++[Row.split (l+2) (l+1)]).length)]++[(l+1,(s.aq++[Row.split (l+2) (l+1)]++[Row.bL a]).length)])=some (s.aq.length+1):=by
    refine Rw (a9 XG) (Rw (bW NU) (?_));simp
   haveI k1:cE (l+1) (s.dict++[(l+2,(s.aq++[Row.split (l+2) (l+1)]).length)]++[(l+1,(s.aq++[Row.split (l+2) (l+1)]++[Row.bL a]).length)])=some (s.aq++[Row.split (l+2) (l+1)]++[Row.bL a]).length:=bW n1;simp only[settle,k1,k2]
  ·haveI:(s.aq++[Row.split (l+2) (l+1)]++[Row.bL a])[(s.aq++[Row.split (l+2) (l+1)]).length]?=some (.bL a):=cP;simpa using this
theorem Dn{s:CS}{w:List Task}{a:Atom}{l m:Nat}{g:Bool}(hs:s.wait=w++(eu g (.aj [.str [115,104,121],a.nd]) (l+1) m (l+1)++[.label (l+1)]:List Task).reverse)(hl:s.ax=l+3)(hm:s.bB=m+1)
  (hf:∀k,l<k->cE k s.dict=none)(h1:s.aq.length+w.length<=17000)(h2:s.dict.length<=17000):∃s',AI (Do U C R D W fo d nv s s') (s'.wait=w) ((∃rs,s'.aq=s.aq++rs)) (s'.aq.length<=s.aq.length+6) (dh s.dict s'.dict) ((∀k,(k<=l\/l+3<k)->cE k s'.dict=cE k s.dict)) (s'.ax=s.ax) (s'.bB=s.bB) (s'.dict.length<=s.dict.length+4) (oK (AG s'.aq s'.dict) s'.bB g a s.aq.length s'.aq.length):=by
 obtain⟨aq,dict,ax,bB,wait⟩:=s;dsimp only at hs hl hm hf h1 h2 ⊢;subst hl hm hs;generalize hx:V.aj [.str [115,104,121],a.nd]=x;generalize pG:(if g then Row.split (l+3) (l+1)else .split (l+1) (l+3))=sp;have d1:=eZ (U:=U) (C:=C) (R:=R) (D:=D) (W:=W) (fo:=fo) (d:=d) (nv:=nv) (s:=⟨aq,dict,l+3,m+1,w++(eu g x (l+1) m (l+1)++[.label (l+1)]:List Task).reverse⟩) (w:=w++[.label (l+1),.row (.bq (l+2)),.row (.af m),.node x,.row (.mark m),.label (l+3),.row sp]) (n:=l+2) (by simp[eu,<-pG]) (by simp;exact Wd h1) (MD h1) (I8 h2) (hf _ Q9);dsimp only at d1;have d2:=fj (U:=U) (C:=C) (R:=R) (D:=D) (W:=W) (fo:=fo) (d:=d) (nv:=nv) (s:=⟨aq,dict++[(l+2,aq.length)],l+3,m+1,w++[.label (l+1),.row (.bq (l+2)),.row (.af m),.node x,.row (.mark m),.label (l+3),.row sp]⟩) (w:=w++[.label (l+1),.row (.bq (l+2)),.row (.af m),.node x,.row (.mark m),.label (l+3)]) (r:=sp) (by simp) (by simp;exact PX h1) (MD h1);dsimp only at d2;haveI n3:cE (l+3) (dict++[(l+2,aq.length)])=none:=Rw (a9 NC) (hf _ QA);have d3:=eZ (U:=U) (C:=C) (R:=R) (D:=D) (W:=W) (fo:=fo) (d:=d) (nv:=nv) (s:=⟨aq++[sp],dict++[(l+2,aq.length)],l+3,m+1,w++[.label (l+1),.row (.bq (l+2)),.row (.af m),.node x,.row (.mark m),.label (l+3)]⟩) (w:=w++[.label (l+1),.row (.bq (l+2)),.row (.af m),.node x,.row (.mark m)]) (n:=l+3) (by simp) (by simp;exact WJ h1) (by simp;exact Lj h1) (by simp;exact Kj h2) n3;dsimp only at d3;have d4:=fj (U:=U) (C:=C) (R:=R) (D:=D) (W:=W) (fo:=fo) (d:=d) (nv:=nv) (s:=⟨aq++[sp],dict++[(l+2,aq.length)]++[(l+3,(aq++[sp]).length)],l+3,m+1,w++[.label (l+1),.row (.bq (l+2)),.row (.af m),.node x,.row (.mark m)]⟩) (w:=w++[.label (l+1),.row (.bq (l+2)),.row (.af m),.node x]) (r:=.mark m) (by simp) (by simp;exact QD h1) (by simp;exact Lj h1);dsimp only at d4;have d5:=kD (U:=U) (C:=C) (R:=R) (D:=D) (W:=W) (fo:=fo) (d:=d) (nv:=nv) (s:=⟨aq++[sp]++[.mark m],dict++[(l+2,aq.length)]++[(l+3,(aq++[sp]).length)],l+3,m+1,w++[.label (l+1),.row (.bq (l+2)),.row (.af m),.node x]⟩) (w:=w++[.label (l+1),.row (.bq (l+2)),.row (.af m)]) (a:=a) (by simp[hx]) (by simp;exact Wk h1) (by simp;exact UQ h1);dsimp only at d5;have d6:=fj (U:=U) (C:=C) (R:=R) (D:=D) (W:=W) (fo:=fo) (d:=d) (nv:=nv) (s:=⟨aq++[sp]++[.mark m]++[.bL a],dict++[(l+2,aq.length)]++[(l+3,(aq++[sp]).length)],l+3,m+1,w++[.label (l+1),.row (.bq (l+2)),.row (.af m)]⟩) (w:=w++[.label (l+1),.row (.bq (l+2))]) (r:=.af m) (by simp) (by simp;exact K6 h1) (by simp;exact S3 h1);dsimp only at d6;have d7:=fj (U:=U) (C:=C) (R:=R) (D:=D) (W:=W) (fo:=fo) (d:=d) (nv:=nv) (s:=⟨aq++[sp]++[.mark m]++[.bL a]++[.af m],dict++[(l+2,aq.length)]++[(l+3,(aq++[sp]).length)],l+3,m+1,w++[.label (l+1),.row (.bq (l+2))]⟩) (w:=w++[.label (l+1)]) (r:=.bq (l+2)) (by simp) (by simp;exact Yb h1) (by simp;exact YB h1);dsimp only at d7;haveI n1:cE (l+1) (dict++[(l+2,aq.length)]++[(l+3,(aq++[sp]).length)])=none:=Rw (a9 HJ) (Rw (a9 Q8) (hf _ L3));have d8:=eZ (U:=U) (C:=C) (R:=R) (D:=D) (W:=W) (fo:=fo) (d:=d) (nv:=nv) (s:=⟨aq++[sp]++[.mark m]++[.bL a]++[.af m]++[.bq (l+2)],dict++[(l+2,aq.length)]++[(l+3,(aq++[sp]).length)],l+3,m+1,w++[.label (l+1)]⟩) (w:=w) (n:=l+1) rfl (Ja h1) (by simp;exact PM h1) (by simp;exact NZ h2) n1;dsimp only at d8;haveI k1:=bW (v:=(aq++[sp]++[Row.mark m]++[Row.bL a]++[Row.af m]++[Row.bq (l+2)]).length) n1
 haveI k3:cE (l+3) (dict++[(l+2,aq.length)]++[(l+3,(aq++[sp]).length)]++[(l+1,(aq++[sp]++[Row.mark m]++[Row.bL a]++[Row.af m]++[Row.bq (l+2)]).length)])=some (aq++[sp]).length:=by exact Rw (a9 PK) (Rw (bW n3) rfl)
 haveI k2:cE (l+2) (dict++[(l+2,aq.length)]++[(l+3,(aq++[sp]).length)]++[(l+1,(aq++[sp]++[Row.mark m]++[Row.bL a]++[Row.af m]++[Row.bq (l+2)]).length)])=some aq.length:=by exact Rw (a9 XG) (Rw (a9 LZ) (Rw (bW (hf _ Q9)) rfl))
 refine⟨_,((((((d1.trans d2).trans d3).trans d4).trans d5).trans d6).trans d7).trans d8,rfl,⟨[sp]++[.mark m]++[.bL a]++[.af m]++[.bq (l+2)],by simp⟩,by simp,dh.snoc.trans (dh.snoc.trans dh.snoc),?_,rfl,rfl,by simp,m,by simp,?_,?_,?_,?_,?_,by simp⟩
 ·intro k hk;exact Rw (a9 (Rz hk)) (Rw (a9 (NT hk)) (Rw (a9 (Rp hk)) rfl))
 ·refine⟨sp,bU (bU (bU (bU cP))),?_⟩;cases g
  ·simp only[Bool.false_eq_true,if_false]at pG ⊢;subst pG;simp only[settle,k1,k3];simp
  ·simp only[if_true]at pG ⊢;subst pG;simp only[settle,k1,k3];simp
 ·refine⟨.mark m,?_,rfl⟩;have:(aq++[sp]++[Row.mark m])[(aq++[sp]).length]?=some (.mark m):=cP;have:=bU (rs:=[.bq (l+2)]) (bU (rs:=[.af m]) (bU (rs:=[.bL a]) this));simpa using this
 ·refine⟨.bL a,?_,rfl⟩;have:(aq++[sp]++[Row.mark m]++[Row.bL a])[(aq++[sp]++[Row.mark m]).length]?=some (.bL a):=cP;have:=bU (rs:=[.bq (l+2)]) (bU (rs:=[.af m]) this);simpa using this
 ·refine⟨.af m,?_,rfl⟩;have:(aq++[sp]++[Row.mark m]++[Row.bL a]++[Row.af m])[(aq++[sp]++[Row.mark m]++[Row.bL a]).length]?=some (.af m):=cP;have:=bU (rs:=[.bq (l+2)]) this;simpa using this
 ·refine⟨.bq (l+2),?_,?_⟩
  ·haveI:(aq++[sp]++[Row.mark m]++[Row.bL a]++[Row.af m]++[Row.bq (l+2)])[(aq++[sp]++[Row.mark m]++[Row.bL a]++[Row.af m]).length]?=some (.bq (l+2)):=cP;simpa using this
  ·simp only[settle,k2];rfl
theorem Am(q:Qn)(a:Atom):jf U C R D W fo d nv (.ba q a):=by
 intro s w hs hf h1 h2;simp only[Re.vW]at h1 h2;simp only[Re.Em,List.reverse_nil,nil_append]at hs;generalize hx:V.aj [.str [115,104,121],a.nd]=x at *;have Dm:q.least<=2:=by cases q<;>decide
 haveI d1:Do U C R D W fo d nv s {s with ax:=(if q.loops then s.ax+3 else s.ax+2),bB:=(if q.loops then s.bB+1 else s.bB),wait:=w++(gx q x s.ax s.bB).reverse}:=dM hs (Ud h1) fun σ p=>(yw p q x (NG h1) (d+1));cases hq:q.loops
 ·simp only[hq,Bool.false_eq_true]at d1
  haveI hw:(gx q x s.ax s.bB).reverse=([.row (.split (s.ax+2) (s.ax+1)),.label (s.ax+2),.node x]++[.label (s.ax+1)]:List Task).reverse++List.replicate q.least (.node x):=by simp[gx,hq]
  rw[hw,<-append_assoc]at d1;haveI d2:=tc (U:=U) (C:=C) (R:=R) (D:=D) (W:=W) (fo:=fo) (d:=d) (nv:=nv) q.least (s:={s with ax:=s.ax+2,wait:=w++([.row (.split (s.ax+2) (s.ax+1)),.label (s.ax+2),.node x]++[.label (s.ax+1)]:List Task).reverse++List.replicate q.least (.node x)}) (Rw hx rfl) (by simp;exact Xp h1 Dm);dsimp only at d2;obtain⟨s',d3,wM,⟨rs,t8⟩,fY,hex,y5,tJ,tE,GJ,cW⟩:=G5 (s:={s with aq:=s.aq++List.replicate q.least (.bL a),ax:=s.ax+2,wait:=w++([.row (.split (s.ax+2) (s.ax+1)),.label (s.ax+2),.node x]++[.label (s.ax+1)]:List Task).reverse}) (Rw hx rfl) rfl (hf _ L3) (hf _ Q9) (by simp;exact Kp h1 Dm) (KW h2);dsimp only at t8 hex y5 tJ tE GJ cW fY;simp only[length_append,length_replicate]at fY cW;refine⟨s',(d1.trans d2).trans d3,⟨wM,⟨List.replicate q.least (.bL a)++rs,by rw[t8,append_assoc]⟩,by simp only[Re.vW];exact Kz Dm fY,hex,fun k hk=>y5 k (T7 tJ hk),U5 tJ,Js tE,JI GJ,?_,Yq tE⟩⟩
  ·refine⟨fun i hi=>⟨.bL a,?_,rfl⟩,Rw (if_neg (by simp[hq])) cW⟩;rw[t8];refine bU ?_;rw[getElem?_append_right CT];simp[hi]
 ·simp only[hq]at d1
  haveI hw:(gx q x s.ax s.bB).reverse=(eu q.bS x (s.ax+1) s.bB (s.ax+1)++[.label (s.ax+1)]:List Task).reverse++List.replicate q.least (.node x):=by simp[gx,hq]
  rw[hw,<-append_assoc]at d1;haveI cR:(eu q.bS x (s.ax+1) s.bB (s.ax+1)).length=7:=rfl;haveI d2:=tc (U:=U) (C:=C) (R:=R) (D:=D) (W:=W) (fo:=fo) (d:=d) (nv:=nv) q.least (s:={s with ax:=s.ax+3,bB:=s.bB+1,wait:=w++(eu q.bS x (s.ax+1) s.bB (s.ax+1)++[.label (s.ax+1)]:List Task).reverse++List.replicate q.least (.node x)}) (Rw hx rfl) (by simp;exact Rh h1 Dm);dsimp only at d2;obtain⟨s',d3,wM,⟨rs,t8⟩,fY,hex,y5,tJ,tE,GJ,cW⟩:=Dn (s:={s with aq:=s.aq++List.replicate q.least (.bL a),ax:=s.ax+3,bB:=s.bB+1,wait:=w++(eu q.bS x (s.ax+1) s.bB (s.ax+1)++[.label (s.ax+1)]:List Task).reverse}) (Rw hx rfl) rfl rfl (fun k hk=>hf k hk) (by simp;exact Kp h1 Dm) (KW h2);dsimp only at t8 hex y5 tJ tE GJ cW fY;simp only[length_append,length_replicate]at fY cW;refine⟨s',(d1.trans d2).trans d3,⟨wM,⟨List.replicate q.least (.bL a)++rs,by rw[t8,append_assoc]⟩,by simp only[Re.vW];exact Kz Dm fY,hex,fun k hk=>y5 k (Yx tJ hk),UI tJ,OC tE,JI GJ,?_,Pk tE⟩⟩
  ·refine⟨fun i hi=>⟨.bL a,?_,rfl⟩,Rw (if_pos hq) cW⟩;rw[t8];refine bU ?_;rw[getElem?_append_right CT];simp[hi]
theorem ib:∀N:Re,N.inR 1000->jf U C R D W fo d nv N
 |.atom a=>@fun _=>Ec a
 |.again k=>@fun _=>Aq k
 |.either a b=>@fun h=>yn (ib a h.1) (ib b h.2)
 |.group k a=>@fun h=>z7 k h.1.2 (ib a h.2)
 |.ba q a=>@fun _=>Am q a
 |.both a b=>@fun h=>D3 (ib a h.1) (ib b h.2)
end
end
section
noncomputable def eJ(fo:Bool)(aq:List Row)(gr mk:Nat):V:=.obj 2 [(33,.lst (aq.map (Row.v fo))),(1,.int gr),(4,.int mk),(34,.bool fo)]
noncomputable def tA(σ:St)(fo:Bool):St:=σ++[cO fo (σ.length+1) (σ.length+2) (σ.length+3) 0 0]++[O.list []]++[O.dict []]++[O.list []]
theorem uN(σ:St)(fo:Bool):tA σ fo=σ++[cO fo (σ.length+1) (σ.length+2) (σ.length+3) 0 0,.list [],.dict [],.list []]:=by unfold tA;rw[append_assoc,append_assoc,append_assoc];rfl
theorem qP(d:Nat)(σ:St)(fo:Bool):Run af (d+1) 50 [.loc σ.length,.bool fo] (σ++[.inst 3 []]) .none (tA σ fo):=ah 1 (.add .z _) [] [] 0x222212221222122212212212221221221222122122122121212111 (ai trivial tr)
theorem JR(σ:St)(fo:Bool):cp σ (tA σ fo) σ.length (σ.length+1) (σ.length+2) (σ.length+3) fo ⟨[],[],0,0,[]⟩:=by
 have g:∀i,(tA σ fo)[σ.length+i]?=[cO fo (σ.length+1) (σ.length+2) (σ.length+3) 0 0,.list [],.dict [],.list []][i]?:=fun i=>by rw[uN,getElem?_append_right CT];simp
 exact⟨g 0,g 1,g 2,g 3,M1,LO,WI,Q8,HJ,LZ,Un,U0,WV,XA,uN σ fo▸Ext.nP.app⟩
section
variable {U σ:St} {C R D W:Nat} {fo:Bool} {s:CS}
theorem cp.app(p:cp U σ C R D W fo s)(τ:St):cp U (σ++τ) C R D W fo s:=by obtain⟨h1,h2,h3,h4,n1,n2,n3,n4,n5,n6,l1,l2,l3,l4,e⟩:=p;exact⟨(aO (aH h1)).trans h1,(aO (aH h2)).trans h2,(aO (aH h3)).trans h3,(aO (aH h4)).trans h4,n1,n2,n3,n4,n5,n6,l1,l2,l3,l4,e.app⟩
theorem cp.Jm(p:cp U σ C R D W fo s){n:Nat}(o:O)(hC:n≠C)(hR:n≠R)(hD:n≠D)(hW:n≠W)(hl:U.length<=n):cp U (σ.set n o) C R D W fo s:=by obtain⟨h1,h2,h3,h4,n1,n2,n3,n4,n5,n6,l1,l2,l3,l4,e⟩:=p;exact⟨(au hC).trans h1,(au hR).trans h2,(au hD).trans h3,(au hW).trans h4,n1,n2,n3,n4,n5,n6,l1,l2,l3,l4,e.set hl⟩
theorem uD(p:cp U σ C R D W fo s){n:Nat}{l:List V}(hn:σ[n]?=some (.list l))(hl:l.length<=20000){r r':Row}(hs:settle s.dict r=some r')(e:Option V)(d:Nat):eU af (d+0) [2] false rX (r.v fo) [some (.loc C),some (.loc n),e] σ .next [some (.loc C),some (.loc n),some (r.v fo)] (σ.set n (.list (l++[r'.v fo]))):=by
 have nu:=DS hl
 cases r with
 |split a b=>refine cps fun G kG=>?_;obtain⟨x,y,ea,eb,rfl⟩:=ur hs;exact kG (dq 0 .z [.of hn,.of p.hC,.of p.hD] [.bx ((fu a s.dict).trans (congrArg (Option.map fun n:Nat=>V.int n) ea)),.bx ((fu b s.dict).trans (congrArg (Option.map fun n:Nat=>V.int n) eb))] 0x23122312111 (ai nu tr))
 |bq a=>obtain⟨x,ea,rfl⟩:=Option.map_eq_some_iff.mp (hs);exact dq 0 .z [.of hn,.of p.hC,.of p.hD] [.bx ((fu a s.dict).trans (congrArg (Option.map fun n:Nat=>V.int n) ea))] 0x231211111 (ai nu tr)
 |bL a=>obtain rfl:=oj hs;cases a<;>exact dq 0 .z [.of hn] [] 0x0 (ai nu tr)
 |back=>obtain rfl:=oj hs;exact dq 0 .z [.of hn] [] 0x0 (ai nu tr)
 |point=>obtain rfl:=oj hs;exact dq 0 .z [.of hn] [] 0x0 (ai nu tr)
 |save=>obtain rfl:=oj hs;exact dq 0 .z [.of hn] [] 0x0 (ai nu tr)
 |mark=>obtain rfl:=oj hs;exact dq 0 .z [.of hn] [] 0x0 (ai nu tr)
 |af=>obtain rfl:=oj hs;exact dq 0 .z [.of hn] [] 0x0 (ai nu tr)
 |done=>obtain rfl:=oj hs;exact dq 0 .z [.of hn] [] 0x0 (ai nu tr)
theorem lY(d:Nat){n:Nat}:∀(l:List Row) {σ:St} {s:CS} (p:cp U σ C R D W fo s) (i:Nat) (e:Option V) (fs:List Row) (hn:σ[n]?=some (.list (fs.map (Row.v fo)))) (hC:n≠C) (hR:n≠R) (hD:n≠D) (hW:n≠W) (h0:U.length<=n)
  (hd:s.aq.drop i=l) (hs:∀r∈l,∃r',settle s.dict r=some r') (hl:fs.length+l.length<=20000),mQ fun ab e' BH=>yi (Fo (eU af d [2] false rX) (.live R) i [some (.loc C),some (.loc n),e] σ .next [some (.loc C),some (.loc n),e'] ab) (cp U ab C R D W fo s) (ab[n]?=some (.list ((fs++BH).map (Row.v fo)))) (BH.length=l.length) (∀(j:Nat) (r:Row),l[j]?=some r->BH[j]?=settle s.dict r)
 |[]=>by rename_i σ s;intro p i e fs hn hC hR hD hW h0 hd hs hl;refine⟨σ,e,[],Fo.stop ?_,p,by rw[append_nil];exact hn,rfl,fun j r h=>nn h⟩;rw[oz p.hR,getElem?_map,List.getElem?_eq_none_iff.mpr (drop_eq_nil_iff.mp hd)];rfl
 |r::l=>by
  rename_i s;intro p i e fs hn hC hR hD hW h0 hd hs hl;refine(hs r mem_cons_self).elim fun r' O3=>?_;haveI hl:fs.length+(l.length+1)<=20000:=hl;haveI hv:s.aq[i]?=some r:=Lw (head?_drop) (Rw hd rfl);haveI LL:s.aq.drop (i+1)=l:=Lw drop_drop (Rw hd rfl);haveI rf:=uD p hn (by rw[length_map];exact RV hl) O3 e d;haveI q:=p.Jm (.list (fs.map (Row.v fo)++[r'.v fo])) hC hR hD hW h0;obtain⟨ab,e',BH,h1,h2,h3,h4,h5⟩:=lY d l q (i+1) (some (r.v fo)) (fs++[r']) (Rw (aV (aH hn)) (Rw map_append rfl)) hC hR hD hW h0 LL (fun x hx=>hs x (mem_cons_of_mem _ hx)) (by refine Rw length_append (?_);exact TU hl);refine⟨ab,e',r'::BH,Fo.next (by rw[oz p.hR,getElem?_map,hv];rfl) rf h1,h2,by rw[h3,append_assoc];rfl,congrArg (· +1) h4,?_⟩;intro j x hx
  cases j with
  |zero=>haveI:r=x:=oj hx;subst this;exact O3.symm
  |succ j=>exact h5 j x hx
theorem yW(p:cp U σ C R D W fo s)(hs:∀r∈s.aq,∃r',settle s.dict r=some r')(hl:s.aq.length<=20000)(d:Nat):gW fun(ab:St) (fs:List Row)=>kE (Run af (d+1) 59 [.loc C] σ (.lst (fs.map (Row.v fo))) ab) (cp U ab C R D W fo s) (fs.length=s.aq.length) (∀(j:Nat) (r:Row),s.aq[j]?=some r->fs[j]?=settle s.dict r):=by have lD:=aH p.hD;have lW:=aH p.hW;have he:=p.ext.len;obtain⟨ab,e',fs,h1,h2,h3,h4,h5⟩:=lY d s.aq (p.app [.list []]) 0 none [] ou (ne_of_gt (aH p.hC)) (ne_of_gt (aH p.hR)) (ne_of_gt lD) (ne_of_gt lW) he rfl hs (Sr hl);rw[nil_append]at h3;refine⟨_,fs,?_,h2.Jm .dead (ne_of_gt (aH p.hC)) (ne_of_gt (aH p.hR)) (ne_of_gt lD) (ne_of_gt lW) he,h4,h5⟩;exact ah 1 .z [.of p.hC,.of p.hR,.of h3] [.dN .z h1] 0x33222121 tr
end
theorem Code.all{A:Nat->Row->Prop}{M:Nat}:∀{N:Re} {pc cy:Nat},Code A M N pc cy->∀i,pc<=i->i<cy->∃r,A i r
 |.atom a=>by rename_i pc cy;intro h i h1 h2;haveI:=h.2;haveI:=Kt h2 this h1;subst this;exact⟨_,h.1⟩
 |.again k=>by rename_i pc cy;intro h i h1 h2;haveI:=h.2;haveI:=Kt h2 this h1;subst this;exact⟨_,h.1⟩
 |.either a b=>by
  rename_i pc cy;intro kW i h1 h2;obtain⟨p1,g1,g2,g3,g4⟩:=kW;by_cases e1:i=pc
  ·subst e1;exact⟨_,g1⟩
  ·by_cases e2:i<p1
   ·exact Code.all g2 i (KY h1 e1) e2
   ·by_cases e3:i=p1
    ·subst e3;exact⟨_,g3⟩
    ·exact Code.all g4 i (OT e2 e3) h2
 |.group k a=>by
  rename_i pc cy;intro kW i h1 h2;obtain⟨p1,g1,g2,g3,g4⟩:=kW;by_cases e1:i=pc
  ·subst e1;exact⟨_,g1⟩
  ·by_cases e2:i<p1
   ·exact Code.all g2 i (KY h1 e1) e2
   ·haveI:=Nq h2 g4 e2;subst this;exact⟨_,g3⟩
 |.ba q a=>by
  rename_i pc cy;intro h i h1 h2;by_cases e1:i<pc+q.least
  ·obtain⟨j,rfl⟩:∃j,i=pc+j:=⟨i-pc,Jv h1⟩;exact⟨_,h.1 j (Tz e1)⟩
  ·haveI g:=h.2
   split at g
   ·obtain⟨m,_,g1,g2,g3,g4,g5,g6⟩:=g;rcases(TR h2 g6 e1)with rfl|rfl|rfl|rfl|rfl
    ·exact⟨_,g1⟩
    ·exact⟨_,g2⟩
    ·exact⟨_,g3⟩
    ·exact⟨_,g4⟩
    ·exact⟨_,g5⟩
   ·obtain⟨g1,g2,g3⟩:=g;rcases(Sd h2 g3 e1)with rfl|rfl
    ·exact⟨_,g1⟩
    ·exact⟨_,g2⟩
 |.both a b=>by
  intro kW i h1 h2;obtain⟨p1,g1,g2⟩:=kW;by_cases e:i<p1
  ·exact Code.all g1 i h1 e
  ·exact Code.all g2 i (FH e) h2
theorem nI(d:Nat)(σ:St)(N:Re)(gr:Nat)(fo:Bool)(v:V)(tl:List Row)(mK:tl.length<=5)(IZ:∀(Ma:List (Nat×Nat)),∀r∈tl,settle Ma r=some r)(hw:N.wt<=900)
  (H:∀(C R D W:Nat),∃s',yi (Do σ C R D W fo (d+0) v ⟨[],[],0,0,[.row .done,.node v]⟩ s') (s'.wait=[]) (s'.aq.length<=1000) (s'.bB<=1000) (∃pe,Code (AG s'.aq s'.dict) s'.bB N 0 pe/\s'.aq.drop pe=tl/\pe<=s'.aq.length)):qX fun(ab:St) (aq:List Row) (M pe:Nat)=>zj (Run af (d+11) 11 [v,.int gr,.bool fo] σ (eJ fo aq gr M) ab) (Ext σ ab) (Code (fun pc r=>aq[pc]?=some r) M N 0 pe) (aq.drop pe=tl) (aq.length<=1000) (M<=1000):=by
 refine cps fun G kG=>?_;obtain⟨bC,e1,p1⟩:=hH (JR σ fo) [.node v,.row .done] ((le_add_left _ _)) (d+8);obtain⟨s',ZY,wM,fY,fX,pe,cW,dm,rZ⟩:=H σ.length (σ.length+1) (σ.length+2) (σ.length+3);obtain⟨bQ,f2,f3,p2,hW⟩:=ZY bC none none (p1);refine kG ?_;haveI MV:Wh af (d+9) ni nH [some (.loc σ.length),some v,none,none] bC .next [some (.loc σ.length),some v,f2,f3] bQ:=hW _ _ _ (Wh.stop (br 9 .z [.of p2.hC,.of (wM▸p2.hW)] [] 0x241 tr))
 haveI PO:∀r∈s'.aq,∃r',settle s'.dict r=some r':=by
  intro r hr;refine(List.mem_iff_getElem?.mp hr).elim fun j hj=>?_;by_cases Pr:j<pe
  ·obtain⟨r',r0,h1,h2⟩:=cW.all j (zero_le _) Pr;rw[hj]at h1;replace h1:=oj h1;subst h1;exact⟨r',h2⟩
  ·have:r∈tl:=by
    refine Lw dm (List.mem_iff_getElem?.mpr ⟨j-pe,?_⟩);exact Rw (getElem?_drop) (Rw (show pe+(j-pe)=j by exact VS Pr) hj)
   exact⟨r,IZ _ r this⟩
 obtain⟨wc,fs,e3,p3,jY,Hj⟩:=yW p2 PO (Ql fY) (d+9);refine⟨_,fs,s'.bB,pe,?_,p3.ext.app (τ:=[.dead]),?_,?_,VY jY fY,fX⟩
 ·exact ah 11 .z [.of (JR σ fo).hC,.of p2.hC,.of p3.hC] [.call .z (qP (d+9) σ fo),.call .z e1,.cL .z MV,.call .z e3] 0x21112111211121112111322211121 tr
 ·refine cW.mono (fun pc r h=>?_) (le_refl _);obtain⟨r0,h1,h2⟩:=h;exact Rw (Hj pc r0 h1) (Rw h2 rfl)
 ·refine List.ext_getElem? fun i=>(Rw (getElem?_drop) (Lw dm (Rw (getElem?_drop) (?_))))
  cases hr:s'.aq[pe+i]? with
  |none=>
   haveI:fs.length<=pe+i:=by refine Rw jY (?_);simpa using hr
   simpa using this
  |some r=>refine Rw (Hj _ r hr) (?_);exact IZ _ r (Lw dm (List.mem_iff_getElem?.mpr ⟨i,Rw (getElem?_drop) hr⟩))
theorem sT(d:Nat)(σ:St)(N:Re)(gr:Nat)(fo:Bool)(hw:N.wt<=900)(hr:N.inR 1000):qX fun(ab:St) (aq:List Row) (M pe:Nat)=>zj (Run af (d+11) 11 [jn N.nd,.int gr,.bool fo] σ (eJ fo aq gr M) ab) (Ext σ ab) (Code (fun pc r=>aq[pc]?=some r) M N 0 pe) (aq.drop pe=[.done]) (aq.length<=1000) (M<=1000):=by
 refine nI d σ N gr fo (jn N.nd) [.done] ((by decide)) (fun Ma r h=>by simp at h;subst h;rfl) hw fun C R D W=>?_;obtain⟨s',hd,hf⟩:=zi (ib N hr) ⟨[],[],0,0,[.row .done,.node (jn N.nd)]⟩ [.row .done] rfl (fun k hk=>rfl) (by simp;exact Vo hw) (by simp;exact La hw);refine⟨_,hd.trans (fj (U:=σ) (C:=C) (R:=R) (D:=D) (W:=W) (fo:=fo) (d:=d+0) (nv:=jn N.nd) (w:=[]) hf.wait ((zero_le _)) (Jr hf.me hw)),rfl,by simp;exact Wj hf.me hw,Kv hf.yK hw,s'.aq.length,?_,by simp,by simp⟩
 ·haveI:=hf.code;simp only[length_nil]at this;exact this.mono (fun pc r h=>h.mono dh.nP) (le_refl _)
theorem tB(d:Nat)(σ:St)(N:Re)(gr:Nat)(fo:Bool)(hw:N.wt<=900)(hr:N.inR 1000):qX fun(ab:St) (aq:List Row) (M pe:Nat)=>zj (Run af (d+11) 11 [.aj [.str [115,101,113],.aj [.aj [.str [115,104,121],jn N.nd],.aj [.str [97,116],.str [112,111,105,110,116]]]],.int gr,.bool fo] σ (eJ fo aq gr M) ab) (Ext σ ab) (Code (fun pc r=>aq[pc]?=some r) M N 0 pe) (aq.drop pe=[.point,.done]) (aq.length<=1000) (M<=1000):=by
 refine nI d σ N gr fo _ [.point,.done] ((by decide)) (fun Ma r h=>by simp at h;rcases h with rfl|rfl<;>rfl) hw fun C R D W=>?_;generalize hnv:V.aj [.str [115,101,113],.aj [.aj [.str [115,104,121],jn N.nd],.aj [.str [97,116],.str [112,111,105,110,116]]]]=nv
 haveI d1:Do σ C R D W fo (d+0) nv ⟨[],[],0,0,[.row .done,.node nv]⟩ ⟨[],[],0,0,[.row .done,.node (.aj [.str [97,116],.str [112,111,105,110,116]]),.node (.aj [.str [115,104,121],jn N.nd])]⟩:=by refine dM (w:=[.row .done]) (v:=nv) rfl (by simp) fun σ p=>?_;exact Lw hnv (vF p _ ((le_add_left _ _)) (d+0+1))
 haveI d2:Do σ C R D W fo (d+0) nv ⟨[],[],0,0,[.row .done,.node (.aj [.str [97,116],.str [112,111,105,110,116]]),.node (.aj [.str [115,104,121],jn N.nd])]⟩ ⟨[],[],0,0,[.row .done,.node (.aj [.str [97,116],.str [112,111,105,110,116]]),.node (jn N.nd)]⟩:=by refine dM (w:=[.row .done,.node (.aj [.str [97,116],.str [112,111,105,110,116]])]) rfl ((by decide)) fun σ p=>?_;exact pM p _ ((le_add_left _ _)) (d+0+1)
 obtain⟨s',hd,hf⟩:=zi (ib (U:=σ) (C:=C) (R:=R) (D:=D) (W:=W) (fo:=fo) (d:=d+0) (nv:=nv) N hr) ⟨[],[],0,0,[.row .done,.node (.aj [.str [97,116],.str [112,111,105,110,116]]),.node (jn N.nd)]⟩ [.row .done,.node (.aj [.str [97,116],.str [112,111,105,110,116]])] rfl (fun k hk=>rfl) (by simp;exact Vg hw) (by simp;exact La hw);haveI fY:=hf.me;haveI fX:=hf.yK
 haveI d3:Do σ C R D W fo (d+0) nv s' {s' with aq:=s'.aq++[.point],wait:=[.row .done]}:=by refine dM (w:=[.row .done]) hf.wait (by simp) fun σ p=>?_;exact yc p (Jr fY hw) (d+0+1)
 haveI d4:=fj (U:=σ) (C:=C) (R:=R) (D:=D) (W:=W) (fo:=fo) (d:=d+0) (nv:=nv) (s:={s' with aq:=s'.aq++[.point],wait:=[.row .done]}) (w:=[]) (r:=.done) rfl ((zero_le _)) (by simp;exact TQ fY hw);refine⟨_,(((d1.trans d2).trans hd).trans d3).trans d4,rfl,by simp;exact XW fY hw,Kv fX hw,s'.aq.length,?_,by simp,by simp⟩
 ·haveI:=hf.code;simp only[length_nil]at this;refine this.mono (fun pc r h=>?_) (le_refl _);haveI:=h.mono (rs:=[.point]++[.done]) dh.nP;rw[<-append_assoc]at this;exact this
end
section
structure Env where
 aq:List Row
 gr:Nat
 jU:Nat
 fo:Bool
 ag:List Nat
 ao:Nat
 T:Nat
 point:Nat
 limit:Nat
structure MS where
 row:Nat
 aw:Nat
 kept:List Int
 marks:List Int
 
 chg:List (Bool×Nat×Int)
 
 dJ:List (Nat×Nat×Nat)
noncomputable def ee(ag:List Nat)(ao:Nat):V:=.obj 8 [(14,.lst (cv ag)),(15,.int ao)]
noncomputable def cF(T:Nat):V:=.obj 7 [(64,.none),(33,.loc T)]
noncomputable def mO(E:Env)(taken:Nat)(K Mk Ch Cg:Nat):O:=.inst 5 [(45,eJ E.fo E.aq E.gr E.jU),(46,ee E.ag E.ao),(47,cF E.T),(48,.int E.point),(49,.int 400000),(50,.int taken),(51,.int E.limit),(52,.loc K),(4,.loc Mk),(53,.loc Ch),(44,.loc Cg)]
noncomputable def bP(l:List Int):List V:=l.map .int
noncomputable def mv(c:Nat×Nat×Nat):V:=.obj 4 [(43,.int c.1),(15,.int c.2.1),(44,.int c.2.2)]
noncomputable def jJ(K Mk:Nat)(c:Bool×Nat×Int):V:=.aj [.loc (if c.1 then K else Mk),.int c.2.1,.int c.2.2]
structure cj(U σ:St)(M K Mk Ch Cg:Nat)(E:Env)(taken:Nat)(s:MS):Prop where
 hM:σ[M]?=some (mO E taken K Mk Ch Cg)
 hK:σ[K]?=some (.list (bP s.kept))
 L8:σ[Mk]?=some (.list (bP s.marks))
 My:σ[Ch]?=some (.list (s.dJ.reverse.map mv))
 mW:σ[Cg]?=some (.list (s.chg.reverse.map (jJ K Mk)))
 hT:σ[E.T]?=some (.dict [])
 n1:M≠K
 n2:M≠Mk
 n3:M≠Ch
 n4:M≠Cg
 n5:K≠Mk
 n6:K≠Ch
 n7:K≠Cg
 n8:Mk≠Ch
 n9:Mk≠Cg
 nJ:Ch≠Cg
 t1:E.T≠M
 t2:E.T≠K
 t3:E.T≠Mk
 t4:E.T≠Ch
 t5:E.T≠Cg
 lM:U.length<=M
 lK:U.length<=K
 lMk:U.length<=Mk
 lCh:U.length<=Ch
 lCg:U.length<=Cg
 ext:Ext U σ
section
variable {U σ:St} {M K Mk Ch Cg:Nat} {E:Env} {taken:Nat} {s:MS}
theorem cj.app(p:cj U σ M K Mk Ch Cg E taken s)(τ:St):cj U (σ++τ) M K Mk Ch Cg E taken s:=by obtain⟨h1,h2,h3,h4,h5,h6,n1,n2,n3,n4,n5,n6,n7,n8,n9,nJ,t1,t2,t3,t4,t5,l1,l2,l3,l4,l5,e⟩:=p;exact⟨(aO (aH h1)).trans h1,(aO (aH h2)).trans h2,(aO (aH h3)).trans h3,(aO (aH h4)).trans h4,(aO (aH h5)).trans h5,(aO (aH h6)).trans h6,n1,n2,n3,n4,n5,n6,n7,n8,n9,nJ,t1,t2,t3,t4,t5,l1,l2,l3,l4,l5,e.app⟩
theorem cj.tick(p:cj U σ M K Mk Ch Cg E taken s)(t:Nat):cj U (σ.set M (mO E t K Mk Ch Cg)) M K Mk Ch Cg E t s:=by obtain⟨h1,h2,h3,h4,h5,h6,n1,n2,n3,n4,n5,n6,n7,n8,n9,nJ,t1,t2,t3,t4,t5,l1,l2,l3,l4,l5,e⟩:=p;exact⟨aV (aH h1),(au n1).trans h2,(au n2).trans h3,(au n3).trans h4,(au n4).trans h5,(au t1.symm).trans h6,n1,n2,n3,n4,n5,n6,n7,n8,n9,nJ,t1,t2,t3,t4,t5,l1,l2,l3,l4,l5,e.set l1⟩
theorem cj.Gb(p:cj U σ M K Mk Ch Cg E taken s)(k:List Int):cj U (σ.set K (.list (bP k))) M K Mk Ch Cg E taken {s with kept:=k}:=by obtain⟨h1,h2,h3,h4,h5,h6,n1,n2,n3,n4,n5,n6,n7,n8,n9,nJ,t1,t2,t3,t4,t5,l1,l2,l3,l4,l5,e⟩:=p;exact⟨(au n1.symm).trans h1,aV (aH h2),(au n5).trans h3,(au n6).trans h4,(au n7).trans h5,(au t2.symm).trans h6,n1,n2,n3,n4,n5,n6,n7,n8,n9,nJ,t1,t2,t3,t4,t5,l1,l2,l3,l4,l5,e.set l2⟩
theorem cj.setM(p:cj U σ M K Mk Ch Cg E taken s)(k:List Int):cj U (σ.set Mk (.list (bP k))) M K Mk Ch Cg E taken {s with marks:=k}:=by obtain⟨h1,h2,h3,h4,h5,h6,n1,n2,n3,n4,n5,n6,n7,n8,n9,nJ,t1,t2,t3,t4,t5,l1,l2,l3,l4,l5,e⟩:=p;exact⟨(au n2.symm).trans h1,(au n5.symm).trans h2,aV (aH h3),(au n8).trans h4,(au n9).trans h5,(au t3.symm).trans h6,n1,n2,n3,n4,n5,n6,n7,n8,n9,nJ,t1,t2,t3,t4,t5,l1,l2,l3,l4,l5,e.set l3⟩
theorem cj.GN(p:cj U σ M K Mk Ch Cg E taken s)(k:List (Nat×Nat×Nat)):cj U (σ.set Ch (.list (k.reverse.map mv))) M K Mk Ch Cg E taken {s with dJ:=k}:=by obtain⟨h1,h2,h3,h4,h5,h6,n1,n2,n3,n4,n5,n6,n7,n8,n9,nJ,t1,t2,t3,t4,t5,l1,l2,l3,l4,l5,e⟩:=p;exact⟨(au n3.symm).trans h1,(au n6.symm).trans h2,(au n8.symm).trans h3,aV (aH h4),(au nJ).trans h5,(au t4.symm).trans h6,n1,n2,n3,n4,n5,n6,n7,n8,n9,nJ,t1,t2,t3,t4,t5,l1,l2,l3,l4,l5,e.set l4⟩
theorem cj.xb(p:cj U σ M K Mk Ch Cg E taken s)(k:List (Bool×Nat×Int)):cj U (σ.set Cg (.list (k.reverse.map (jJ K Mk)))) M K Mk Ch Cg E taken {s with chg:=k}:=by obtain⟨h1,h2,h3,h4,h5,h6,n1,n2,n3,n4,n5,n6,n7,n8,n9,nJ,t1,t2,t3,t4,t5,l1,l2,l3,l4,l5,e⟩:=p;exact⟨(au n4.symm).trans h1,(au n7.symm).trans h2,(au n9.symm).trans h3,(au nJ.symm).trans h4,aV (aH h5),(au t5.symm).trans h6,n1,n2,n3,n4,n5,n6,n7,n8,n9,nJ,t1,t2,t3,t4,t5,l1,l2,l3,l4,l5,e.set l5⟩
theorem cj.pos(p:cj U σ M K Mk Ch Cg E taken s)(r q:Nat):cj U σ M K Mk Ch Cg E taken {s with row:=r,aw:=q}:={p with}
end
end
section
theorem kF(d:Nat)(σ:St){ag:List Nat}{ao q c:Nat}(hb:ao<=q)(hc:ag[q-ao]?=some c)(hl:ag.length<=1000):Run af (d+1) 79 [ee ag ao,.int q] σ (.int c) σ:=by haveI cR:=(List.getElem?_eq_some_iff.mp hc).1;haveI dE:=bF ag;haveI h3:idx (cv ag) ((q:Int)-(ao:Int))=some (.int c):=Rw (Te hb) (sJ (by rw[cv,getElem?_map,hc];rfl) (XS (KN cR dE) (Q1 dE hl)));exact ah 1 .z [] [.idx h3] 0x2221 (ai (fE hb) (ai (Q1 dE hl) (ai (gT (KN cR dE)) tr)))
theorem IE(d:Nat)(σ:St){T:Nat}(hT:σ[T]?=some (.dict []))(c:Nat):Run af (d+1) 73 [cF T,.int c] σ .none σ:=ah 1 .z [.of hT] [] 0x0 tr
theorem GV(d:Nat)(σ:St){T:Nat}(hT:σ[T]?=some (.dict []))(c:Nat):∃v,Run af (d+3) 75 [cF T,.int c] σ (.str v) (σ++[.dead]):=by
 haveI ho:=IE d σ hT c
 haveI hw:Wh af (d+1) yu xV [some (cF T),some (.int c),some (cF T),none] σ .next [some (cF T),some (.int c),some .none,some .none] σ:=by
  refine Wh.next (ae:=σ) (av:=σ) (aG:=[some (cF T),some (.int c),some .none,some .none]) ?_ ?_ (Wh.stop ?_)
  ·exact br 1 .z [] [] 0x0 tr
  ·exact bJ 1 .z [] [.call .z ho] 0x2 tr
  ·exact br 1 .z [] [] 0x0 tr
 by_cases hc:(127:Int)<(c:Int)
 ·refine⟨[119],?_⟩;exact ah 3 .z [] [.cL .z hw] 0x2111211121112111211 (ai hc tr)
 ·refine⟨[46],?_⟩;exact ah 3 .z [] [.cL .z hw] 0x2111211121112111311 (ai hc tr)
section
variable {U σ:St} {M K Mk Ch Cg:Nat} {E:Env} {taken:Nat} {s:MS}
theorem xn(p:cj U σ M K Mk Ch Cg E taken s)(a:Atom){c:Nat}(hc:Sg c)(d:Nat):∃τ,Run af (d+6) 68 [.loc M,Row.v E.fo (.bL a),.int c] σ (.bool (a.tk c E.fo)) (σ++τ):=by
 haveI hM:=p.hM;haveI hk:=GV (d+1) σ p.hT c;obtain⟨kv,hk⟩:=hk;obtain⟨aq,gr,jU,fo,ag,ao,T,point,limit⟩:=E;rcases hc with rfl|rfl|rfl|rfl<;>cases fo<;>cases a
 ·refine⟨[],?_⟩;rw[append_nil];exact ah 6 .z [.of hM] [] 0x0 tr
 ·refine⟨[],?_⟩;rw[append_nil];exact ah 6 .z [.of hM] [] 0x0 tr
 ·refine⟨[],?_⟩;rw[append_nil];exact ah 6 .z [.of hM] [] 0x0 tr
 ·refine⟨[],?_⟩;rw[append_nil];exact ah 6 .z [] [] 0x0 tr
 ·refine⟨[],?_⟩;rw[append_nil];exact ah 6 .z [.of hM] [] 0x0 tr
 ·refine⟨[],?_⟩;rw[append_nil];exact ah 6 .z [.of hM] [] 0x0 tr
 ·refine⟨[],?_⟩;rw[append_nil];exact ah 6 .z [.of hM] [] 0x0 tr
 ·refine⟨[],?_⟩;rw[append_nil];exact ah 6 .z [.of hM] [] 0x0 tr
 ·refine⟨[],?_⟩;rw[append_nil];exact ah 6 .z [.of hM] [] 0x0 tr
 ·refine⟨[],?_⟩;rw[append_nil];exact ah 6 .z [] [] 0x0 tr
 ·refine⟨[],?_⟩;rw[append_nil];exact ah 6 .z [.of hM] [] 0x0 tr
 ·refine⟨[],?_⟩;rw[append_nil];exact ah 6 .z [.of hM] [] 0x0 tr
 ·refine⟨[],?_⟩;rw[append_nil];exact ah 6 .z [.of hM] [] 0x0 tr
 ·refine⟨[],?_⟩;rw[append_nil];exact ah 6 .z [.of hM] [] 0x0 tr
 ·refine⟨[],?_⟩;rw[append_nil];exact ah 6 .z [.of hM] [] 0x0 tr
 ·refine⟨[],?_⟩;rw[append_nil];exact ah 6 .z [] [] 0x0 tr
 ·refine⟨[],?_⟩;rw[append_nil];exact ah 6 .z [.of hM] [] 0x0 tr
 ·refine⟨[.dead],?_⟩;exact ah 6 .z [.of hM] [.call (.add .z _) hk] 0x2111111111111111 (ai trivial tr)
 ·refine⟨[],?_⟩;rw[append_nil];exact ah 6 .z [.of hM] [] 0x0 tr
 ·refine⟨[],?_⟩;rw[append_nil];exact ah 6 .z [.of hM] [] 0x0 tr
 ·refine⟨[],?_⟩;rw[append_nil];exact ah 6 .z [.of hM] [] 0x0 tr
 ·refine⟨[],?_⟩;rw[append_nil];exact ah 6 .z [] [] 0x0 tr
 ·refine⟨[],?_⟩;rw[append_nil];exact ah 6 .z [.of hM] [] 0x0 tr
 ·refine⟨[.dead],?_⟩;exact ah 6 .z [.of hM] [.call (.add .z _) hk] 0x2111111111111111111111111111111111 (ai trivial tr)
 ·refine⟨[],?_⟩;rw[append_nil];exact ah 6 .z [.of hM] [] 0x0 tr
 ·refine⟨[],?_⟩;rw[append_nil];exact ah 6 .z [.of hM] [] 0x0 tr
 ·refine⟨[],?_⟩;rw[append_nil];exact ah 6 .z [.of hM] [] 0x0 tr
 ·refine⟨[],?_⟩;rw[append_nil];exact ah 6 .z [] [] 0x0 tr
 ·refine⟨[.dead],?_⟩;exact ah 6 .z [.of hM] [.call (.add .z _) hk] 0x2111111111111111 (ai trivial tr)
 ·refine⟨[.dead],?_⟩;exact ah 6 .z [.of hM] [.call (.add .z _) hk] 0x211111111111111 (ai trivial tr)
 ·refine⟨[],?_⟩;rw[append_nil];exact ah 6 .z [.of hM] [] 0x0 tr
 ·refine⟨[],?_⟩;rw[append_nil];exact ah 6 .z [.of hM] [] 0x0 tr
 ·refine⟨[],?_⟩;rw[append_nil];exact ah 6 .z [.of hM] [] 0x0 tr
 ·refine⟨[],?_⟩;rw[append_nil];exact ah 6 .z [] [] 0x0 tr
 ·refine⟨[],?_⟩;rw[append_nil];exact ah 6 .z [.of hM] [] 0x0 tr
 ·refine⟨[],?_⟩;rw[append_nil];exact ah 6 .z [.of hM] [] 0x0 tr
 ·refine⟨[],?_⟩;rw[append_nil];exact ah 6 .z [.of hM] [] 0x0 tr
 ·refine⟨[],?_⟩;rw[append_nil];exact ah 6 .z [.of hM] [] 0x0 tr
 ·refine⟨[],?_⟩;rw[append_nil];exact ah 6 .z [.of hM] [] 0x0 tr
 ·refine⟨[],?_⟩;rw[append_nil];exact ah 6 .z [] [] 0x0 tr
 ·refine⟨[.dead],?_⟩;exact ah 6 .z [.of hM] [.call (.add .z _) hk] 0x2111111111111111 (ai trivial tr)
 ·refine⟨[.dead],?_⟩;exact ah 6 .z [.of hM] [.call (.add .z _) hk] 0x211111111111111 (ai trivial tr)
 ·refine⟨[],?_⟩;rw[append_nil];exact ah 6 .z [.of hM] [] 0x0 tr
 ·refine⟨[],?_⟩;rw[append_nil];exact ah 6 .z [.of hM] [] 0x0 tr
 ·refine⟨[],?_⟩;rw[append_nil];exact ah 6 .z [.of hM] [] 0x0 tr
 ·refine⟨[],?_⟩;rw[append_nil];exact ah 6 .z [] [] 0x0 tr
 ·refine⟨[.dead],?_⟩;exact ah 6 .z [.of hM] [.call (.add .z _) hk] 0x2111111111111111111111111111111111 (ai trivial tr)
 ·refine⟨[.dead],?_⟩;exact ah 6 .z [.of hM] [.call (.add .z _) hk] 0x2111111111111111111111111111111 (ai trivial tr)
end
end
section
theorem eT(l:List Int):(bP l).length=l.length:=by simp[bP]
theorem gV{l:List Int}{i:Nat}{v:Int}(h:l[i]?=some v)(hl:l.length<=10000):idx (bP l) (i:Int)=some (.int v):=by refine Rw (kI _ _ (by rw[eT];exact((List.getElem?_eq_some_iff.mp h).1)) (EG ((List.getElem?_eq_some_iff.mp h).1) hl)) (?_);simp[bP,h]
theorem fO(l:List Int)(i:Nat)(v:Int):(bP l).set i (.int v)=bP (l.set i v):=by simp[bP]
structure Wf(E:Env)(s:MS):Prop where
 kl:s.kept.length=2*E.gr+2
 ml:s.marks.length=E.jU
 pA:∀c∈s.chg,c.2.1<(if c.1 then s.kept.length else s.marks.length)
 gr:E.gr<=100
 mk':E.jU<=1000
 rl:E.aq.length<=1000
 tl:E.ag.length<=1000
 ts:∀c∈E.ag,Sg c
 lim:E.limit<=E.ao+E.ag.length
 pb:E.ao<=s.aw
 oJ:∀c∈s.dJ,E.ao<=c.2.1
 bs:E.ao<=1000
noncomputable def fh(c:Nat):List (Bool×Nat×Int)->List Int->List Int->List (Bool×Nat×Int)×List Int×List Int
 |[],k,m=>([],k,m)
 |(b,i,o)::r,k,m=>if c<r.length+1 then(if b then fh c r (k.set i o) m else fh c r k (m.set i o))else((b,i,o)::r,k,m)
theorem jM(c i:Nat)(b:Bool)(o:Int)(r:List (Bool×Nat×Int))(k m:List Int):fh c ((b,i,o)::r) k m=if c<r.length+1 then(if b then fh c r (k.set i o) m else fh c r k (m.set i o))else((b,i,o)::r,k,m):=rfl
section
variable {U σ:St} {M K Mk Ch Cg:Nat} {E:Env} {taken:Nat} {s:MS}
theorem sf(p:cj U σ M K Mk Ch Cg E taken s){j:Nat}{a b:Int}(ha:s.kept[2*j]?=some a)(hb:s.kept[2*j+1]?=some b)(hl:s.kept.length<=10000)(d:Nat):Run af (d+1) 63 [.loc M,.int j] σ (if a<0\/b<0 then .none else .aj [.int a,.int b]) σ:=by
 haveI hM:=p.hM;haveI hK:=p.hK;haveI i1:=gV ha hl;haveI i2:=gV hb hl;haveI hj:=(List.getElem?_eq_some_iff.mp hb).1;haveI e1:((2*j:Nat):Int)=2*(j:Int):=Xd;haveI e2:((2*j+1:Nat):Int)=2*(j:Int)+1:=VC;haveI i1:=e1▸i1;haveI i2:=e2▸i2;by_cases h1:a<0
 ·exact Rw (if_pos (.inl h1)) (ah 1 .z [.of hM,.of hK] [.bin (fun y_=>bR (x:=2) (y:=(↑j:Int)) (by decide) (by decide) (fA (a:=j)) (fE (a:=j) (b:=1000000000) (CX hj hl))),.idx i1,.bin (fun y_=>bR (x:=2) (y:=(↑j:Int)) (by decide) (by decide) (fA (a:=j)) (fE (a:=j) (b:=1000000000) (CX hj hl))),.idx i2] 0x22212211 (ai h1 tr))
 ·by_cases h2:b<0
  ·exact Rw (if_pos (.inr h2)) (ah 1 .z [.of hM,.of hK] [.bin (fun y_=>bR (x:=2) (y:=(↑j:Int)) (by decide) (by decide) (fA (a:=j)) (fE (a:=j) (b:=1000000000) (CX hj hl))),.idx i1,.bin (fun y_=>bR (x:=2) (y:=(↑j:Int)) (by decide) (by decide) (fA (a:=j)) (fE (a:=j) (b:=1000000000) (CX hj hl))),.idx i2] 0x232212211 (ai h1 (ai h2 tr)))
  ·exact Rw (if_neg (fun h=>h.elim h1 h2)) (ah 1 .z [.of hM,.of hK] [.bin (fun y_=>bR (x:=2) (y:=(↑j:Int)) (by decide) (by decide) (fA (a:=j)) (fE (a:=j) (b:=1000000000) (CX hj hl))),.idx i1,.bin (fun y_=>bR (x:=2) (y:=(↑j:Int)) (by decide) (by decide) (fA (a:=j)) (fE (a:=j) (b:=1000000000) (CX hj hl))),.idx i2] 0x332212211 (ai h1 (ai h2 tr)))
theorem Ee(p:cj U σ M K Mk Ch Cg E taken s){i:Nat}{o:Int}(ho:s.kept[i]?=some o)(hl:s.kept.length<=10000)(hc:s.chg.length<=500000)(v:Nat)(d:Nat):∃ab,Run af (d+1) 66 [.loc M,.loc K,.int i,.int v] σ .none ab/\cj U ab M K Mk Ch Cg E taken {s with kept:=s.kept.set i v,chg:=(true,i,o)::s.chg}:=by
 haveI q:=(p.xb ((true,i,o)::s.chg)).Gb (s.kept.set i v);haveI cR:=(List.getElem?_eq_some_iff.mp ho).1;haveI dE:(s.chg.reverse.map (jJ K Mk)).length<1000000:=by rw[length_map,length_reverse];exact LN hc
 rw[<-fO,reverse_cons,map_append]at q;refine⟨_,?_,q⟩;exact ah 1 .z [.of p.hM,.of p.mW,.of p.hK] [.idx (gV ho hl),.aw (fE C9) (dK (n:=(bP s.kept).length) (by rw[eT];exact cR) (EG cR hl))] 0x322322223211 (ai dE (ai p.n7 (ai p.n7 tr)))
theorem DZ(p:cj U σ M K Mk Ch Cg E taken s){i:Nat}{o:Int}(ho:s.marks[i]?=some o)(hl:s.marks.length<=10000)(hc:s.chg.length<=500000)(v:Nat)(d:Nat):∃ab,Run af (d+1) 66 [.loc M,.loc Mk,.int i,.int v] σ .none ab/\cj U ab M K Mk Ch Cg E taken {s with marks:=s.marks.set i v,chg:=(false,i,o)::s.chg}:=by
 haveI q:=(p.xb ((false,i,o)::s.chg)).setM (s.marks.set i v);haveI hM:=p.hM;haveI hK:=p.L8;haveI mW:=p.mW;haveI i1:=gV ho hl;haveI cR:=(List.getElem?_eq_some_iff.mp ho).1;haveI ZK:=dK (n:=(bP s.marks).length) (by rw[eT];exact cR) (EG cR hl);haveI dE:(s.chg.reverse.map (jJ K Mk)).length<1000000:=by rw[length_map,length_reverse];exact LN hc
 haveI lS:=p.n9;rw[<-fO,reverse_cons,map_append]at q;refine⟨_,?_,q⟩;exact ah 1 .z [.of hM,.of mW,.of hK] [.idx i1,.aw (fE C9) ZK] 0x322322223211 (ai dE (ai lS (ai lS tr)))
theorem kq(d c:Nat):∀(l:List (Bool×Nat×Int)) {σ:St} {s:MS} (p:cj U σ M K Mk Ch Cg E taken s) (hs:s.chg=l) (AH:∀c∈s.chg,c.2.1<(if c.1 then s.kept.length else s.marks.length)) (hl:l.length<=500000) (fe:s.kept.length<=10000) (fX:s.marks.length<=10000) (e2 e3 e4:Option V),qX fun ab Av mh nM=>Wh af (d+0) yf yP [some (.loc M),some (.int c),e2,e3,e4] σ .next [some (.loc M),some (.int c),Av,mh,nM] ab/\cj U ab M K Mk Ch Cg E taken {s with chg:=(fh c l s.kept s.marks).1,kept:=(fh c l s.kept s.marks).2.1,marks:=(fh c l s.kept s.marks).2.2}
 |[]=>by rename_i σ gY;intro p GW AH hl fe fX e2 e3 e4;obtain⟨_,_,_,_,_,_⟩:=gY;obtain rfl:=GW;haveI hM:=p.hM;haveI mW:=p.mW;exact⟨σ,e2,e3,e4,Wh.stop (br 0 .z [.of hM,.of mW] [] 0x21 (ai (show(List.map (jJ K Mk) [].reverse).length<=1000000 from(bl rfl)) tr)),p⟩
 |(b,i,o)::r=>by
  rename_i σ gY;intro p GW AH hl fe fX e2 e3 e4;obtain⟨w,pl,kept,marks,_,dJ⟩:=gY;obtain rfl:=GW;haveI hM:=p.hM;haveI mW:=p.mW;haveI hlen:(((b,i,o)::r).reverse.map (jJ K Mk)).length=r.length+1:=by rw[length_map,length_reverse];rfl
  haveI pR:=AH (b,i,o) mem_cons_self;haveI hl:r.length+1<=500000:=hl;haveI ll:(((b,i,o)::r).reverse.map (jJ K Mk)).length<=1000000:=Rw hlen (SD hl);by_cases hc:c<r.length+1
  ·haveI Hh:c<(((b,i,o)::r).reverse.map (jJ K Mk)).length:=Rw hlen hc;haveI DL:((b,i,o)::r).reverse.map (jJ K Mk)=r.reverse.map (jJ K Mk)++[jJ K Mk (b,i,o)]:=Rw reverse_cons (Rw map_append rfl);haveI dl:(((b,i,o)::r).reverse.map (jJ K Mk)).dropLast=r.reverse.map (jJ K Mk):=Rw DL dropLast_concat;cases b
   ·haveI gl:(((false,i,o)::r).reverse.map (jJ K Mk)).getLast?=some (.aj [.loc Mk,.int i,.int o]):=Rw DL (getLast?_concat);haveI pR:i<marks.length:=pR
    obtain⟨ab,Av,mh,nM,hw,q⟩:=kq d c r ((p.xb r).setM (marks.set i o)) rfl (by
     intro x hx;have:=AH x (mem_cons_of_mem _ hx)
     exact Rw length_set this) (Jo (by assumption)) fe (Rw length_set fX) (some (.loc Mk)) (some (.int i)) (some (.int o))
    rw[<-fO]at hw;refine⟨ab,Av,mh,nM,Wh.next (ae:=σ) (br 0 .z [.of hM,.of mW] [] 0x221 (ai ll (ai (gT Hh) tr))) ?_ hw,?_⟩
    ·exact bJ 0 .z [.of hM,.of mW,.of p.L8] [.pop gl dl,.aw (fE (a:=0) C9) (dK (n:=(bP marks).length) (by rw[eT];exact pR) (EG pR (by assumption)))] 0x322322221 (ai ll (ai p.n9 (ai p.n9 tr)))
    ·simp only[jM,hc];exact q
   ·haveI gl:(((true,i,o)::r).reverse.map (jJ K Mk)).getLast?=some (.aj [.loc K,.int i,.int o]):=Rw DL (getLast?_concat);haveI pR:i<kept.length:=pR
    obtain⟨ab,Av,mh,nM,hw,q⟩:=kq d c r ((p.xb r).Gb (kept.set i o)) rfl (by
     intro x hx;have:=AH x (mem_cons_of_mem _ hx)
     exact Rw length_set this) (Jo (by assumption)) (Rw length_set fe) fX (some (.loc K)) (some (.int i)) (some (.int o))
    rw[<-fO]at hw;refine⟨ab,Av,mh,nM,Wh.next (ae:=σ) (br 0 .z [.of hM,.of mW] [] 0x221 (ai ll (ai (gT Hh) tr))) ?_ hw,?_⟩
    ·exact bJ 0 .z [.of hM,.of mW,.of p.hK] [.pop gl dl,.aw (fE (a:=0) C9) (dK (n:=(bP kept).length) (by rw[eT];exact pR) (EG pR fe))] 0x322322221 (ai ll (ai p.n7 (ai p.n7 tr)))
    ·simp only[jM,hc];exact q
  ·haveI Hh:(((b,i,o)::r).reverse.map (jJ K Mk)).length<=c:=Rw hlen (not_lt.mp hc);refine⟨σ,e2,e3,e4,Wh.stop (br 0 .z [.of hM,.of mW] [] 0x321 (ai ll (ai (iX Hh) tr))),?_⟩;simp only[jM,hc];exact p
theorem zb(p:cj U σ M K Mk Ch Cg E taken s)(AH:∀c∈s.chg,c.2.1<(if c.1 then s.kept.length else s.marks.length))(hl:s.chg.length<=500000)(fe:s.kept.length<=10000)(fX:s.marks.length<=10000)(c d:Nat):∃ab,Run af (d+1) 65 [.loc M,.int c] σ .none ab/\cj U ab M K Mk Ch Cg E taken {s with chg:=(fh c s.chg s.kept s.marks).1,kept:=(fh c s.chg s.kept s.marks).2.1,marks:=(fh c s.chg s.kept s.marks).2.2}:=by refine cps fun G kG=>?_;obtain⟨ab,e2,e3,e4,hw,q⟩:=kq d c s.chg p rfl AH hl fe fX none none none;refine kG ⟨ab,?_,q⟩;exact ah 1 .z [] [.cL .z hw] 0x0 tr
end
end
section
inductive i6(E:Env)(s:MS)(j:Nat):Option Nat->Prop where
 |no (v:Int) (h1:s.kept[2*j]?=some v) (h2:s.kept[2*j+1]?=some (-1)):i6 E s j none
 |yes (a b:Nat) (h1:s.kept[2*j]?=some ((E.ao+a:Nat):Int)) (h2:s.kept[2*j+1]?=some ((E.ao+b:Nat):Int)) (Ik:a<=b) (hb:E.ao+b<=E.limit):
   i6 E s j (if s.aw+(b-a)<=E.limit/\fq E.fo ((E.ag.drop (s.aw-E.ao)).take (b-a)) ((E.ag.drop a).take (b-a))=true then some (s.aw+(b-a))else none)
inductive Ask(E:Env)(s:MS):Row->Option MS->Prop where
 |bL (a:Atom):Ask E s (.bL a) (if bH (E.ag.take (E.limit-E.ao)) E.fo a (s.aw-E.ao)=true then some {s with row:=s.row+1,aw:=s.aw+1}else none)
 |point:Ask E s .point (if s.aw=E.point then some {s with row:=s.row+1}else none)
 |save (i:Nat) (o:Int) (h:s.kept[i]?=some o):Ask E s (.save i) (some {s with row:=s.row+1,kept:=s.kept.set i s.aw,chg:=(true,i,o)::s.chg})
 |mark (i:Nat) (o:Int) (h:s.marks[i]?=some o):Ask E s (.mark i) (some {s with row:=s.row+1,marks:=s.marks.set i s.aw,chg:=(false,i,o)::s.chg})
 |af (i:Nat) (o:Int) (h:s.marks[i]?=some o) (cR:o<s.aw):Ask E s (.af i) (some {s with row:=s.row+1})
 |back (j:Nat) (r:Option Nat) (h:i6 E s j r):Ask E s (.back j) (r.map fun q=>{s with row:=s.row+1,aw:=q})
theorem ov(d:Nat)(σ:St){c:Nat}(h:Sg c):Run af (d+2) 2 [.int c] σ (.int (lowers c)) σ:=by
 rcases h with rfl|rfl|rfl|rfl
 all_goals exact ah 2 .z [] [] 0x0 tr
theorem Bj(x y:Nat)(f:Bool):cU x y f=cU y x f:=by
 unfold cU;rw[Bool.eq_iff_iff];simp only[Bool.or_eq_true,beq_iff_eq,Bool.and_eq_true];constructor
 ·rintro(h|⟨h1,h2⟩)
  ·exact .inl h.symm
  ·exact .inr ⟨h1,h2.symm⟩
 ·rintro(h|⟨h1,h2⟩)
  ·exact .inl h.symm
  ·exact .inr ⟨h1,h2.symm⟩
section
variable {U σ:St} {M K Mk Ch Cg:Nat} {E:Env} {taken:Nat} {s:MS}
theorem vB(p:cj U σ M K Mk Ch Cg E taken s)(w:Wf E s)(d:Nat)(q a:Nat)(jv:V)(bv:V):∀(n i:Nat) (e4 e5 e6:Option V),a+i+n<=E.ag.length->q+i+n<=E.ag.length->mQ fun nM Dr Iv=>cg (eU af (d+2) [4] false yT) (up i n) [some (.loc M),some jv,some (.int ((E.ao+q:Nat):Int)),some (.aj [.int ((E.ao+a:Nat):Int),bv]),e4,e5,e6] σ
   (if fq E.fo ((E.ag.drop (q+i)).take n) ((E.ag.drop (a+i)).take n)=true then .next else .ret .none) [some (.loc M),some jv,some (.int ((E.ao+q:Nat):Int)),some (.aj [.int ((E.ao+a:Nat):Int),bv]),nM,Dr,Iv] σ
 |0=>@fun i e4 e5 e6 h1 h2=>⟨e4,e5,e6,by rw[take_zero,take_zero];exact cg.nil⟩
 |n+1=>@fun i e4 e5 e6 h1 h2=>by
  haveI hx:E.ag[a+i]?=some (E.ag[a+i]'(Q6 h1)):=getElem?_eq_getElem _;haveI hy:E.ag[q+i]?=some (E.ag[q+i]'(Q6 h2)):=getElem?_eq_getElem _;haveI sx:=w.ts _ (List.mem_of_getElem? hx);haveI sy:=w.ts _ (List.mem_of_getElem? hy);haveI dx:(E.ag.drop (a+i)).take (n+1)=E.ag[a+i]'(Q6 h1)::(E.ag.drop (a+i+1)).take n:=Rw (drop_eq_getElem_cons (Q6 h1)) rfl;haveI dy:(E.ag.drop (q+i)).take (n+1)=E.ag[q+i]'(Q6 h2)::(E.ag.drop (q+i+1)).take n:=Rw (drop_eq_getElem_cons (Q6 h2)) rfl;refine Rw dx (Rw dy (?_));generalize E.ag[a+i]'(Q6 h1)=x at *;generalize E.ag[q+i]'(Q6 h2)=y at *;haveI hM:=p.hM;haveI c1:=kF (d+1) σ Jc (Rw (show E.ao+a+i-E.ao=a+i by exact JC) hx) w.tl;haveI c2:=kF (d+1) σ Jc (Rw (show E.ao+q+i-E.ao=q+i by exact JC) hy) w.tl;haveI hi1:((i+1:Nat):Int)=((i:Int)+1):=Int.natCast_succ i;obtain⟨nM,Dr,Iv,ih⟩:=vB p w d q a jv bv n (i+1) (some (.int i)) (some (.int x)) (some (.int y)) (Jt h1) (Jt h2);rw[<-add_assoc,<-add_assoc,hi1]at ih;refine Rw (show fq E.fo (y::List.take n (List.drop (q+i+1) E.ag)) (x::List.take n (List.drop (a+i+1) E.ag))=(cU x y E.fo&&fq E.fo (List.take n (List.drop (q+i+1) E.ag)) (List.take n (List.drop (a+i+1) E.ag))) by rw[Bj];rfl) (?_);clear dx dy hx hy;by_cases Ai:x=y
  ·rw[show cU x y E.fo=true by unfold cU;exact Rw (beq_iff_eq.mpr Ai) rfl,Bool.true_and];refine⟨nM,Dr,Iv,cg.next ?_ ih⟩;exact dq 2 .z [.of hM] [.call .z c1,.call .z c2] 0x321211 (ai (Fg Ai) tr)
  ·obtain⟨aq,gr,jU,fo,ag,ao,T,point,limit⟩:=E;cases fo
   ·rw[show cU x y false=false by unfold cU;exact Rw (iQ Ai) rfl,Bool.false_and,if_neg bf];refine⟨some (.int i),some (.int x),some (.int y),cg.ret ?_⟩;exact dq 2 .z [.of hM] [.call .z c1,.call .z c2] 0x221211 (ai (qU Ai) tr)
   ·by_cases H8:lowers x=lowers y
    ·rw[show cU x y true=true by unfold cU;rw[beq_iff_eq.mpr H8,Bool.true_and,Bool.or_true],Bool.true_and];refine⟨nM,Dr,Iv,cg.next ?_ ih⟩;exact dq 2 .z [.of hM] [.call .z c1,.call .z c2,.call .z (ov d σ sx),.call .z (ov d σ sy)] 0x2221221211 (ai (qU Ai) (ai (Fg H8) tr))
    ·rw[show cU x y true=false by unfold cU;exact Rw (iQ Ai) (Rw (iQ H8) rfl),Bool.false_and,if_neg bf];refine⟨some (.int i),some (.int x),some (.int y),cg.ret ?_⟩;exact dq 2 .z [.of hM] [.call .z c1,.call .z c2,.call .z (ov d σ sx),.call .z (ov d σ sy)] 0x3221221211 (ai (qU Ai) (ai (qU H8) tr))
noncomputable def E9:Option Nat->V|none=>.none|some q=>.int q
theorem oc(p:cj U σ M K Mk Ch Cg E taken s)(w:Wf E s){j:Nat}{r:Option Nat}(hr:i6 E s j r)(d:Nat):Run af (d+3) 70 [.loc M,.int j,.int s.aw] σ (E9 r) σ:=by
 have fe:s.kept.length<=10000:=by haveI:=w.kl;haveI:=w.gr;exact HM (by assumption) this
 haveI hM:=p.hM
 cases hr with
 |no v h1 h2=>haveI hs:=sf p h1 h2 fe (d+1);rw[if_pos (.inr (by decide))]at hs;exact ah 3 .z [.of hM] [.call .z hs] 0x211 tr
 |yes a b h1 h2 Ik hb=>
  haveI hs:=sf p h1 h2 fe (d+1);rw[if_neg MG]at hs;haveI wl:=w.lim;haveI wt:=w.tl;haveI wp:=w.pb;haveI wb:=w.bs;by_cases hq:s.aw+(b-a)<=E.limit
  ·obtain⟨q,Gz⟩:∃q,s.aw=E.ao+q:=⟨s.aw-E.ao,Jv wp⟩;haveI hc:¬(E.limit:Int)<(s.aw:Int)+((E.ao+b:Nat):Int)-((E.ao+a:Nat):Int):=QJ hq;haveI hn:((((E.ao+b:Nat):Int)-((E.ao+a:Nat):Int))).toNat=b-a:=O2;haveI JK:(s.aw:Int)+((E.ao+b:Nat):Int)-((E.ao+a:Nat):Int)=((s.aw+(b-a):Nat):Int):=OF Ik;haveI xt:small (((E.ao+b:Nat):Int)-((E.ao+a:Nat):Int))=true:=cZ (Ni JK) (N0 hb wt wl);obtain⟨e4,e5,e6,hl⟩:=vB p w d q a (.int j) (.int ((E.ao+b:Nat):Int)) (b-a) 0 none none none (RF hb Ik wl) (R0 hq Gz wl);rw[<-Gz]at hl;rw[show q+0=q from rfl,show a+0=a from rfl]at hl;haveI Zm:s.aw-E.ao=q:=Fm Gz;refine Rw Zm (?_);by_cases wX:fq E.fo ((E.ag.drop q).take (b-a)) ((E.ag.drop a).take (b-a))=true
   ·rw[if_pos wX]at hl;refine Rw (if_pos ⟨hq,wX⟩) (?_);rw[<-hn]at hl;show Run _ _ _ _ _ (.int ((s.aw+(b-a):Nat):Int)) _;exact Lw JK (ah 3 .z [.of hM] [.call .z hs,.md .z hl] 0x21131111211 (ai hc (ai xt tr)))
   ·rw[if_neg wX]at hl;refine Rw (if_neg (fun h=>wX h.2)) (?_);rw[<-hn]at hl;exact ah 3 .z [.of hM] [.call .z hs,.md .z hl] 0x21131111211 (ai hc (ai xt tr))
  ·haveI hc:(E.limit:Int)<(s.aw:Int)+((E.ao+b:Nat):Int)-((E.ao+a:Nat):Int):=YJ Ik hq;exact Rw (if_neg (fun h=>hq h.1)) (ah 3 .z [.of hM] [.call .z hs] 0x21111211 (ai hc tr))
theorem C7(d:Nat)(σ:St)(x y:V)(pt q:Nat):Run af (d+1) 13 [.str [112,111,105,110,116],x,y,.int pt,.int q] σ (.bool (decide (q=pt))) σ:=by
 by_cases h:q=pt
 ·subst h;exact Rw (decide_eq_true rfl) (ah 1 .z [] [] 0x2111111 (ai (show(↑q:Int)=(↑q:Int)from rfl) tr))
 ·exact Rw (decide_eq_false h) (ah 1 .z [] [] 0x3111111 (ai (qU h) tr))
noncomputable def SU(s:MS):Option MS->V|none=>.none|some s'=>.int s'.aw
theorem pL(p:cj U σ M K Mk Ch Cg E taken s)(w:Wf E s){r:Row}{res:Option MS}(ha:Ask E s r res)(hc:s.chg.length<=500000)(d:Nat):∃ab,Run af (d+7) 67 [.loc M,r.v E.fo,.int s.aw] σ (SU s res) ab/\cj U ab M K Mk Ch Cg E taken (res.getD s):=by
 haveI fe:s.kept.length<=10000:=HM w.kl w.gr;have fX:s.marks.length<=10000:=IM w.ml w.mk';have hM:=p.hM
 cases ha with
 |bL a=>
  haveI wp:=w.pb;by_cases cR:s.aw<E.limit
  ·have Ms:=Tt cR wp w.lim;haveI hg:E.ag[s.aw-E.ao]?=some (E.ag[s.aw-E.ao]'Ms):=getElem?_eq_getElem _;haveI Qw:=w.ts _ (List.mem_of_getElem? hg);haveI ux:=kF (d+5) σ wp hg w.tl;obtain⟨τ,AF⟩:=xn p a Qw d
   haveI HX:bH (E.ag.take (E.limit-E.ao)) E.fo a (s.aw-E.ao)=a.tk (E.ag[s.aw-E.ao]'Ms) E.fo:=by unfold bH;exact Rw (getElem?_take_of_lt (PH cR wp)) (Rw hg rfl)
   refine Rw HX (?_);clear hg Qw HX;generalize E.ag[s.aw-E.ao]'Ms=c at *;cases hk:a.tk c E.fo
   ·refine⟨_,?_,Rw (if_neg bf) (p.app τ)⟩;rw[hk]at AF;refine Rw (if_neg bf) (?_);cases a<;>exact ah 7 .z [.of hM] [.call .z ux,.call .z AF] 0x221121111 (ai (gT cR) tr)
   ·refine⟨_,?_,Rw (if_pos rfl) ((p.app τ).pos (s.row+1) (s.aw+1))⟩;rw[hk]at AF;refine Rw (if_pos rfl) (?_);cases a<;>exact ah 7 .z [.of hM] [.call .z ux,.call .z AF] 0x221121111 (ai (gT cR) tr)
  ·have HX:bH (E.ag.take (E.limit-E.ao)) E.fo a (s.aw-E.ao)=false:=by
    unfold bH;exact Rw (getElem?_eq_none (Rw length_take (Ub cR))) rfl
   refine Rw HX ⟨σ,?_,Rw (if_neg bf) p⟩;refine Rw (if_neg bf) (?_);cases a<;>exact ah 7 .z [.of hM] [] 0x31111 (ai (iX (not_lt.mp cR)) tr)
 |point=>
  haveI hp:=C7 (d+5) σ (ee E.ag E.ao) (cF E.T) E.point s.aw;by_cases h:s.aw=E.point
  ·refine Rw (if_pos h) ⟨σ,?_,p.pos (s.row+1) s.aw⟩;rw[decide_eq_true h]at hp;exact ah 7 .z [.of hM] [.call .z hp] 0x211111111 tr
  ·refine Rw (if_neg h) ⟨σ,?_,p⟩;rw[decide_eq_false h]at hp;exact ah 7 .z [.of hM] [.call .z hp] 0x211111111 tr
 |save i o h=>obtain⟨ab,e,q⟩:=Ee p h fe hc s.aw (d+5);refine⟨ab,?_,q.pos (s.row+1) s.aw⟩;exact ah 7 .z [.of hM] [.call .z e] 0x211111111 tr
 |mark i o h=>obtain⟨ab,e,q⟩:=DZ p h fX hc s.aw (d+5);refine⟨ab,?_,q.pos (s.row+1) s.aw⟩;exact ah 7 .z [.of hM] [.call .z e] 0x2111111111 tr
 |af i o h cR=>refine⟨σ,?_,p.pos (s.row+1) s.aw⟩;exact ah 7 .z [.of hM,.of p.L8] [.idx (gV h fX)] 0x222111111111 (ai cR tr)
 |back j r h=>
  refine⟨σ,?_,?_⟩
  ·cases r with
   |none=>exact ah 7 .z [.of hM] [.call .z (oc p w h (d+3))] 0x2111111111 tr
   |some q=>exact ah 7 .z [.of hM] [.call .z (oc p w h (d+3))] 0x2111111111 tr
  ·cases r with
   |none=>exact p
   |some q=>exact p.pos (s.row+1) q
end
end
section
noncomputable def iq(s:MS)(b p c:Nat)(rest:List (Nat×Nat×Nat)):MS:={row:=b,aw:=p,kept:=(fh c s.chg s.kept s.marks).2.1,marks:=(fh c s.chg s.kept s.marks).2.2,chg:=(fh c s.chg s.kept s.marks).1,dJ:=rest}
inductive Runs(E:Env):MS->Nat->Option (Nat×List Int)->Prop where
 |done {s:MS} (h:E.aq[s.row]?=some .done):Runs E s 1 (some (s.aw,s.kept))
 |split {s:MS} {a b n:Nat} {o:Option (Nat×List Int)} (h:E.aq[s.row]?=some (.split a b)) (r:Runs E {s with row:=a,dJ:=(b,s.aw,s.chg.length)::s.dJ} n o):Runs E s (n+1) o
 |bq {s:MS} {a n:Nat} {o:Option (Nat×List Int)} (h:E.aq[s.row]?=some (.bq a)) (r:Runs E {s with row:=a} n o):Runs E s (n+1) o
 |ok {s s':MS} {w:Row} {n:Nat} {o:Option (Nat×List Int)} (h:E.aq[s.row]?=some w) (ha:Ask E s w (some s')) (r:Runs E s' n o):Runs E s (n+1) o
 |nil {s:MS} {w:Row} (h:E.aq[s.row]?=some w) (ha:Ask E s w none) (hc:s.dJ=[]):Runs E s 1 none
 |pop {s:MS} {w:Row} {b p c n:Nat} {rest:List (Nat×Nat×Nat)} {o:Option (Nat×List Int)} (h:E.aq[s.row]?=some w) (ha:Ask E s w none) (hc:s.dJ=(b,p,c)::rest) (r:Runs E (iq s b p c rest) n o):Runs E s (n+1) o
theorem k6(c:Nat):∀(l:List (Bool×Nat×Int)) (k m:List Int),(fh c l k m).1.length<=l.length/\(fh c l k m).2.1.length=k.length/\(fh c l k m).2.2.length=m.length/\∀x∈(fh c l k m).1,x∈l
 |[]=>@fun k m=>⟨le_refl _,rfl,rfl,fun x h=>h⟩
 |(b,i,o)::r=>@fun k m=>by
  simp only[jM]
  split
  ·cases b
   ·haveI:=k6 c r k (m.set i o);simp only[if_false,length_set]at this ⊢;exact⟨Q0 this.1,this.2.1,this.2.2.1,fun x h=>mem_cons_of_mem _ (this.2.2.2 x h)⟩
   ·haveI:=k6 c r (k.set i o) m;simp only[if_true,length_set]at this ⊢;exact⟨Q0 this.1,this.2.1,this.2.2.1,fun x h=>mem_cons_of_mem _ (this.2.2.2 x h)⟩
  ·exact⟨le_refl _,rfl,rfl,fun x h=>h⟩
theorem Wf.ask{E:Env}{s s':MS}{w:Row}(h:Wf E s)(ha:Ask E s w (some s')):Wf E s'/\s'.chg.length<=s.chg.length+1/\s'.dJ=s.dJ:=by
 generalize hr:some s'=res at ha
 cases ha with
 |bL a=>
  split at hr
  ·replace hr:=oj hr;subst hr;exact⟨⟨h.kl,h.ml,h.pA,h.gr,h.mk',h.rl,h.tl,h.ts,h.lim,le_succ_of_le h.pb,h.oJ,h.bs⟩,le_succ _,rfl⟩
  ·exact nomatch hr
 |point=>
  split at hr
  ·replace hr:=oj hr;obtain rfl:=Eq.symm hr;exact⟨⟨h.kl,h.ml,h.pA,h.gr,h.mk',h.rl,h.tl,h.ts,h.lim,h.pb,h.oJ,h.bs⟩,le_succ _,rfl⟩
  ·exact nomatch hr
 |save i o hi=>
  replace hr:=oj hr;subst hr;haveI cR:=(List.getElem?_eq_some_iff.mp hi).1;refine⟨⟨by simpa using h.kl,h.ml,?_,h.gr,h.mk',h.rl,h.tl,h.ts,h.lim,h.pb,h.oJ,h.bs⟩,by simp,rfl⟩;intro c hc;simp only[mem_cons]at hc;rcases hc with rfl|hc
  ·simpa using cR
  ·haveI:=h.pA c hc;simpa using this
 |mark i o hi=>
  replace hr:=oj hr;subst hr;haveI cR:=(List.getElem?_eq_some_iff.mp hi).1;refine⟨⟨h.kl,by simpa using h.ml,?_,h.gr,h.mk',h.rl,h.tl,h.ts,h.lim,h.pb,h.oJ,h.bs⟩,by simp,rfl⟩;intro c hc;simp only[mem_cons]at hc;rcases hc with rfl|hc
  ·simpa using cR
  ·haveI:=h.pA c hc;simpa using this
 |af i o hi cR=>replace hr:=oj hr;subst hr;exact⟨⟨h.kl,h.ml,h.pA,h.gr,h.mk',h.rl,h.tl,h.ts,h.lim,h.pb,h.oJ,h.bs⟩,le_succ _,rfl⟩
 |back j r hb=>
  cases r with
  |none=>cases hr
  |some q=>
   replace hr:=oj hr;subst hr;refine⟨⟨h.kl,h.ml,h.pA,h.gr,h.mk',h.rl,h.tl,h.ts,h.lim,?_,h.oJ,h.bs⟩,le_succ _,rfl⟩;generalize hq:some q=oq at hb;haveI hpb:=h.pb
   cases hb with
   |no=>exact nomatch hq
   |yes a b=>
    split at hq
    ·replace hq:=oj hq;subst hq;exact TG hpb
    ·exact nomatch hq
theorem Wf.pop{E:Env}{s:MS}{b p c:Nat}{rest:List (Nat×Nat×Nat)}(h:Wf E s)(hc:s.dJ=(b,p,c)::rest):Wf E (iq s b p c rest):=by
 haveI u:=k6 c s.chg s.kept s.marks;refine⟨Lw h.kl u.2.1,Lw h.ml u.2.2.1,?_,h.gr,h.mk',h.rl,h.tl,h.ts,h.lim,?_,?_,h.bs⟩
 ·intro x hx;exact Rw u.2.1 (Rw u.2.2.1 (h.pA x (u.2.2.2 x hx)))
 ·exact(h.oJ (b,p,c) (Rw hc mem_cons_self))
 ·intro x hx;exact h.oJ x (Rw hc (mem_cons_of_mem _ hx))
theorem oW(fo:Bool)(w:Row)(h1:w≠.done)(h2:∀a b,w≠.split a b)(h3:∀a,w≠.bq a):gW fun x rest=>kE (w.v fo=.aj (.str x::rest)) (x≠[100,111,110,101]) (x≠[115,112,108,105,116]) (x≠[106,117,109,112]):=by
 cases w with
 |done=>exact absurd rfl h1
 |split a b=>exact absurd rfl (h2 a b)
 |bq a=>exact absurd rfl (h3 a)
 |bL a=>cases a<;>exact⟨_,_,rfl,by decide,by decide,by decide⟩
 |_=>exact⟨_,_,rfl,by decide,by decide,by decide⟩
theorem Ask.word{E:Env}{s:MS}{w:Row}{r:Option MS}(h:Ask E s w r):w≠.done/\(∀a b,w≠.split a b)/\(∀a,w≠.bq a):=by cases h<;>exact⟨(by intro e;cases e),(by intro a b e;cases e),(by intro a e;cases e)⟩
section
variable {U σ:St} {M K Mk Ch Cg:Nat} {E:Env} {taken:Nat} {s:MS}
def Wm(M d row aw:Nat)(e3 e4 e5:Option V)(σ:St)(fl:Fl)(fr:Fr)(ab:St):Prop:=Wh af (d+7) xF xM [some (.loc M),some (.int aw),some (.int row),e3,e4,e5] σ fl fr ab
theorem gK{w:Row}(h:E.aq[s.row]?=some w)(hl:E.aq.length<=1000):idx (E.aq.map (Row.v E.fo)) (s.row:Int)=some (w.v E.fo):=sJ (Rw (getElem?_map) (Rw h rfl)) (J6 ((List.getElem?_eq_some_iff.mp h).1) hl)
theorem i3{t:Nat}(ht:t+1<=400000):¬(400000:Int)<(t:Int)+1:=Yp ht
theorem AX(p:cj U σ M K Mk Ch Cg E taken s)(w:Wf E s)(h:E.aq[s.row]?=some .done)(ht:taken+1<=400000)(d:Nat)(e3 e4 e5:Option V):∃ab aB,Wm M d s.row s.aw e3 e4 e5 σ (.ret (.int s.aw)) aB ab/\cj U ab M K Mk Ch Cg E (taken+1) s:=by
 refine⟨_,[some (.loc M),some (.int s.aw),some (.int s.row),some (.str [100,111,110,101]),e4,e5],Wh.ret (ae:=σ) ?_ ?_,(p.tick (taken+1))⟩
 ·exact br 7 .z [] [] 0x0 tr
 ·exact bJ 7 .z [.of p.hM] [.idx (gK h w.rl)] 0x21311111 (ai (i3 ht) tr)
theorem Af(p:cj U σ M K Mk Ch Cg E taken s)(w:Wf E s){a:Nat}(h:E.aq[s.row]?=some (.bq a))(ht:taken+1<=400000)(d:Nat)(e3 e4 e5:Option V):∃ab mh,(∀fl fr bM,Wm M d a s.aw mh e4 e5 ab fl fr bM->Wm M d s.row s.aw e3 e4 e5 σ fl fr bM)/\cj U ab M K Mk Ch Cg E (taken+1) {s with row:=a}:=by
 haveI hi:=gK h w.rl;refine⟨_,some (.str [106,117,109,112]),fun fl fr bM r=>Wh.cont (ae:=σ) ?_ ?_ r,(p.tick (taken+1)).pos a s.aw⟩
 ·exact br 7 .z [] [] 0x0 tr
 ·exact bJ 7 .z [.of p.hM] [.idx hi,.idx hi] 0x21111121311111 (ai (i3 ht) tr)
theorem zQ(p:cj U σ M K Mk Ch Cg E taken s)(w:Wf E s){a b:Nat}(h:E.aq[s.row]?=some (.split a b))(ht:taken+1<=400000)(AS:s.dJ.length<=500000)(uC:s.chg.length<=500000)(d:Nat)(e3 e4 e5:Option V):∃ab mh,(∀fl fr bM,Wm M d a s.aw mh e4 e5 ab fl fr bM->Wm M d s.row s.aw e3 e4 e5 σ fl fr bM)/\cj U ab M K Mk Ch Cg E (taken+1) {s with row:=a,dJ:=(b,s.aw,s.chg.length)::s.dJ}:=by
 haveI hi:=gK h w.rl;haveI lS:=p.n3.symm;haveI dE:(s.dJ.reverse.map mv).length<1000000:=by rw[length_map,length_reverse];exact LN AS
 have Ux:(s.chg.reverse.map (jJ K Mk)).length=s.chg.length:=by rw[length_map,length_reverse]
 haveI rM:(s.chg.reverse.map (jJ K Mk)).length<=1000000:=Rw Ux (Nc uC);haveI q2:=((p.tick (taken+1)).app [.dead]).GN ((b,s.aw,s.chg.length)::s.dJ);rw[reverse_cons,map_append,show[(b,s.aw,s.chg.length)].map mv=[.obj 4 [(43,.int b),(15,.int s.aw),(44,.int (s.chg.reverse.map (jJ K Mk)).length)]] by exact Rw Ux rfl]at q2;refine⟨_,some (.str [115,112,108,105,116]),fun fl fr bM r=>Wh.cont (ae:=σ) ?_ ?_ r,q2.pos a s.aw⟩
 ·exact br 7 .z [] [] 0x0 tr
 ·exact bJ 7 .z [.of p.hM,.of p.My,.of p.mW] [.idx hi,.idx hi,.idx hi] 0x212212222221211121112111211132112122111121311111 (ai (i3 ht) (ai lS (ai p.n4.symm (ai rM (ai lS (ai dE (ai lS (ai ((Iq lS)) tr))))))))
theorem F2(p:cj U σ M K Mk Ch Cg E taken s)(w:Wf E s){r:Row}{s':MS}(h:E.aq[s.row]?=some r)(ha:Ask E s r (some s'))(ht:taken+1<=400000)(uC:s.chg.length<=400000)(hr:s'.row=s.row+1)(d:Nat)(e3 e4 e5:Option V):mQ fun ab mh nM=>(∀fl fr bM,Wm M d s'.row s'.aw mh nM e5 ab fl fr bM->Wm M d s.row s.aw e3 e4 e5 σ fl fr bM)/\cj U ab M K Mk Ch Cg E (taken+1) s':=by
 haveI q:=p.tick (taken+1);haveI hM:=p.hM;haveI gM:=aH hM;haveI hi:=gK h w.rl;haveI h1:=i3 ht;refine cps fun G kG=>?_;obtain⟨bQ,e2,q2⟩:=pL q w ha (Hc uC) d;obtain⟨x,rest,hv,Ep,ED,GG⟩:=oW E.fo r ha.word.1 ha.word.2.1 ha.word.2.2;refine kG ?_;rw[hv]at hi e2;haveI h0:=mG (.str x) rest;haveI e2:Run af (d+7) 67 [.loc M,.aj (.str x::rest),.int s.aw] (σ.set M (mO E (taken+1) K Mk Ch Cg)) (.int s'.aw) bQ:=e2;refine⟨bQ,some (.str x),some (.int s'.aw),?_,q2⟩;refine Rw hr (?_);refine fun fl fr bM r=>Wh.cont (ae:=σ) ?_ ?_ r
 ·exact br 7 .z [] [] 0x0 tr
 ·exact bJ 7 .z [.of hM] [.idx hi,.idx h0,.idx hi,.call .z e2] 0x2211333221311111 (ai h1 (ai Ep (ai ED (ai GG tr))))
theorem D0(p:cj U σ M K Mk Ch Cg E taken s)(w:Wf E s){r:Row}(h:E.aq[s.row]?=some r)(ha:Ask E s r none)(hc:s.dJ=[])(ht:taken+1<=400000)(uC:s.chg.length<=400000)(d:Nat)(e3 e4 e5:Option V):∃ab aB,Wm M d s.row s.aw e3 e4 e5 σ (.ret .none) aB ab/\cj U ab M K Mk Ch Cg E (taken+1) s:=by
 haveI hi:=gK h w.rl;refine cps fun G kG=>?_;obtain⟨bQ,e2,q2⟩:=pL (p.tick (taken+1)) w ha (Hc uC) d;haveI q2:cj U bQ M K Mk Ch Cg E (taken+1) s:=q2;obtain⟨x,rest,hv,Ep,ED,GG⟩:=oW E.fo r ha.word.1 ha.word.2.1 ha.word.2.2;refine kG ?_;rw[hv]at hi e2;refine⟨bQ,[some (.loc M),some (.int s.aw),some (.int s.row),some (.str x),some .none,e5],Wh.ret (ae:=σ) ?_ ?_,q2⟩
 ·exact br 7 .z [] [] 0x0 tr
 ·exact bJ 7 .z [.of p.hM,.of q2.hM,.of (hc▸q2.My)] [.idx hi,.idx (mG (.str x) rest),.idx hi,.call .z e2] 0x34212211333221311111 (ai (i3 ht) (ai Ep (ai ED (ai GG tr))))
theorem D9(p:cj U σ M K Mk Ch Cg E taken s)(w:Wf E s){r:Row}{b q c:Nat}{rest:List (Nat×Nat×Nat)}(h:E.aq[s.row]?=some r)(ha:Ask E s r none)(hc:s.dJ=(b,q,c)::rest)(ht:taken+1<=400000)(uC:s.chg.length<=400000)(AS:s.dJ.length<=400000)(d:Nat)(e3 e4 e5:Option V):qX fun ab mh nM Dr=>(∀fl fr bM,Wm M d b q mh nM Dr ab fl fr bM->Wm M d s.row s.aw e3 e4 e5 σ fl fr bM)/\cj U ab M K Mk Ch Cg E (taken+1) (iq s b q c rest):=by
 haveI q0:=p.tick (taken+1);haveI hM:=p.hM;haveI gM:=aH hM;haveI hi:=gK h w.rl;haveI h1:=i3 ht;refine cps fun G kG=>?_;obtain⟨bQ,e2,q2⟩:=pL q0 w ha (Hc uC) d;haveI q2:cj U bQ M K Mk Ch Cg E (taken+1) s:=q2;haveI hM2:=q2.hM;haveI CE:=q2.My;haveI abo:=aH CE;haveI Xw:=p.n3;haveI CE:=hc▸CE;haveI q3:=q2.GN rest;haveI DL:((b,q,c)::rest).reverse.map mv=rest.reverse.map mv++[mv (b,q,c)]:=Rw reverse_cons (Rw map_append rfl);haveI gl:(((b,q,c)::rest).reverse.map mv).getLast?=some (mv (b,q,c)):=Rw DL (getLast?_concat);haveI dl:(((b,q,c)::rest).reverse.map mv).dropLast=rest.reverse.map mv:=Rw DL dropLast_concat;have hlen:(((b,q,c)::rest).reverse.map mv).length=rest.length+1:=by rw[length_map,length_reverse];rfl
 haveI ll:(((b,q,c)::rest).reverse.map mv).length<=1000000:=by refine Rw hlen (?_);haveI AS:=hc▸AS;haveI AS:=AS;exact UN AS
 haveI ne:((b,q,c)::rest).reverse.map mv≠[]:=fun e=>by replace hlen:=e▸hlen;cases hlen
 haveI fe:s.kept.length<=10000:=by haveI:=w.kl;haveI:=w.gr;exact HM (by assumption) this
 haveI fX:s.marks.length<=10000:=by haveI:=w.ml;haveI:=w.mk';exact IM (by assumption) this
 obtain⟨jV,Z5,q4⟩:=zb q3 w.pA (Hc uC) fe fX c (d+6);obtain⟨x,rs,hv,Ep,ED,GG⟩:=oW E.fo r ha.word.1 ha.word.2.1 ha.word.2.2;refine kG ?_;rw[hv]at hi e2;haveI h0:=mG (.str x) rs;haveI e2:=e2;refine⟨jV,some (.str x),some .none,some (mv (b,q,c)),fun fl fr bM r=>Wh.next (ae:=σ) ?_ ?_ r,q4.pos b q⟩
 ·exact br 7 .z [] [] 0x0 tr
 ·exact bJ 7 .z [.of hM,.of hM2,.of CE] [.idx hi,.idx h0,.idx hi,.call .z e2,.pop gl dl,.call .z Z5] 0x2223232334212211333221311111 (ai h1 (ai Ep (ai ED (ai GG (ai ne (ai ll (ai Xw tr)))))))
end
end
section
theorem Ask.row{E:Env}{s s':MS}{w:Row}(h:Ask E s w (some s')):s'.row=s.row+1:=by
 generalize hr:some s'=r at h
 cases h with
 |bL a=>split at hr<;>cases hr;rfl
 |point=>split at hr<;>cases hr;rfl
 |save=>replace hr:=oj hr;subst hr;rfl
 |mark=>replace hr:=oj hr;subst hr;rfl
 |af=>replace hr:=oj hr;subst hr;rfl
 |back j r h=>cases r<;>cases hr;rfl
section
variable {U:St} {M K Mk Ch Cg:Nat} {E:Env}
theorem sim(d:Nat){s:MS}{n:Nat}{o:Option (Nat×List Int)}(r:Runs E s n o):∀{σ:St} {taken:Nat} (e3 e4 e5:Option V) (p:cj U σ M K Mk Ch Cg E taken s) (w:Wf E s) (ht:taken+n<=400000) (h1:s.chg.length<=taken) (h2:s.dJ.length<=taken),qX fun(ab:St) (aB:Fr) (s':MS) (t':Nat)=>yi (Wm M d s.row s.aw e3 e4 e5 σ (.ret (E9 (o.map Prod.fst))) aB ab) (cj U ab M K Mk Ch Cg E t' s') (t'<=taken+n) (∀e kp,o=some (e,kp)->s'.kept=kp) (Wf E s'):=by
 induction r with
 |@done s h=>intro σ taken e3 e4 e5 p w ht h1 h2;refine cps fun G kG=>?_;obtain⟨ab,aB,e,q⟩:=AX p w h ht d e3 e4 e5;exact kG ⟨ab,aB,s,_,e,q,le_refl _,fun e kp he=>by cases he;rfl,w⟩
 |@split s a b n o h r ih=>
  intro σ taken e3 e4 e5 p w ht h1 h2;obtain⟨bC,f3,e,q⟩:=zQ p w h (He ht) (Ka ht h2) (Ka ht h1) d e3 e4 e5
  obtain⟨ab,aB,s',t',e',q',iE,hk,hw⟩:=ih f3 e4 e5 q ⟨w.kl,w.ml,w.pA,w.gr,w.mk',w.rl,w.tl,w.ts,w.lim,w.pb,by
   intro c hc;rcases mem_cons.mp hc with rfl|hc
   ·exact w.pb
   ·exact w.oJ c hc,w.bs⟩ (Ia ht) (Q0 h1) (MR h2)
  exact⟨ab,aB,s',t',e _ _ _ e',q',Hu iE,hk,hw⟩
 |@bq s a n o h r ih=>intro σ taken e3 e4 e5 p w ht h1 h2;obtain⟨bC,f3,e,q⟩:=Af p w h (He ht) d e3 e4 e5;obtain⟨ab,aB,s',t',e',q',iE,hk,hw⟩:=ih f3 e4 e5 q ⟨w.kl,w.ml,w.pA,w.gr,w.mk',w.rl,w.tl,w.ts,w.lim,w.pb,w.oJ,w.bs⟩ (Ia ht) (Q0 h1) (Q0 h2);exact⟨ab,aB,s',t',e _ _ _ e',q',Hu iE,hk,hw⟩
 |@ok s s1 r n o h ha r' ih=>intro σ taken e3 e4 e5 p w ht h1 h2;refine cps fun G kG=>?_;obtain⟨bC,f3,f4,e,q⟩:=F2 p w h ha (He ht) (Mc ht h1) ha.row d e3 e4 e5;haveI wa:=w.ask ha;obtain⟨ab,aB,s',t',e',q',iE,hk,hw⟩:=ih f3 f4 e5 q wa.1 (Ia ht) (Qu h1 wa.2.1) (Rw wa.2.2 (Q0 h2));exact kG ⟨ab,aB,s',t',e _ _ _ e',q',Hu iE,hk,hw⟩
 |@nil s r h ha hc=>intro σ taken e3 e4 e5 p w ht h1 h2;refine cps fun G kG=>?_;obtain⟨ab,aB,e,q⟩:=D0 p w h ha hc ht (N5 ht h1) d e3 e4 e5;exact kG ⟨ab,aB,s,_,e,q,le_refl _,fun e kp he=>(nn he),w⟩
 |@pop s r b q c n rest o h ha hc r' ih=>intro σ taken e3 e4 e5 p w ht h1 h2;refine cps fun G kG=>?_;obtain⟨bC,f3,f4,f5,e,q1⟩:=D9 p w h ha hc (He ht) (Mc ht h1) (Mc ht h2) d e3 e4 e5;obtain⟨ab,aB,s',t',e',q',iE,hk,hw⟩:=ih f3 f4 f5 q1 (w.pop hc) (Ia ht) (Xo (k6 c s.chg s.kept s.marks).1 h1) (by haveI h2:=hc▸h2;exact Xy h2);exact kG ⟨ab,aB,s',t',e _ _ _ e',q',Hu iE,hk,hw⟩
noncomputable def jD(k:List Int)(j:Nat):V:=match k[2*j]?,k[2*j+1]? with|some a,some b=>if a<0\/b<0 then .none else .aj [.int a,.int b]|_,_=>.none
noncomputable def start(E:Env)(q:Nat):MS:=⟨0,q,List.replicate (2*E.gr+2) (-1),List.replicate E.jU (-1),[],[]⟩
noncomputable def lr(E:Env)(q:Nat):Option (Nat×List Int)->V
 |none=>.none
 |some (e,kp)=>.lst ((List.range (E.gr+1)).map fun j=>jD ((kp.set 0 q).set 1 e) j)
theorem Ei(n:Nat):up 0 n=(List.range n).map fun i:Nat=>V.int i:=by
 haveI h:∀(n a:Nat),up (a:Int) n=(List.range' a n).map fun i:Nat=>V.int i:=by
  intro n
  induction n with
  |zero=>intro a;rfl
  |succ n ih=>intro a;rw[up,List.range'_succ,map_cons,<-ih (a+1)];rfl
 exact Rw List.range_eq_range' (h n 0)
theorem Hd(d:Nat){σ:St}{taken:Nat}{s:MS}{n:Nat}{o:Option (Nat×List Int)}(r:Runs E s n o)(p:cj U σ M K Mk Ch Cg E taken s)(w:Wf E s)(h0:s.row=0)(ht:taken+n<=400000)(h1:s.chg.length<=taken)(h2:s.dJ.length<=taken):mQ fun ab s' t'=>yi (Run af (d+8) 64 [.loc M,.int s.aw] σ (E9 (o.map Prod.fst)) ab) (cj U ab M K Mk Ch Cg E t' s') (t'<=taken+n) ((∀e kp,o=some (e,kp)->s'.kept=kp)) (Wf E s'):=by refine cps fun G kG=>?_;obtain⟨ab,aB,s',t',e,q,iE,hk,hw⟩:=sim d r none none none p w ht h1 h2;refine kG ⟨ab,s',t',?_,q,iE,hk,hw⟩;exact ah 8 .z [] [.cL .z (h0▸e)] 0x0 tr
structure MM(U σ:St)(M:Nat)(E:Env)(taken:Nat):Prop where
 hM:RN fun l K Mk Ch Cg=>σ[M]?=some (mO {E with limit:=l} taken K Mk Ch Cg)
 hT:U[E.T]?=some (.dict [])
 lM:U.length<=M
 ext:Ext U σ
theorem Dx{σ:St}{taken:Nat}{s:MS}(p:cj U σ M K Mk Ch Cg E taken s)(w:Wf E s)(j:Nat)(hj:j<E.gr+1)(d:Nat):Run af (d+1) 63 [.loc M,.int j] σ (jD s.kept j) σ:=by haveI fe:=w.kl;haveI h1:s.kept[2*j]?=some (s.kept[2*j]'(Oe hj fe)):=getElem?_eq_getElem _;haveI h2:s.kept[2*j+1]?=some (s.kept[2*j+1]'(NY hj fe)):=getElem?_eq_getElem _;refine Rw (show jD s.kept j=_ from by unfold jD;exact Rw h1 (Rw h2 rfl)) (?_);exact sf p h1 h2 (HM fe w.gr) d
theorem Oa{σ:St}{a b c e:O}:σ++[a]++[b]++[c]++[e]=σ++[a,b,c,e]:=by rw[append_assoc,append_assoc,append_assoc];rfl
theorem uU(d:Nat){σ:St}{taken:Nat}{n q:Nat}{o:Option (Nat×List Int)}(m:MM U σ M E taken)(r:Runs E (start E q) n o)(w:Wf E (start E q))(ht:taken+n<=400000):gW fun ab t'=>eF (Run af (d+9) 62 [.loc M,.int q,.int E.limit] σ (lr E q o) ab) (MM U ab M E t') (t'<=taken+n):=by
 obtain⟨l,K0,L5,Lz,LI,hM⟩:=m.1;haveI hT:=m.2;haveI lM:=m.3;haveI ext:=m.4;haveI DR:=aH hT;haveI lt:=aH hM;haveI ui:=ext.len;haveI R7:E.T≠M:=NO DR lM
 haveI p:cj U (σ.set M (mO E taken σ.length (σ.length+1) (σ.length+2) (σ.length+3))++[O.list (bP (start E q).kept)]++[O.list (bP (start E q).marks)]++[O.list []]++[O.list []]) M σ.length (σ.length+1) (σ.length+2) (σ.length+3) E taken (start E q):=by
  refine Rw Oa (?_);haveI hlen:(σ.set M (mO E taken σ.length (σ.length+1) (σ.length+2) (σ.length+3))).length=σ.length:=length_set
  haveI g:∀i,(σ.set M (mO E taken σ.length (σ.length+1) (σ.length+2) (σ.length+3))++[.list (bP (start E q).kept),.list (bP (start E q).marks),.list [],.list []])[σ.length+i]?=[O.list (bP (start E q).kept),.list (bP (start E q).marks),.list [],.list []][i]?:=fun i=>by rw[getElem?_append_right (Pz hlen),hlen,add_sub_cancel_left]
  refine⟨?_,g 0,g 1,g 2,g 3,?_,Q5 lt,HY lt,LV lt,N1 lt,M1,LO,WI,Q8,HJ,LZ,R7,WY lt DR lM,VR lt DR lM,S5 lt DR lM,PW lt DR lM,lM,ui,Q0 ui,KV ui,Sn ui,(ext.set lM).app⟩
  ·exact Rw (aO (Q3 lt hlen)) (Rw (aV lt) rfl)
  ·exact Rw (aO (PQ lt DR hlen lM)) (Rw (au R7.symm) (Rw (ext _ _ hT) rfl))
 obtain⟨En,s',t',e6,q6,iE,hk,hw⟩:=Hd d r p w rfl ht (zero_le _) (zero_le _);have M0:=q6.hM;haveI DT:=q6.hK;have g1:=VI w.gr;have K9:∀σ,binop .mul σ (.int 2) (.int (E.gr:Int))=some (.int (2*(E.gr:Int))):=fun y_=>bR (by decide) (by decide) fA (RX g1.2);haveI r1:bP (start E q).kept=List.replicate (2*(E.gr:Int)+2).toNat (V.int (-1)):=Rw (show(2*(E.gr:Int)+2).toNat=2*E.gr+2 by exact V6) map_replicate;haveI r2:bP (start E q).marks=List.replicate ((E.jU:Nat):Int).toNat (V.int (-1)):=map_replicate;replace e6:=r2▸(r1▸e6)
 cases o with
 |none=>refine⟨En,t',?_,⟨⟨_,_,_,_,_,M0⟩,hT,lM,q6.ext⟩,iE⟩;exact ah 9 .z [.of hM] [.bin K9,.call .z e6] 0x2122221222221222212222122221222122212221221221212212121111 (ai (ai (fE (b:=2*E.gr+2) Rn) (fE (IW g1.2))) (ai (ai (fE (b:=E.jU) C9) (fE w.mk')) tr))
 |some x=>
  obtain⟨en,kp⟩:=x;have Mq:=hk en kp rfl;haveI DT:=Mq▸DT;haveI fe:=hw.kl;haveI fe:=Mq▸fe;haveI q7:=q6.Gb ((kp.set 0 (q:Int)).set 1 (en:Int))
  haveI w7:Wf E {s' with kept:=(kp.set 0 (q:Int)).set 1 (en:Int)}:=by refine⟨by simpa using fe,hw.ml,?_,hw.gr,hw.mk',hw.rl,hw.tl,hw.ts,hw.lim,hw.pb,hw.oJ,hw.bs⟩;intro c hc;simpa using(Mq▸(hw.pA c hc))
  haveI NR:=q7.hM;have n1:=q6.n1.symm;haveI TV:=dK (n:=(bP kp).length) (by rw[eT];exact KJ fe) (by decide);haveI Rf:=dK (n:=((bP kp).set 0 (.int (q:Int))).length) (by rw[length_set,eT];exact KR fe) (by decide);have s2:((bP kp).set 0 (.int (q:Int))).set 1 (.int (en:Int))=bP ((kp.set 0 (q:Int)).set 1 (en:Int)):=by rw[fO,fO]
  have pG:=fun j hj=>Dx q7 w7 j hj (d+7)
  have kC:∀e1 e2 e3,bw (bV af (d+8) yI [4] false (.cst (.bool true)) [some (.loc M),e1,e2,e3,none]) (up 0 ((E.gr:Int)+1).toNat) [] (En.set σ.length (.list (((bP kp).set 0 (.int (q:Int))).set 1 (.int (en:Int))))) ((List.range (E.gr+1)).map fun j=>jD ((kp.set 0 (q:Int)).set 1 (en:Int)) j) (En.set σ.length (.list (((bP kp).set 0 (.int (q:Int))).set 1 (.int (en:Int))))):=by intro e1 e2 e3;rw[show((E.gr:Int)+1).toNat=E.gr+1 by exact Qi,Ei];refine bw.map (List.range (E.gr+1)) [] (fun j hj=>?_) (Rw length_range (Sx g1.2));exact eW 8 (.put .z _ _) [.of M0] [.call (.put .z _ _) ((s2.symm▸pG) j (mem_range.mp hj))] 0x212 (ai ((Iq n1)) (ai (ai (aH DT) tr) (ai (ai (aH DT) tr) tr)))
  rw[<-s2]at q7 NR;refine⟨_,t',?_,⟨⟨_,_,_,_,_,NR⟩,hT,lM,q7.ext⟩,iE⟩;exact ah 9 .z [.of hM,.of M0,.of DT] [.bin K9,.call .z e6,.aw (by decide) TV,.aw (by decide) Rf,.eI (.put .z _ _) (kC (some (.int (q:Int))) (some (.int (E.limit:Int))) (some (.int (en:Int))))] 0x2221212122323212122221222221222212222122221222122212221221221212212121111 (ai (ai (fE (b:=2*E.gr+2) Rn) (fE (IW g1.2))) (ai (ai (fE (b:=E.jU) C9) (fE w.mk')) (ai (show M≠List.length σ from(Iq n1)) (ai (show M≠List.length σ from(Iq n1)) (ai (cZ P5 (S8 g1.2)) (ai (ai (aH DT) tr) tr))))))
end
end
section
structure RelM(E:Env)(k:List Int)(o:List Span)(op:List (Nat×Nat)):Prop where
 len:k.length=2*o.length+2
 yes:∀i s e,o[i]?=some (some (s,e))->k[2*(i+1)]?=some ((E.ao+s:Nat):Int)/\k[2*(i+1)+1]?=some ((E.ao+e:Nat):Int)/\s<=e/\E.ao+e<=E.limit
 no:∀i,o[i]?=some none->k[2*(i+1)+1]?=some (-1)
 op:∀j st,(j,st)∈op->k[2*j]?=some ((E.ao+st:Nat):Int)
structure Pre(E:Env)(op:List (Nat×Nat))(g:Nat)(s:MS)(p:Nat)(o:List Span):Prop where
 pl:s.aw=E.ao+p
 le:s.aw<=E.limit
 rel:RelM E s.kept o op
 AU:∀j st,(j,st)∈op->st<=p/\j<=g
 fresh:∀i,g<=i->i<o.length->o[i]?=some none
 wf:Wf E s
 top:∀b q c rest,s.dJ=(b,q,c)::rest->c<=s.chg.length
 ol:o.length=E.gr
def iv(E:Env)(s:MS)(n:Nat)(r:Option (Nat×List Int)):Prop:=(s.dJ=[]/\r=none/\n=0)\/(qX fun b q c rest=>s.dJ=(b,q,c)::rest/\Runs E (iq s b q c rest) n r)
def hO(E:Env)(s:MS)(res:Option (Nat×List Span))(c:Nat):Prop:=(∀e o',res=some (e,o')->gW fun n k'=>eF (n<=c) (Runs E s n (some (E.ao+e,k'))) (RelM E k' o' []))/\(res=none->∀n r,iv E s n r->∃n',n'<=n+c/\Runs E s n' r)
theorem hO.le{E:Env}{s:MS}{res:Option (Nat×List Span)}{c c':Nat}(h:hO E s res c)(hc:c<=c'):hO E s res c':=⟨fun e o' hr=>by obtain⟨n,k',h1,h2,h3⟩:=h.1 e o' hr;exact⟨n,k',Q2 h1 hc,h2,h3⟩,fun hr n r hf=>by obtain⟨n',h1,h2⟩:=h.2 hr n r hf;exact⟨n',Uq hc h1,h2⟩⟩
theorem zX(l:List (Bool×Nat×Int))(k m:List Int):fh l.length l k m=(l,k,m):=by
 cases l with
 |nil=>rfl
 |cons x r=>obtain⟨b,i,o⟩:=x;simp only[jM];exact Rw (if_neg RU) rfl
theorem BJ{E:Env}{s:MS}{w:Row}{n:Nat}{r:Option (Nat×List Int)}(h:E.aq[s.row]?=some w)(ha:Ask E s w none)(hf:iv E s n r):Runs E s (n+1) r:=by
 rcases hf with⟨h1,rfl,rfl⟩|⟨b,q,c,rest,h1,h2⟩
 ·exact .nil h ha h1
 ·exact .pop h ha h1 h2
theorem fG{E:Env}{s:MS}{w:Row}(h:E.aq[s.row]?=some w)(ha:Ask E s w none):hO E s none 1:=⟨fun e o' hr=>(nn hr),fun y_ n r hf=>⟨n+1,le_refl _,BJ h ha hf⟩⟩
theorem fg{E:Env}{s s':MS}{w:Row}{res:Option (Nat×List Span)}{c:Nat}(h:E.aq[s.row]?=some w)(ha:Ask E s w (some s'))(hf:∀n r,iv E s n r->iv E s' n r)(hp:hO E s' res c):hO E s res (c+1):=⟨fun e o' hr=>by obtain⟨n,k',h1,h2,h3⟩:=hp.1 e o' hr;exact⟨n+1,k',MR h1,.ok h ha h2,h3⟩,fun hr n r Dc=>by obtain⟨n',h1,h2⟩:=hp.2 hr n r (hf n r Dc);exact⟨n'+1,Km h1,.ok h ha h2⟩⟩
theorem sN{E:Env}{s:MS}{a:Nat}{res:Option (Nat×List Span)}{c:Nat}(h:E.aq[s.row]?=some (.bq a))(hp:hO E {s with row:=a} res c):hO E s res (c+1):=⟨fun e o' hr=>by obtain⟨n,k',h1,h2,h3⟩:=hp.1 e o' hr;exact⟨n+1,k',MR h1,.bq h h2,h3⟩,fun hr n r Dc=>by obtain⟨n',h1,h2⟩:=hp.2 hr n r Dc;exact⟨n'+1,Km h1,.bq h h2⟩⟩
theorem fZ{E:Env}{s:MS}{a b:Nat}{r1 r2:Option (Nat×List Span)}{c1 c2:Nat}(h:E.aq[s.row]?=some (.split a b))
  (h1:hO E {s with row:=a,dJ:=(b,s.aw,s.chg.length)::s.dJ} r1 c1)(h2:hO E {s with row:=b} r2 c2):hO E s (r1.or r2) (c1+c2+1):=by
 have KZ:∀n r,Runs E {s with row:=b} n r->iv E {s with row:=a,dJ:=(b,s.aw,s.chg.length)::s.dJ} n r:=by
  intro n r hr;refine .inr ⟨b,s.aw,s.chg.length,s.dJ,rfl,?_⟩
  haveI:iq {s with row:=a,dJ:=(b,s.aw,s.chg.length)::s.dJ} b s.aw s.chg.length s.dJ={s with row:=b}:=by simp only[iq,zX]
  exact Rw this hr
 cases r1 with
 |some x=>refine⟨fun e o' hr=>?_,fun hr=>by cases hr⟩;refine cps fun G kG=>?_;obtain⟨n,k',g1,g2,g3⟩:=h1.1 e o' hr;exact kG ⟨n+1,k',YF g1,.split h g2,g3⟩
 |none=>
  refine⟨fun e o' hr=>?_,fun hr n r hf=>?_⟩
  ·obtain⟨n,k',g1,g2,g3⟩:=h2.1 e o' hr;obtain⟨n',g4,g5⟩:=h1.2 rfl n _ (KZ _ _ g2);exact⟨n'+1,k',Pp g1 g4,.split h g5,g3⟩
  ·obtain⟨n1,g1,g2⟩:=h2.2 hr n r hf;obtain⟨n',g4,g5⟩:=h1.2 rfl n1 _ (KZ _ _ g2);exact⟨n'+1,Pm g4 g1,.split h g5⟩
theorem hX{E:Env}{s s':MS}(h1:s'.dJ=s.dJ)(h2:s'.chg=s.chg)(h3:s'.kept=s.kept)(h4:s'.marks=s.marks)(n:Nat)(r:Option (Nat×List Int))(hf:iv E s n r):iv E s' n r:=by
 rcases hf with⟨g1,g2⟩|⟨b,q,c,rest,g1,g2⟩
 ·exact .inl ⟨h1.trans g1,g2⟩
 ·refine .inr ⟨b,q,c,rest,h1.trans g1,?_⟩;haveI:iq s' b q c rest=iq s b q c rest:=by simp only[iq,h2,h3,h4]
  exact Rw this g2
theorem vk{l:List Int}{i:Nat}{o v:Int}(h:l[i]?=some o):(l.set i v).set i o=l:=by
 rw[set_set];refine List.ext_getElem? fun j=>?_;by_cases hj:i=j
 ·subst hj;exact Rw (getElem?_set_self (List.getElem?_eq_some_iff.mp h).1) (Rw h rfl)
 ·exact Rw (getElem?_set_ne hj) rfl
theorem tq{E:Env}{s:MS}{i:Nat}{o v:Int}(ho:s.kept[i]?=some o)(top:∀b q c rest,s.dJ=(b,q,c)::rest->c<=s.chg.length)(r' q':Nat)(n:Nat)(r:Option (Nat×List Int))(hf:iv E s n r):iv E {s with row:=r',aw:=q',kept:=s.kept.set i v,chg:=(true,i,o)::s.chg} n r:=by
 rcases hf with⟨g1,g2⟩|⟨b,q,c,rest,g1,g2⟩
 ·exact .inl ⟨g1,g2⟩
 ·refine .inr ⟨b,q,c,rest,g1,?_⟩
  haveI:iq {s with row:=r',aw:=q',kept:=s.kept.set i v,chg:=(true,i,o)::s.chg} b q c rest=iq s b q c rest:=by simp only[iq,jM];refine Rw (if_pos (Ky (top b q c rest g1))) (?_);simp only[if_true,vk ho]
  exact Rw this g2
theorem tR{E:Env}{s:MS}{i:Nat}{o v:Int}(ho:s.marks[i]?=some o)(top:∀b q c rest,s.dJ=(b,q,c)::rest->c<=s.chg.length)(r' q':Nat)(n:Nat)(r:Option (Nat×List Int))(hf:iv E s n r):iv E {s with row:=r',aw:=q',marks:=s.marks.set i v,chg:=(false,i,o)::s.chg} n r:=by
 rcases hf with⟨g1,g2⟩|⟨b,q,c,rest,g1,g2⟩
 ·exact .inl ⟨g1,g2⟩
 ·refine .inr ⟨b,q,c,rest,g1,?_⟩
  haveI:iq {s with row:=r',aw:=q',marks:=s.marks.set i v,chg:=(false,i,o)::s.chg} b q c rest=iq s b q c rest:=by simp only[iq,jM];refine Rw (if_pos (Ky (top b q c rest g1))) (?_);simp only[Bool.false_eq_true,if_false,vk ho]
  exact Rw this g2
section
variable {E:Env} {op:List (Nat×Nat)} {g:Nat} {s:MS} {p:Nat} {o:List Span}
theorem Pre.row(h:Pre E op g s p o)(r:Nat):Pre E op g {s with row:=r} p o:=⟨h.pl,h.le,h.rel,h.AU,h.fresh,⟨h.wf.kl,h.wf.ml,h.wf.pA,h.wf.gr,h.wf.mk',h.wf.rl,h.wf.tl,h.wf.ts,h.wf.lim,h.wf.pb,h.wf.oJ,h.wf.bs⟩,h.top,h.ol⟩
theorem Pre.push(h:Pre E op g s p o)(r b:Nat):Pre E op g {s with row:=r,dJ:=(b,s.aw,s.chg.length)::s.dJ} p o:=⟨h.pl,h.le,h.rel,h.AU,h.fresh,⟨h.wf.kl,h.wf.ml,h.wf.pA,h.wf.gr,h.wf.mk',h.wf.rl,h.wf.tl,h.wf.ts,h.wf.lim,h.wf.pb,fun c hc=>by
   simp only[mem_cons]at hc;rcases hc with rfl|hc
   ·exact h.wf.pb
   ·exact h.wf.oJ c hc,h.wf.bs⟩,fun b' q c rest e=>by
   simp only[List.cons.injEq,Prod.mk.injEq]at e
   exact Lw e.1.2.2 (le_refl _),h.ol⟩
theorem Pre.ask{s':MS}{w:Row}{q:Nat}(h:Pre E op g s p o)(ha:Ask E s w (some s'))(hk:s'.kept=s.kept)(uC:s.chg.length<=s'.chg.length)(hq:s'.aw=E.ao+q)(hle:s'.aw<=E.limit)(Gz:p<=q):Pre E op g s' q o:=by
 refine⟨hq,hle,Rw hk h.rel,fun j st hj=>?_,h.fresh,(h.wf.ask ha).1,fun b q' c rest e=>?_,h.ol⟩
 ·haveI:=h.AU j st hj;exact⟨Q2 this.1 Gz,this.2⟩
 ·exact Q2 (h.top b q' c rest ((h.wf.ask ha).2.2▸e)) uC
end
end
section
def cz(E:Env)(pc:Nat)(op:List (Nat×Nat))(g:Nat)(kk:Nat->List Span->Option (Nat×List Span))(c:Nat):Prop:=∀(s:MS) (p:Nat) (o:List Span),s.row=pc->Pre E op g s p o->hO E s (kk p o) c
noncomputable def fs(l:List Way)(kk:Nat->List Span->Option (Nat×List Span)):Option (Nat×List Span):=l.findSome? fun w=>kk w.1 w.2
noncomputable def Env.tx(E:Env):List Nat:=E.ag.take (E.limit-E.ao)
section
variable {E:Env} {op:List (Nat×Nat)} {g:Nat} {kk:Nat->List Span->Option (Nat×List Span)} {c:Nat}
theorem Ah{E:Env}{f:Bool}{a:Atom}{p:Nat}{s:MS}(Mr:s.aw=E.ao+p)(h:bH E.tx f a p=true):s.aw+1<=E.limit:=by haveI:=jc h;simp only[Env.tx,length_take]at this;exact V4 this Mr
theorem lA{pc:Nat}{a:Atom}(h:E.aq[pc]?=some (.bL a))(hk:cz E (pc+1) op g kk c):cz E pc op g (fun p o=>if bH E.tx E.fo a p=true then kk (p+1) o else none) (c+1):=by
 intro s p o hs hp;haveI ha:=Ask.bL (E:=E) (s:=s) a;haveI rZ:s.aw-E.ao=p:=Fm hp.pl;rw[rZ]at ha;haveI h:=hs.symm▸h;dsimp only;by_cases ht:bH E.tx E.fo a p=true
 ·refine Rw (if_pos ht) (?_);rw[show(E.ag.take (E.limit-E.ao))=E.tx from rfl,if_pos ht]at ha;refine fg h ha (fun n r hf=>hX rfl rfl rfl rfl n r hf) (hk _ (p+1) o (E7 hs) (hp.ask ha rfl (le_refl _) (J7 hp.pl) (Ah hp.pl ht) (le_succ p)))
 ·refine Rw (if_neg ht) (?_);rw[show(E.ag.take (E.limit-E.ao))=E.tx from rfl,if_neg ht]at ha;exact(fG h ha).le Fv
theorem Bm{pc a:Nat}(h:E.aq[pc]?=some (.bq a))(hk:cz E a op g kk c):cz E pc op g kk (c+1):=by intro s p o hs hp;exact sN (hs.symm▸h) (hk _ p o rfl (hp.row a))
theorem qC{pc a b:Nat}{k2:Nat->List Span->Option (Nat×List Span)}{c2:Nat}(h:E.aq[pc]?=some (.split a b))(h1:cz E a op g kk c)(h2:cz E b op g k2 c2):cz E pc op g (fun p o=>(kk p o).or (k2 p o)) (c+c2+1):=by intro s p o hs hp;haveI h:=hs.symm▸h;exact fZ h (h1 _ p o rfl (hp.push a b)) (h2 _ p o rfl (hp.row b))
theorem zc{pc:Nat}(h:E.aq[pc]?=some .point)(hk:cz E (pc+1) op g kk c):cz E pc op g (fun p o=>if E.ao+p=E.point then kk p o else none) (c+1):=by
 intro s p o hs hp;haveI ha:=Ask.point (E:=E) (s:=s);haveI h:=hs.symm▸h;dsimp only;by_cases ht:E.ao+p=E.point
 ·rw[if_pos (Xf ht hp.pl)]at ha;exact Rw (if_pos ht) (fg h ha (fun n r hf=>hX rfl rfl rfl rfl n r hf) (hk _ p o (E7 hs) (hp.row (s.row+1))))
 ·rw[if_neg (V9 hp.pl ht)]at ha;exact Rw (if_neg ht) ((fG h ha).le Fv)
theorem tW{pc:Nat}(h:E.aq[pc]?=some .done):cz E pc [] g (fun p o=>some (p,o)) 1:=by intro s p o hs hp;haveI h:=hs.symm▸h;refine⟨fun e o' hr=>?_,fun hr=>by cases hr⟩;cases hr;refine⟨1,s.kept,le_refl _,?_,hp.rel⟩;exact Lw hp.pl (.done h)
theorem A1{pc:Nat}{K:Nat->Nat->List Span->Option (Nat×List Span)}(h:E.aq[pc]?=some (.save (2*(g+1))))(hg:g+1<=E.gr)(mH:∀j st,(j,st)∈op->j<=g)
  (hk:∀p,cz E (pc+1) ((g+1,p)::op) (g+1) (K p) c):cz E pc op g (fun p o=>K p p o) (c+1):=by
 intro s p o hs hp;have fe:=hp.wf.kl;haveI hi:s.kept[2*(g+1)]?=some (s.kept[2*(g+1)]'(Kb hg fe)):=by simp
 haveI ha:=Ask.save (E:=E) _ _ hi;refine fg (hs.symm▸h) ha (fun n r hf=>tq hi hp.top _ _ n r hf) (hk p _ p o (E7 hs) ⟨hp.pl,hp.le,⟨by simpa using hp.rel.len,?_,?_,?_⟩,?_,fun i jZ hl=>hp.fresh i (Mu jZ) hl,(hp.wf.ask ha).1,?_,hp.ol⟩)
 ·intro i st e gj;haveI:=hp.rel.yes i st e gj
  haveI lS:i≠g:=by intro hig;haveI:=hp.fresh i (Js hig) (List.getElem?_eq_some_iff.mp gj).1;haveI this:=gj▸this;exact nomatch this
  exact Rw (getElem?_set_ne (S1 lS)) (Rw (getElem?_set_ne IY) this)
 ·intro i gj;exact Rw (getElem?_set_ne IY) (hp.rel.no i gj)
 ·intro j st hj;simp only[mem_cons,Prod.mk.injEq]at hj;rcases hj with⟨rfl,rfl⟩|hj
  ·exact Rw (getElem?_set_self (Kb hg fe)) (Rw hp.pl rfl)
  ·exact Rw (getElem?_set_ne (Sl (mH j st hj))) (hp.rel.op j st hj)
 ·intro j st hj;simp only[mem_cons,Prod.mk.injEq]at hj;rcases hj with⟨rfl,rfl⟩|hj
  ·exact⟨le_refl _,le_refl _⟩
  ·haveI:=hp.AU j st hj;exact⟨this.1,Q0 this.2⟩
 ·intro b q c' rest e;exact Q0 (hp.top b q c' rest e)
theorem xJ{pc k st:Nat}(h:E.aq[pc]?=some (.save (2*(k+1)+1)))(hkg:k+1<=g)(mi:k+1<=E.gr)(mH:∀j st,(j,st)∈op->j<=k)
  (hk:cz E (pc+1) op g kk c):cz E pc ((k+1,st)::op) g (fun p o=>kk p (o.set k (some (st,p)))) (c+1):=by
 intro s p o hs hp;replace h:=hs.symm▸h;have fe:=hp.wf.kl;haveI hi:s.kept[2*(k+1)+1]?=some (s.kept[2*(k+1)+1]'(JS mi fe)):=by simp
 haveI ha:=Ask.save (E:=E) _ _ hi;haveI rf:=hp.AU (k+1) st mem_cons_self;refine fg h ha (fun n r hf=>tq hi hp.top _ _ n r hf) (hk _ p (o.set k (some (st,p))) (E7 hs) ⟨hp.pl,hp.le,⟨by simpa using hp.rel.len,?_,?_,?_⟩,fun j Ef hj=>hp.AU j Ef (mem_cons_of_mem _ hj),?_,(hp.wf.ask ha).1,?_,by simpa using hp.ol⟩)
 ·intro i s' e gj;by_cases Ax:i=k
  ·obtain rfl:=Eq.symm Ax;replace gj:=(getElem?_set_self (Lb mi hp.ol))▸gj;cases gj;exact Rw (getElem?_set_ne XI) (Rw (getElem?_set_self (JS mi fe)) ⟨(hp.rel.op (k+1) st mem_cons_self),Rw hp.pl rfl,rf.1,SO hp.pl hp.le⟩)
  ·rw[getElem?_set_ne (fun e=>Ax e.symm)]at gj;exact Rw (getElem?_set_ne YE) (Rw (getElem?_set_ne (JV Ax)) (hp.rel.yes i s' e gj))
 ·intro i gj;by_cases Ax:i=k
  ·obtain rfl:=Eq.symm Ax;replace gj:=(getElem?_set_self (Lb mi hp.ol))▸gj;cases gj
  ·rw[getElem?_set_ne (fun e=>Ax e.symm)]at gj;exact Rw (getElem?_set_ne (JV Ax)) (hp.rel.no i gj)
 ·intro j Ef hj;exact Rw (getElem?_set_ne Tc) (hp.rel.op j Ef (mem_cons_of_mem _ hj))
 ·intro i Yv hl;exact Rw (getElem?_set_ne (Yn rf.2 Yv)) (hp.fresh i Yv (length_set▸hl))
 ·intro b q c' rest e;exact Q0 (hp.top b q c' rest e)
end
end
section
noncomputable def Re.cost:Re->Nat->Nat
 |.atom _,c=>c+1
 |.again _,c=>c+1
 |.either a b,c=>a.cost (c+1)+b.cost c+1
 |.group _ a,c=>a.cost (c+1)+1
 |.ba _ _,c=>5*c+28
 |.both a b,c=>a.cost (b.cost c)
section
variable {E:Env} {op:List (Nat×Nat)} {g:Nat} {kk:Nat->List Span->Option (Nat×List Span)} {c:Nat}
theorem cz.mono{pc g':Nat}(hg:g<=g')(h:cz E pc op g' kk c):cz E pc op g kk c:=fun s p o hs hp=>
 h s p o hs ⟨hp.pl,hp.le,hp.rel,fun j st hj=>by haveI:=hp.AU j st hj;exact⟨this.1,Q2 this.2 hg⟩,fun i hi hl=>hp.fresh i (Dh hi hg) hl,hp.wf,hp.top,hp.ol⟩
theorem cz.le{pc c':Nat}(hc:c<=c')(h:cz E pc op g kk c):cz E pc op g kk c':=fun s p o hs hp=>(h s p o hs hp).le hc
theorem cz.congr{pc:Nat}{k2:Nat->List Span->Option (Nat×List Span)}(h:cz E pc op g kk c)(e:∀s p o,Pre E op g s p o->k2 p o=kk p o):cz E pc op g k2 c:=fun s p o hs hp=>Rw (e s p o hp) (h s p o hs hp)
theorem hU(l r:List Way):fs (l++r) kk=(fs l kk).or (fs r kk):=by simp[fs]
theorem fU(p:Nat)(o:List Span):fs [(p,o)] kk=kk p o:=by simp only[fs,List.findSome?_cons,List.findSome?_nil];cases kk p o<;>rfl
theorem tZ(p:Nat)(o:List Span)(l:List Way):fs ((p,o)::l) kk=(kk p o).or (fs l kk):=by rw[show(p,o)::l=[(p,o)]++l from rfl,hU,fU]
theorem qG(f:Way->List Way):∀l:List Way,fs (l.flatMap f) kk=fs l (fun e o=>fs (f (e,o)) kk)
 |[]=>rfl
 |(e,o)::l=>by rw[flatMap_cons,hU,qG f l,tZ]
theorem HG(f:Way->Way)(l:List Way):fs (l.map f) kk=fs l (fun e o=>kk (f (e,o)).1 (f (e,o)).2):=by simp only[fs,List.findSome?_map];rfl
theorem vb{l:List Nat}{L s e:Nat}(h:e<=L):((l.take L).drop s).take (e-s)=(l.drop s).take (e-s):=Rw List.drop_take (Rw List.take_take (Rw (min_eq_left (Ua h)) rfl))
theorem Bv{pc k:Nat}(h:E.aq[pc]?=some (.back k))(mi:1<=k)(Es:k<=E.gr)(hk:cz E (pc+1) op g kk c):cz E pc op g (fun p o=>fs (aS E.tx E.fo (.again k) p o) kk) (c+1):=by
 intro s p o hs hp;have h:=hs.symm▸h;have pR:=hp.ol;haveI ho:o[k-1]?=some (o[k-1]'(JM mi pR Es)):=by simp
 cases hv:o[k-1]'(JM mi pR Es)with
 |none=>
  haveI ho:=hv▸ho;haveI hb:i6 E s k none:=.no (s.kept[2*k]'(Xn hp.wf.kl Es)) (by simp) ((Fq mi)▸(hp.rel.no _ ho));haveI ha:=Ask.back k none hb;haveI:fs (aS E.tx E.fo (.again k) p o) kk=none:=by simp only[jB,ho];rfl
  dsimp only;exact Rw this ((fG h ha).le Fv)
 |some w=>
  obtain⟨st,en⟩:=w;replace ho:=hv▸ho;obtain⟨y1,y2,y3,y4⟩:=((Fq mi)▸(hp.rel.yes _ _ _ ho));haveI ha:=Ask.back k _ (i6.yes st en y1 y2 y3 y4);haveI rZ:=Fm hp.pl;haveI ha:=rZ▸ha;haveI El:(E.tx.drop st).take (en-st)=(E.ag.drop st).take (en-st):=vb (UR y4)
  haveI Lm:((E.tx.drop st).take (en-st)).length=en-st:=by refine Rw El (?_);simp;exact Sv y4 hp.wf.lim
  haveI hw:fs (aS E.tx E.fo (.again k) p o) kk=if s.aw+(en-st)<=E.limit/\fq E.fo ((E.ag.drop p).take (en-st)) ((E.ag.drop st).take (en-st))=true then kk (p+(en-st)) o else none:=by
   simp only[jB,ho];refine Rw Lm (Rw El (?_));by_cases hq:s.aw+(en-st)<=E.limit
   ·haveI Zc:(E.tx.drop p).take (en-st)=(E.ag.drop p).take (en-st):=by
     haveI:=vb (l:=E.ag) (s:=p) (SR hq y4 rZ);rw[add_sub_cancel_left]at this;exact this
    haveI FQ:((E.ag.drop p).take (en-st)).length=en-st:=by simp;exact SG hq y4 rZ hp.wf.lim
    refine Rw Zc (Rw FQ (?_));by_cases wX:fq E.fo ((E.ag.drop p).take (en-st)) ((E.ag.drop st).take (en-st))=true
    ·rw[if_pos ⟨rfl,wX⟩,if_pos ⟨hq,wX⟩,fU]
    ·exact Rw (if_neg (fun h=>wX h.2)) (Rw (if_neg (fun h=>wX h.2)) rfl)
   ·have FQ:((E.tx.drop p).take (en-st)).length≠en-st:=by
     simp[Env.tx];exact Nk rZ hp.le hq
    exact Rw (if_neg (fun h=>FQ h.1)) (Rw (if_neg (fun h=>hq h.1)) rfl)
  dsimp only;refine Rw hw (?_);by_cases hq:s.aw+(en-st)<=E.limit/\fq E.fo ((E.ag.drop p).take (en-st)) ((E.ag.drop st).take (en-st))=true
  ·rw[if_pos hq]at ha ⊢;simp only[Option.map_some]at ha;refine fg h ha (fun n r hf=>hX rfl rfl rfl rfl n r hf) (hk _ (p+(en-st)) o (E7 hs) (hp.ask ha rfl (le_refl _) (SF hp.pl) hq.1 Qm))
  ·rw[if_neg hq]at ha ⊢;exact(fG h ha).le Fv
theorem nE(ag:List Nat)(f:Bool)(a:Atom)(gr:Bool)(n p:Nat)(o:List Span):turns ag f a gr (n+1) 0 (-1) p o=(if gr then(if bH ag f a p then turns ag f a gr n 0 (-1) (p+1) o else[])++[(p,o)]else(p,o)::(if bH ag f a p then turns ag f a gr n 0 (-1) (p+1) o else[])):=by
 haveI h1:¬((-1:Int)=0):=by decide
 haveI h2:¬(0<(-1:Int)):=by decide
 rfl
theorem AA{pc cy m:Nat}{a:Atom}{gr:Bool}(hm:m<E.jU)(r1:E.aq[pc]?=some (if gr then .split (pc+1) cy else .split cy (pc+1)))(r2:E.aq[pc+1]?=some (.mark m))(r3:E.aq[pc+2]?=some (.bL a))
  (r4:E.aq[pc+3]?=some (.af m))(r5:E.aq[pc+4]?=some (.bq pc))(hk:cz E cy op g kk c):∀(r:Nat) (s:MS) (p:Nat) (o:List Span),s.row=pc->Pre E op g s p o->E.limit-s.aw<=r->hO E s (fs (turns E.tx E.fo a gr (r+1) 0 (-1) p o) kk) ((r+1)*(c+5)):=by
 intro r
 induction r with
 |zero=>
  intro s p o hs hp hr
  have AF:bH E.tx E.fo a p=false:=by
   cases ht:bH E.tx E.fo a p with
   |false=>rfl
   |true=>exact(TM (Ah hp.pl ht) hr).elim
  haveI inner:∀s1:MS,s1.row=pc+1->Pre E op g s1 p o->hO E s1 none 2:=by
   intro s1 kx mV;haveI r2:=kx.symm▸r2;have fX:=mV.wf.ml;have ho:s1.marks[m]?=some (s1.marks[m]'(Q3 hm fX)):=by simp
   haveI ha:=Ask.mark (E:=E) m _ ho;refine fg r2 ha (fun n r hf=>tR ho mV.top _ _ n r hf) ?_;haveI pF:=Ask.bL (E:=E) (s:={s1 with row:=s1.row+1,marks:=s1.marks.set m s1.aw,chg:=(false,m,s1.marks[m]'(Q3 hm fX))::s1.chg}) a;haveI rZ:s1.aw-E.ao=p:=Fm mV.pl;dsimp only at pF;haveI pF:=(if_neg bf)▸(AF▸((show(E.ag.take (E.limit-E.ao))=E.tx from rfl)▸(rZ▸pF)));exact fG (Rw kx r3) pF
  rw[nE,AF];cases gr
  ·simp only[Bool.false_eq_true,if_false]at r1 ⊢;rw[fU];rw[<-hs]at r1;haveI:=fZ r1 (hk _ p o rfl (hp.push _ _)) (inner _ (Rw hs rfl) (hp.row _));rw[Option.or_none]at this;exact this.le YG
  ·simp only[Bool.false_eq_true,if_false,if_true]at r1 ⊢;rw[nil_append,fU];rw[<-hs]at r1;haveI:=fZ r1 (inner _ (Rw hs rfl) (hp.push _ _)) (hk _ p o rfl (hp.row _));rw[Option.none_or]at this;exact this.le UC
 |succ r ih=>
  intro s p o hs hp hr
  haveI inner:∀s1:MS,s1.row=pc+1->Pre E op g s1 p o->E.limit-s1.aw<=r+1->hO E s1 (fs (if bH E.tx E.fo a p=true then turns E.tx E.fo a gr (r+1) 0 (-1) (p+1) o else[]) kk) ((r+1)*(c+5)+4):=by
   intro s1 kx mV ZR;haveI fX:=mV.wf.ml;haveI ho:s1.marks[m]?=some (s1.marks[m]'(Q3 hm fX)):=by simp
   haveI ha:=Ask.mark (E:=E) m _ ho;refine(fg (kx.symm▸r2) ha (fun n r hf=>tR ho mV.top _ _ n r hf) ?_).le WT;haveI pF:=Ask.bL (E:=E) (s:={s1 with row:=s1.row+1,marks:=s1.marks.set m s1.aw,chg:=(false,m,s1.marks[m]'(Q3 hm fX))::s1.chg}) a;haveI rZ:s1.aw-E.ao=p:=Fm mV.pl;dsimp only at pF;haveI pF:=(show(E.ag.take (E.limit-E.ao))=E.tx from rfl)▸(rZ▸pF);haveI XE:E.aq[s1.row+1]?=some (.bL a):=Rw kx r3;by_cases ht:bH E.tx E.fo a p=true
   ·rw[if_pos ht]at pF ⊢;refine(fg XE pF (fun n r hf=>hX rfl rfl rfl rfl n r hf) ?_);haveI YR:E.aq[s1.row+1+1]?=some (.af m):=Rw kx r4;refine(fg YR (Ask.af (E:=E) (s:={s1 with row:=s1.row+1+1,aw:=s1.aw+1,marks:=s1.marks.set m s1.aw,chg:=(false,m,s1.marks[m]'(Q3 hm fX))::s1.chg}) m (s1.aw:Int) (Rw (getElem?_set_self (Q3 hm fX)) rfl) (SN)) (fun n r hf=>hX rfl rfl rfl rfl n r hf) ?_);haveI hr5:E.aq[s1.row+1+1+1]?=some (.bq pc):=Rw kx r5;refine sN hr5 (ih _ (p+1) o rfl ((((mV.ask ha rfl (le_succ _) mV.pl mV.le (le_refl _)).ask (q:=p+1) pF rfl (le_refl _) (J7 mV.pl) (Ah mV.pl ht) (le_succ _)).row _).row _) ?_);exact UK ZR
   ·rw[if_neg ht]at pF ⊢;exact(fG XE pF).le Qb
  rw[nE];haveI hmul:(r+1+1)*(c+5)=(r+1)*(c+5)+(c+5):=succ_mul _ _;cases gr
  ·simp only[Bool.false_eq_true,if_false]at r1 ⊢;rw[tZ];rw[<-hs]at r1;exact(fZ r1 (hk _ p o rfl (hp.push _ _)) (inner _ (Rw hs rfl) (hp.row _) hr)).le (NV hmul)
  ·simp only[if_true]at r1 ⊢;rw[hU,fU];rw[<-hs]at r1;exact(fZ r1 (inner _ (Rw hs rfl) (hp.push _ _) hr) (hk _ p o rfl (hp.row _))).le (NP hmul)
theorem wI(ag:List Nat)(f:Bool)(a:Atom)(gr:Bool)(n l p:Nat)(o:List Span):turns ag f a gr (n+1) (l+1) (-1) p o=if bH ag f a p then turns ag f a gr n l (-1) (p+1) o else[]:=by
 haveI h1:¬((-1:Int)=0):=by decide
 haveI h2:¬(0<(-1:Int)):=by decide
 rfl
theorem BY{s:MS}{p:Nat}{o:List Span}(hp:Pre E op g s p o):E.tx.length=E.limit-E.ao:=by simp only[Env.tx,length_take];exact Wa hp.wf.lim
theorem xg(b:Bool)(l:List Way):fs (if b=true then l else[]) kk=if b=true then fs l kk else none:=by cases b<;>rfl
theorem qo{a:Atom}{gr:Bool}(hR:E.limit-E.ao<=4):∀(l pc cy:Nat),(∀i,i<l->E.aq[pc+i]?=some (.bL a))->oK (fun pc r=>E.aq[pc]?=some r) E.jU gr a (pc+l) cy->cz E cy op g kk c->cz E pc op g (fun p o=>fs (turns E.tx E.fo a gr (E.tx.length-p+1) l (-1) p o) kk) (5*(c+5)+l)
 |0=>@fun pc cy _ h hk=>by obtain⟨m,hm,r1,r2,r3,r4,r5,_⟩:=h;intro s p o hs hp;refine(AA hm r1 r2 r3 r4 r5 hk (E.tx.length-p) s p o hs hp (WS hp.pl (BY hp))).le ?_;haveI:(E.tx.length-p+1)*(c+5)<=5*(c+5):=mul_le_mul_right _ (OM hR (BY hp));exact P9 this
 |l+1=>@fun pc cy ha h hk=>by
  haveI h0:=ha 0 Xv;rw[add_zero]at h0;refine(lA h0 (qo hR l (pc+1) cy (fun i hi=>by haveI:=ha (i+1) (K5 hi);rwa [show pc+(i+1)=pc+1+i by exact JT]at this) (by rwa [show pc+(l+1)=pc+1+l by exact JT]at h) hk)).congr fun s p o hp=>?_;rw[wI,xg];by_cases ht:bH E.tx E.fo a p=true
  ·exact Rw (if_pos ht) (Rw (if_pos ht) (Rw (show E.tx.length-(p+1)+1=E.tx.length-p by exact JB (jc ht)) rfl))
  ·exact Rw (if_neg ht) (Rw (if_neg ht) rfl)
theorem tM(ag:List Nat)(f:Bool)(a:Atom)(n p:Nat)(o:List Span):turns ag f a true (n+2) 0 1 p o=(if bH ag f a p then[(p+1,o)]else[])++[(p,o)]:=by simp[kR]
theorem y0(ag:List Nat)(f:Bool)(a:Atom)(p:Nat)(o:List Span)(h:bH ag f a p=false):turns ag f a true 1 0 1 p o=[(p,o)]:=by simp[kR,h]
theorem vd{pc cy:Nat}{a:Atom}(h:s9 (fun pc r=>E.aq[pc]?=some r) a pc cy)(hk:cz E cy op g kk c):cz E pc op g (fun p o=>fs (turns E.tx E.fo a true (E.tx.length-p+1) 0 1 p o) kk) (2*c+2):=by
 haveI r1:=h.1;haveI r2:=h.2.1;obtain rfl:=h.2.2;refine((qC r1 (lA r2 hk) hk).le OL).congr fun s p o hp=>?_;by_cases ht:bH E.tx E.fo a p=true
 ·haveI:=jc ht;rw[show E.tx.length-p+1=(E.tx.length-p-1)+2 by exact Wx this,tM,if_pos ht,hU,fU,fU,if_pos ht]
 ·haveI hf:bH E.tx E.fo a p=false:=by simpa using ht
  refine Rw (if_neg ht) (Rw Option.none_or (?_))
  cases hn:E.tx.length-p with
  |zero=>rw[y0 _ _ _ _ _ hf,fU]
  |succ n=>rw[tM,if_neg ht,nil_append,fU]
theorem xG(ag:List Nat)(f:Bool)(a:Atom)(n p:Nat)(o:List Span):turns ag f a true (n+1) 1 2 p o=if bH ag f a p then turns ag f a true n 0 1 (p+1) o else[]:=by rfl
theorem zI{pc cy:Nat}(q:Qn)(a:Atom)(hR:E.limit-E.ao<=4)(h:Fw (fun pc r=>E.aq[pc]?=some r) E.jU q a pc cy)(hk:cz E cy op g kk c):cz E pc op g (fun p o=>fs (aS E.tx E.fo (.ba q a) p o) kk) (5*c+28):=by
 obtain⟨h1,h2⟩:=h;cases hq:q.loops
 ·rw[if_neg (by simp[hq])]at h2;cases q<;>simp only[Qn.loops]at hq
  ·cases hq
  ·cases hq
  ·exact(vd h2 hk).le Ws
  ·cases hq
  ·refine((lA (h1 0 (by decide)) (vd h2 hk)).le RT).congr fun s p o hp=>?_;show fs (turns E.tx E.fo a true (E.tx.length-p+1) 1 2 p o) kk=_;rw[xG,xg];by_cases ht:bH E.tx E.fo a p=true
   ·exact Rw (if_pos ht) (Rw (if_pos ht) (Rw (show E.tx.length-(p+1)+1=E.tx.length-p by exact JB (jc ht)) rfl))
   ·exact Rw (if_neg ht) (Rw (if_neg ht) rfl)
  ·cases hq
 ·rw[if_pos hq]at h2;haveI hl:q.least<=2:=by cases q<;>decide
  have Zr:q.most=-1:=by cases q<;>first|rfl|(cases hq)
  refine((qo hR q.least pc cy h1 h2 hk).le (Yl hl)).congr fun s p o hp=>?_;simp only[IB];exact Rw Zr rfl
set_option tactic.hygienic true in
theorem jo(hR:E.limit-E.ao<=4):∀(N:Re) {pc cy g':Nat} {cl fL:List Nat} {op:List (Nat×Nat)} {g:Nat} {kk:Nat->List Span->Option (Nat×List Span)} {c:Nat},Code (fun pc r=>E.aq[pc]?=some r) E.jU N pc cy->Gn N g cl g' fL->(∀k∈cl,1<=k/\k<=g)->g'<=E.gr->(∀j st,(j,st)∈op->j<=g)->cz E cy op g' kk c->cz E pc op g (fun p o=>fs (aS E.tx E.fo N p o) kk) (N.cost c)
 |.atom a=>by intro h G dE pk mH hk;obtain⟨h1,rfl⟩:=h;cases G;refine(lA h1 hk).congr fun s p o hp=>?_;simp only[jL];rw[xg,fU]
 |.again k=>by intro h G dE pk mH hk;obtain⟨h1,rfl⟩:=h;cases G;rename_i YV;haveI:=dE k YV;exact Bv h1 this.1 (Q2 this.2 pk) hk
 |.either a b=>by
  intro h G dE pk mH hk;obtain⟨p1,r1,ca,r2,cb⟩:=h
  cases G with
  |@either _ _ _ g1 _ _ eN _ GA GB=>
  haveI mA:=GA.mono
  haveI kb:=jo hR b cb GB (fun k hk=>by
   refine Or.elim (mA.2 k hk) (fun h=>?_) fun h=>?_
   ·haveI:=dE k h;exact CQ this.1 this.2 mA.1
   ·exact Eh h.1 h.2) pk (fun j st hj=>Q2 (mH j st hj) mA.1) hk
  refine(qC r1 (jo hR a ca GA dE (Q2 GB.mono.1 pk) mH (Bm r2 (hk.mono GB.mono.1))) (kb.mono mA.1)).congr fun s p o hp=>?_;simp only[xm];rw[hU]
 |.group k a=>by
  rename_i g kk c;intro h G dE pk mH hk;obtain⟨p1,r1,ca,r2,rfl⟩:=h
  cases G with
  |@group _ _ _ _ eN GA=>
  haveI mA:=GA.mono;refine(A1 (K:=fun p0 p o=>fs (aS E.tx E.fo a p o) (fun e o'=>kk e (o'.set g (some (p0,e))))) r1 (MT mA.1 pk) mH fun p0=>?_).congr fun s p o hp=>?_
  ·exact jo hR a ca GA (fun k hk=>by haveI:=dE k hk;exact Ho this.1 this.2) pk (fun j st hj=>by
    simp only[mem_cons,Prod.mk.injEq]at hj;rcases hj with⟨rfl,rfl⟩|hj
    ·exact le_refl _
    ·exact Q0 (mH j st hj)) (xJ r2 mA.1 (MT mA.1 pk) mH hk)
  ·simp only[xd];rw[HG];rfl
 |.ba q a=>by intro h G dE pk mH hk;cases G;exact zI q a hR h hk
 |.both a b=>by
  intro h G dE pk mH hk;obtain⟨p1,ca,cb⟩:=h
  cases G with
  |@both _ _ _ g1 _ _ eN _ GA GB=>
  haveI mA:=GA.mono
  haveI kb:=jo hR b cb GB (fun k hk=>by
   refine Or.elim (mA.2 k hk) (fun h=>?_) fun h=>?_
   ·haveI:=dE k h;exact CQ this.1 this.2 mA.1
   ·exact Eh h.1 h.2) pk (fun j st hj=>Q2 (mH j st hj) mA.1) hk
  refine(jo hR a ca GA dE (Q2 GB.mono.1 pk) mH kb).congr fun s p o hp=>?_;simp only[wZ];rw[qG]
end
end
theorem tQ:∀(N:Re) (c:Nat),N.dep=0->N.cost c<=5*c+28
 |.atom _=>@fun c _=>O7
 |.again _=>@fun c _=>O7
 |.either a b=>@fun c h=>I7 h
 |.group _ a=>@fun c h=>SW h
 |.ba _ _=>@fun c _=>le_refl _
 |.both a b=>@fun c h=>I7 h
theorem rY:∀(N:Re) (c:Nat),N.dep<=1->N.cost c<=25*c+168
 |.atom _=>@fun c _=>OZ
 |.again _=>@fun c _=>OZ
 |.either a b=>@fun c h=>by haveI:=tQ a (c+1) (Dp h);haveI:=tQ b c (De h);exact X8 (by assumption) this
 |.group _ a=>@fun c h=>by haveI:=tQ a (c+1) (M5 h);exact Rt this
 |.ba _ _=>@fun c _=>T9
 |.both a b=>@fun c h=>by haveI:=tQ a (b.cost c) (Dp h);haveI:=tQ b c (De h);exact UH this (by assumption)
theorem E2:∀(N:Re) (c:Nat),N.dep<=2->N.cost c<=625*c+4368
 |.atom _=>@fun c _=>Vc
 |.again _=>@fun c _=>Vc
 |.either a b=>@fun c h=>by haveI:=rY a (c+1) (C6 h);exact Na (by assumption) (rY b c (DQ h))
 |.group _ a=>@fun c h=>Ri (rY a (c+1) (Lx h))
 |.ba _ _=>@fun c _=>O4
 |.both a b=>@fun c h=>by haveI:=rY a (b.cost c) (C6 h);exact Vp (rY b c (DQ h)) (by assumption)
structure hS(E:Env)(N:Re)(pe:Nat)(cl:List Nat):Prop where
 code:Code (fun pc r=>E.aq[pc]?=some r) E.jU N 0 pe
 gn:Gn N 0 [] E.gr cl
 gr:E.gr<=100
 mk':E.jU<=1000
 rl:E.aq.length<=1000
 tl:E.ag.length<=4
 ts:∀c∈E.ag,Sg c
 lb:E.ao<=E.limit
 lim:E.limit<=E.ao+E.ag.length
 bs:E.ao<=1000
 dep:N.dep<=2
theorem Bg{E:Env}{N:Re}{pe:Nat}{cl:List Nat}(h:hS E N pe cl)(p:Nat)(hp:E.ao+p<=E.limit):Pre E [] 0 (start E (E.ao+p)) p (List.replicate E.gr none):=by
 refine⟨rfl,hp,⟨by simp[start],?_,?_,fun j st hj=>by cases hj⟩,fun j st hj=>(by cases hj),fun i y_ hi=>?_,⟨by simp[start],by simp[start],fun c hc=>(by cases hc),h.gr,h.mk',h.rl,VT h.tl,h.ts,h.lim,le_add_right _ _,fun c hc=>(by cases hc),h.bs⟩,fun b q c rest e=>by simp[start]at e,by simp⟩
 ·intro i s e hi;replace hi:=(getElem?_replicate)▸hi
  split at hi<;>exact nomatch hi
 ·intro i hi;haveI hi:=(getElem?_replicate)▸hi
  split at hi
  ·simp only[start];exact Rw (getElem?_replicate) (Rw (if_pos (Pl (by assumption))) rfl)
  ·exact nn hi
 ·rw[length_replicate]at hi;exact Rw (getElem?_replicate) (Rw (if_pos hi) rfl)
theorem D8{E:Env}{k:List Int}{o:List Span}{p e:Nat}(hr:RelM E k o [])(ho:o.length=E.gr):lr E (E.ao+p) (some (E.ao+e,k))=cT E.ao p (e,o):=by
 haveI hl:=hr.len;simp only[lr];congr 1;refine List.ext_getElem? fun i=>?_
 cases i with
 |zero=>simp only[getElem?_map,getElem?_range (succ_pos _),Option.map_some];congr 1;haveI h0:((k.set 0 ((E.ao+p:Nat):Int)).set 1 ((E.ao+e:Nat):Int))[2*0]?=some ((E.ao+p:Nat):Int):=Rw (getElem?_set_ne RI) (Rw (getElem?_set_self (KJ hl)) rfl);haveI h1:((k.set 0 ((E.ao+p:Nat):Int)).set 1 ((E.ao+e:Nat):Int))[2*0+1]?=some ((E.ao+e:Nat):Int):=Rw (getElem?_set_self (by simp;exact KR hl)) rfl;simp only[jD,h0,h1];refine Rw (if_neg MG) (?_);simp only[shift,bz,add_comm]
 |succ i=>
  by_cases hi:i<E.gr
  ·refine Rw (getElem?_map) (Rw (getElem?_range (K5 hi)) (Rw (getElem?_map) (Rw (getElem?_cons_succ) (?_))));haveI gj:o[i]?=some (o[i]'(Q3 hi ho)):=by simp
   haveI h0:((k.set 0 ((E.ao+p:Nat):Int)).set 1 ((E.ao+e:Nat):Int))[2*(i+1)]?=k[2*(i+1)]?:=Rw (getElem?_set_ne P6) (Rw (getElem?_set_ne Tq) rfl);haveI h1:((k.set 0 ((E.ao+p:Nat):Int)).set 1 ((E.ao+e:Nat):Int))[2*(i+1)+1]?=k[2*(i+1)+1]?:=Rw (getElem?_set_ne WG) (Rw (getElem?_set_ne Oy) rfl);refine Rw gj (?_);simp only[Option.map_some];congr 1
   cases hv:o[i]'(Q3 hi ho)with
   |none=>
    haveI gj:=hv▸gj;haveI hk0:k[2*(i+1)]?=some (k[2*(i+1)]'(RS hi hl ho)):=by simp
    simp only[jD,h0,h1,(hr.no i gj),hk0];exact Rw (if_pos (.inr Ts)) rfl
   |some w=>obtain⟨st,en⟩:=w;rw[hv]at gj;simp only[jD,h0,h1,(hr.yes i st en gj).1,(hr.yes i st en gj).2.1];refine Rw (if_neg MG) (?_);simp only[shift,bz,add_comm]
  ·haveI h1:((List.range (E.gr+1)).map fun j=>jD ((k.set 0 ((E.ao+p:Nat):Int)).set 1 ((E.ao+e:Nat):Int)) j)[i+1]?=none:=by simp;exact FH hi
   haveI h2:((some (p,e)::o).map fun x=>bz (shift E.ao x))[i+1]?=none:=by simp;exact Px ho hi
   exact Rw h1 (Rw h2 rfl)
theorem Gq(l:List Way):fs l (fun p o=>some (p,o))=l.head?:=by
 cases l with
 |nil=>rfl
 |cons w r=>rfl
theorem FJ(l:List Way)(b pt P:Nat)(h:pt=b+P):fs l (fun p o=>if b+p=pt then some (p,o)else none)=l.find? fun w=>w.1==P:=by
 induction l with
 |nil=>rfl
 |cons w r ih=>
  obtain⟨e,o⟩:=w;rw[tZ,ih];by_cases he:e=P
  ·obtain rfl:=Eq.symm he;refine Rw (if_pos (V3 h)) (?_);simp
  ·refine Rw (if_neg (NN h he)) (?_);simp[he]
noncomputable def k4(b p:Nat):Option Way->V
 |none=>.none
 |some w=>cT b p w
theorem qD{E:Env}{N:Re}{pe:Nat}{cl:List Nat}(h:hS E N pe cl)(p:Nat){kk:Nat->List Span->Option (Nat×List Span)}{c:Nat}(hk:cz E pe [] E.gr kk c)(hp:E.ao+p<=E.limit)
  (Ze:∀p o x,kk p o=some x->x=(p,o)):gW fun n r=>kE (n<=N.cost c) (Runs E (start E (E.ao+p)) n r) (Wf E (start E (E.ao+p))) (lr E (E.ao+p) r=k4 E.ao p (fs (aS E.tx E.fo N p (List.replicate E.gr none)) kk)):=by
 haveI F1:=Bg h p hp;haveI hl:=h.tl;haveI yp:=h.lim;have hc:=jo (OK hl yp) N h.code h.gn (fun k hk=>by cases hk) (le_refl _) (fun j st hj=>by cases hj) hk (start E (E.ao+p)) p _ rfl F1
 cases hf:fs (aS E.tx E.fo N p (List.replicate E.gr none)) kk with
 |none=>dsimp only at hc;haveI hc:=hf▸hc;obtain⟨n,h1,h2⟩:=hc.2 rfl 0 none (.inl ⟨rfl,rfl,rfl⟩);exact⟨n,none,Ng h1,h2,F1.wf,rfl⟩
 |some x=>
  obtain⟨e,o⟩:=x;dsimp only at hc;haveI hc:=hf▸hc;obtain⟨n,k',h1,h2,h3⟩:=hc.1 e o rfl;refine⟨n,_,h1,h2,F1.wf,?_⟩
  haveI pR:o.length=E.gr:=by obtain⟨w,YP,MV⟩:=List.exists_of_findSome?_eq_some hf;have:=Ze _ _ _ MV;haveI hk:=dp E.tx E.fo N p (List.replicate E.gr none) w YP;cases this;simpa using hk
  exact D8 h3 pR
theorem xk{E:Env}{N:Re}{pe:Nat}{cl:List Nat}(h:hS E N pe cl)(hd:E.aq.drop pe=[.done])(p:Nat)(hp:E.ao+p<=E.limit):gW fun n r=>kE (n<=5700) (Runs E (start E (E.ao+p)) n r) (Wf E (start E (E.ao+p))) (lr E (E.ao+p) r=k4 E.ao p (aS E.tx E.fo N p (List.replicate E.gr none)).head?):=by
 haveI h0:E.aq[pe]?=some .done:=by haveI:=congrArg (fun l=>l[0]?) hd;simpa using this
 obtain⟨n,r,h1,h2,h3,h4⟩:=qD h p (tW h0) hp (fun p o x e=>by cases e;rfl);rw[Gq]at h4;exact⟨n,r,PI (E2 N 1 h.dep) h1,h2,h3,h4⟩
theorem xf{E:Env}{N:Re}{pe:Nat}{cl:List Nat}(h:hS E N pe cl)(hd:E.aq.drop pe=[.point,.done])(P:Nat)(hP:E.point=E.ao+P)(p:Nat)(hp:E.ao+p<=E.limit):gW fun n r=>kE (n<=5700) (Runs E (start E (E.ao+p)) n r) (Wf E (start E (E.ao+p))) (lr E (E.ao+p) r=k4 E.ao p (dP (fun p=>aS E.tx E.fo N p (List.replicate E.gr none)) P p)):=by
 haveI h0:E.aq[pe]?=some .point:=by haveI:=congrArg (fun l=>l[0]?) hd;simpa using this
 haveI h1:E.aq[pe+1]?=some .done:=by haveI:=congrArg (fun l=>l[1]?) hd;simpa using this
 obtain⟨n,r,g1,g2,g3,g4⟩:=qD h p (zc h0 (tW h1)) hp (fun p o x e=>by
  split at e
  ·replace e:=oj e;subst e;rfl
  ·exact nn e)
 rw[FJ _ _ _ P hP]at g4;exact⟨n,r,SM (E2 N (1+1) h.dep) g1,g2,g3,g4⟩
section
noncomputable def te(σ:St)(E:Env):St:=σ++[mO {E with limit:=0} 0 (σ.length+1) (σ.length+2) (σ.length+3) (σ.length+4)]++[O.list []]++[O.list []]++[O.list []]++[O.list []]
theorem C8(σ:St)(E:Env):te σ E=σ++[mO {E with limit:=0} 0 (σ.length+1) (σ.length+2) (σ.length+3) (σ.length+4),.list [],.list [],.list [],.list []]:=by unfold te;rw[append_assoc,append_assoc,append_assoc,append_assoc];rfl
theorem lV(d:Nat)(σ:St)(E:Env):Run af (d+1) 61 [.loc σ.length,eJ E.fo E.aq E.gr E.jU,ee E.ag E.ao,cF E.T,.int E.point] (σ++[.inst 5 []]) .none (te σ E):=ah 1 (.add .z _) [] [] 0x22222122221222212222122212221222122122122121212111211121112111211121112111 (ai trivial tr)
theorem SQ(σ:St)(E:Env)(hT:σ[E.T]?=some (.dict [])):MM σ (te σ E) σ.length E 0:=by rw[C8];exact⟨⟨0,_,_,_,_,by rw[getElem?_append_right (le_refl _),sub_self];rfl⟩,hT,le_refl _,Ext.nP.app⟩
theorem kT(b s:Nat)(w:Way):∃l,cT b s w=.lst (.aj [.int ((s+b:Nat):Int),.int ((w.1+b:Nat):Int)]::l):=⟨_,rfl⟩
section
variable {U:St} {E:Env} {N:Re} {pe:Nat} {cl:List Nat}
theorem oa(h:hS E N pe cl)(hd:E.aq.drop pe=[.done])(d:Nat){M:Nat}(W:Nat->List Way)(hW:W=fun p=>aS E.tx E.fo N p (List.replicate E.gr none))(v0 v1 v4 v5:V):∀(n i t:Nat) {σ:St} (e7 e8:Option V),n<=i+1->E.ao+i<=E.limit->MM U σ M E t->t+n*5700<=400000->mQ fun ab z0 Aa=>cg (eU af (d+9) [7] false zE) (down ((E.ao+i:Nat):Int) n) [some v0,some v1,some (.int E.limit),some v4,some v5,some (.int E.point),some (.loc M),e7,e8] σ
   (match ir W n i with|none=>.next|some (s,w)=>.ret (cT E.ao s w)) [some v0,some v1,some (.int E.limit),some v4,some v5,some (.int E.point),some (.loc M),z0,Aa] ab/\Ext U ab
 |0=>@fun i t σ e7 e8 _ _ m _=>⟨σ,e7,e8,cg.nil,m.ext⟩
 |n+1=>by
  intro i t σ e7 e8 hn hi m ht;obtain⟨k,r,hk,hr,MO,hv⟩:=xk h hd i hi;obtain⟨bC,t1,e1,m1,wR⟩:=uU d m hr MO (QI ht hk);rw[hv]at e1;obtain⟨l0,K0,L5,Lz,LI,hM⟩:=m.hM;have hWi:W i=aS E.tx E.fo N i (List.replicate E.gr none):=Rw hW rfl;rw[<-hWi]at e1;simp only[yR]
  cases hw:W i with
  |nil=>
   rw[hw]at e1;haveI e1:=e1;obtain⟨ab,z0,Aa,ih,yj⟩:=oa h hd d W hW v0 v1 v4 v5 n (i-1) t1 (some (.int ((E.ao+i:Nat):Int))) (some .none) (Ll hn) (Sy hi) m1 (Vx ht hk wR);refine⟨ab,z0,Aa,?_,yj⟩;refine cg.next (aG:=[some v0,some v1,some (.int E.limit),some v4,some v5,some (.int E.point),some (.loc M),some (.int ((E.ao+i:Nat):Int)),some .none]) (ae:=bC) ?h ?k
   case h=>
    exact dq 9 .z [.of hM] [.call .z e1] 0x21 tr
   case k=>
    cases n with
    |zero=>exact ih
    |succ n=>exact Rw (show((E.ao+i:Nat):Int)-1=((E.ao+(i-1):Nat):Int) by exact N6 hn) ih
  |cons w rest=>replace e1:=hw▸e1;refine(kT E.ao i w).elim fun l hl=>?_;have e1:Run af (d+9) 62 [.loc M,.int ((E.ao+i:Nat):Int),.int E.limit] σ (cT E.ao i w) bC:=e1;refine⟨bC,some (.int ((E.ao+i:Nat):Int)),some (cT E.ao i w),?_,m1.ext⟩;refine cg.ret ?_;rw[hl]at e1 ⊢;exact dq 9 .z [.of hM] [.call .z e1] 0x21 tr
theorem Bi(h:hS E N pe cl)(hd:E.aq.drop pe=[.done])(d:Nat){σ:St}(hT:σ[E.T]?=some (.dict []))(P bd:Nat)(hP:E.limit=E.ao+P)(pN:bd<=P):∃ab,Run af (d+10) 16 [ee E.ag E.ao,cF E.T,.int E.limit,eJ E.fo E.aq E.gr E.jU,.int ((bd:Int)+(E.ao:Int)),.int E.point] σ (jh E.ao (ir (fun p=>aS E.tx E.fo N p (List.replicate E.gr none)) (P+1-bd) P)) ab/\Ext σ ab:=by
 haveI hi:=lV (d+8) σ E;haveI m0:=SQ σ E hT;haveI mK:=h.tl;haveI M6:=h.lim;have T2:=h.bs
 obtain⟨ab,e7,e8,hl,yj⟩:=oa h hd d _ rfl (ee E.ag E.ao) (cF E.T) (eJ E.fo E.aq E.gr E.jU) (.int ((bd:Int)+(E.ao:Int))) (P+1-bd) P 0 none none HI (Uu hP) m0 (by
  haveI:(P+1-bd)*5700<=5*5700:=mul_le_mul_right _ (W3 hP mK M6)
  exact Ju this)
 refine⟨ab,?_,yj⟩;haveI DV:(if(bd:Int)+(E.ao:Int)<(E.ao:Int)then(E.ao:Int)else(bd:Int)+(E.ao:Int))=(bd:Int)+(E.ao:Int):=if_neg Mo;haveI xt:(small (E.limit:Int)&&small ((bd:Int)+(E.ao:Int)-1))=true:=Rw (cZ fA (Xz T2 mK M6)) (Rw (cZ Tj (Xr hP T2 mK pN M6)) rfl);haveI hn:((E.limit:Int)-((if(bd:Int)+(E.ao:Int)<(E.ao:Int)then(E.ao:Int)else(bd:Int)+(E.ao:Int))-1)).toNat=P+1-bd:=Rw DV (S2 hP);haveI xt:(small (E.limit:Int)&&small ((if(bd:Int)+(E.ao:Int)<(E.ao:Int)then(E.ao:Int)else(bd:Int)+(E.ao:Int))-1))=true:=Rw DV xt;rw[<-hP,<-hn]at hl
 cases hb:ir (fun p=>aS E.tx E.fo N p (List.replicate E.gr none)) (P+1-bd) P with
 |none=>replace hb:=hn.symm▸hb;haveI hl:=hb▸hl;exact ah 10 .z [] [.call .z hi,.md .z hl] 0x2121 (ai xt tr)
 |some w=>haveI s:=w.1;haveI w:=w.2;rw[<-hn]at hb;rw[hb]at hl;exact ah 10 .z [] [.call .z hi,.md .z hl] 0x2121 (ai xt tr)
end
end
section
section
variable {U:St} {E:Env} {N:Re} {pe:Nat} {cl:List Nat}
theorem vA(h:hS E N pe cl)(hd:E.aq.drop pe=[.point,.done])(P:Nat)(hP:E.point=E.ao+P)(d:Nat){M t:Nat}{σ:St}(p:Nat)(hp:E.ao+p<=E.limit)(m:MM U σ M E t)(ht:t+5700<=400000)
  (EE:Nat->Option Way)(hE:EE=dP (fun p=>aS E.tx E.fo N p (List.replicate E.gr none)) P):gW fun ab t'=>eF (Run af (d+9) 62 [.loc M,.int ((E.ao+p:Nat):Int),.int E.limit] σ (k4 E.ao p (EE p)) ab) (MM U ab M E t') (t'<=t+5700):=by
 refine cps fun G kG=>?_;obtain⟨k,r,hk,hr,MO,hv⟩:=xf h hd P hP p hp;obtain⟨bC,t1,e1,m1,wR⟩:=uU d m hr MO (Wb ht hk);refine kG ?_;haveI e1:=hv▸e1;exact⟨bC,t1,Rw hE e1,m1,Qc hk wR⟩
noncomputable def CJ(b:Nat)(EE:Nat->Option Way):Option Nat->V
 |none=>.none
 |some s=>k4 b s (EE s)
theorem qi(h:hS E N pe cl)(hd:E.aq.drop pe=[.point,.done])(P:Nat)(hP:E.point=E.ao+P)(d:Nat){M:Nat}(EE:Nat->Option Way)(hE:EE=dP (fun p=>aS E.tx E.fo N p (List.replicate E.gr none)) P)
  (bd:Nat)(v1 v3 v5 v6 v7 v9 v10:V):∀(n t:Nat) {σ:St} (i:Int),i=(E.ao:Int)+bd+n-1->E.ao+bd+n<=E.limit+1->MM U σ M E t->t+n*5700<=400000->mQ fun ab t' j=>eF (Wh af (d+9) nN sY [some (ee E.ag E.ao),some v1,some (.int E.limit),some v3,some (.int ((bd:Int)+(E.ao:Int))),some v5,some v6,some v7,some (.loc M),some v9,some v10,some (.int i),some .none,none] σ .next [some (ee E.ag E.ao),some v1,some (.int E.limit),some v3,some (.int ((bd:Int)+(E.ao:Int))),some v5,some v6,some v7,some (.loc M),some v9,some v10,some (.int j),some (CJ E.ao EE (fv EE n (bd+n-1))),none] ab) (MM U ab M E t') (t'<=t+n*5700)
 |0=>@fun t σ i hi hn m ht=>by haveI DV:(if(bd:Int)+(E.ao:Int)<(E.ao:Int)then(E.ao:Int)else(bd:Int)+(E.ao:Int))=(bd:Int)+(E.ao:Int):=if_neg Mo;haveI h1:¬((if(bd:Int)+(E.ao:Int)<(E.ao:Int)then(E.ao:Int)else(bd:Int)+(E.ao:Int))<=i):=Rw DV (S7 hi);refine⟨σ,t,i,Wh.stop (?_:Ev af (d+9) nN _ σ _ σ),m,QC⟩;exact br 9 .z [] [] 0x31 (ai h1 tr)
 |n+1=>@fun t σ i hi hn m ht=>by
  haveI DV:(if(bd:Int)+(E.ao:Int)<(E.ao:Int)then(E.ao:Int)else(bd:Int)+(E.ao:Int))=(bd:Int)+(E.ao:Int):=if_neg Mo;haveI jZ:=NL hi;have h1:(if(bd:Int)+(E.ao:Int)<(E.ao:Int)then(E.ao:Int)else(bd:Int)+(E.ao:Int))<=((E.ao+(bd+n):Nat):Int):=Rw DV Og;rw[succ_mul]at ht;obtain⟨bC,t1,e1,m1,wR⟩:=vA h hd P hP d (bd+n) (NW hn) m (Ke ht) EE hE;obtain⟨l0,K0,L5,Lz,LI,hM⟩:=m.hM;subst jZ;rw[show bd+(n+1)-1=bd+n from rfl,fv]
  cases hq:EE (bd+n)with
  |none=>
   haveI e1:=hq▸e1;have e1:Run af (d+9) 62 [.loc M,.int ((E.ao+(bd+n):Nat):Int),.int E.limit] σ .none bC:=e1;obtain⟨ab,t',j,ih,m',iE⟩:=qi h hd P hP d EE hE bd v1 v3 v5 v6 v7 v9 v10 n t1 (((E.ao+(bd+n):Nat):Int)-1) RR (UP hn) m1 (KS ht wR);refine⟨ab,t',j,?_,m',by rw[succ_mul];exact VN wR iE⟩;refine Wh.next (ae:=σ) ?h1 ?h2 ih
   case h1=>exact br 9 .z [] [] 0x21 (ai h1 tr)
   case h2=>exact bJ 9 .z [.of hM] [.call .z e1] 0x21 tr
  |some w=>
   rw[hq]at e1;refine⟨bC,t1,((E.ao+(bd+n):Nat):Int)-1,?_,m1,by rw[succ_mul];exact YC wR⟩;rw[Option.isSome_some,if_pos rfl,CJ,hq,k4];refine Wh.next (ae:=σ) (av:=bC) ?h1 ?h2 (Wh.stop ?h3)
   case h1=>exact br 9 .z [] [] 0x21 (ai h1 tr)
   case h2=>exact bJ 9 .z [.of hM] [.call .z e1] 0x21 tr
   case h3=>
    by_cases h2:(if(bd:Int)+(E.ao:Int)<(E.ao:Int)then(E.ao:Int)else(bd:Int)+(E.ao:Int))<=((E.ao+(bd+n):Nat):Int)-1
    ·exact br 9 .z [] [] 0x21 (ai h2 tr)
    ·exact br 9 .z [] [] 0x31 (ai h2 tr)
theorem pZ(h:hS E N pe cl)(hd:E.aq.drop pe=[.point,.done])(P:Nat)(hP:E.point=E.ao+P)(d:Nat){M:Nat}(EE:Nat->Option Way)(hE:EE=dP (fun p=>aS E.tx E.fo N p (List.replicate E.gr none)) P)
  (v1 v3 v4 v5 v7 v9 v10 v11:V):∀(s t:Nat) {σ:St} (w:Way) (fD:Option V),EE s=some w->E.ao+s<=E.limit->MM U σ M E t->t+s*5700<=400000->qX fun ab fl gE Gd=>eF (Wh af (d+9) nS nU [some (ee E.ag E.ao),some v1,some (.int E.limit),some v3,some v4,some v5,some (.bool true),some v7,some (.loc M),some v9,some v10,some v11,some (cT E.ao s w),fD] σ fl [some (ee E.ag E.ao),some v1,some (.int E.limit),some v3,some v4,some v5,some (.bool true),some v7,some (.loc M),some v9,some v10,some v11,some gE,Gd] ab) (Ext U ab) ((fl=.ret (k4 E.ao (dO EE s) (EE (dO EE s)))\/(fl=.next/\gE=k4 E.ao (dO EE s) (EE (dO EE s)))))
 |0=>@fun t σ w fD hw hs m ht=>by
  refine(kT E.ao 0 w).elim fun l hl=>?_;haveI h1:0+E.ao<=E.ao:=le_of_eq (zero_add _);haveI zk:=mG (.aj [.int ((0+E.ao:Nat):Int),.int ((w.1+E.ao:Nat):Int)]) l;refine⟨σ,_,_,fD,Wh.stop ?_,m.ext,.inr ⟨rfl,?_⟩⟩
  ·exact Rw hl (br 9 .z [] [.idx zk] 0x31121 (ai (iX h1) tr))
  ·rw[dO,hw];rfl
 |s+1=>@fun t σ w fD hw hs m ht=>by
  refine(kT E.ao (s+1) w).elim fun l hl=>?_;haveI h1:E.ao<s+1+E.ao:=Vd;haveI h2:((s+1+E.ao:Nat):Int)-1=((E.ao+s:Nat):Int):=RH;haveI zk:=mG (.aj [.int ((s+1+E.ao:Nat):Int),.int ((w.1+E.ao:Nat):Int)]) l;rw[succ_mul]at ht;refine cps fun G kG=>?_;obtain⟨bC,t1,e1,m1,wR⟩:=vA h hd P hP d s (KC hs) m (Ke ht) EE hE;obtain⟨l0,K0,L5,Lz,LI,hM⟩:=m.hM;refine kG ?_;haveI e1:=h2.symm▸e1;rw[dO]
  cases hq:EE s with
  |none=>
   replace e1:=hq▸e1;have e1:Run af (d+9) 62 [.loc M,.int (((s+1+E.ao:Nat):Int)-1),.int E.limit] σ .none bC:=e1;refine⟨bC,.ret (cT E.ao (s+1) w),cT E.ao (s+1) w,some .none,?_,m1.ext,.inl ?_⟩
   ·refine Rw hl (Wh.ret (ae:=σ) ?_ ?_)
    ·exact br 9 .z [] [.idx zk] 0x21121 (ai (gT h1) tr)
    ·exact bJ 9 .z [.of hM] [.idx zk,.call .z e1] 0x2121 tr
   ·exact Rw Option.isSome_none (Rw (if_neg bf) (Rw hw rfl))
  |some w2=>
   haveI e1:=hq▸e1;haveI e1:Run af (d+9) 62 [.loc M,.int (((s+1+E.ao:Nat):Int)-1),.int E.limit] σ (cT E.ao s w2) bC:=e1;obtain⟨ab,fl,gE,Gd,ih,yj,jY⟩:=pZ h hd P hP d EE hE v1 v3 v4 v5 v7 v9 v10 v11 s t1 w2 (some (cT E.ao s w2)) hq (KC hs) m1 (KS ht wR);refine⟨ab,fl,gE,Gd,?_,yj,Rw Option.isSome_some (Rw (if_pos rfl) jY)⟩;refine Rw hl (Wh.next (ae:=σ) ?h1 ?h2 ih)
   case h1=>exact br 9 .z [] [.idx zk] 0x21121 (ai (gT h1) tr)
   case h2=>exact bJ 9 .z [.of hM] [.idx zk,.call .z e1] 0x2121 tr
end
end
theorem Gn.inR{N:Re}{g g':Nat}{cl fL:List Nat}(h:Gn N g cl g' fL):∀m,(∀k∈cl,1<=k/\k<=g)->g'<=m->N.inR m:=by
 induction h with
 |atom=>intro m _ _;trivial
 |again k g cl hk=>intro m hc hm;haveI:=hc k hk;exact⟨this.1,Q2 this.2 hm⟩
 |ba=>intro m _ _;trivial
 |either h1 h2 i1 i2=>
  intro m hc hm;refine⟨i1 m hc (Q2 h2.mono.1 hm),i2 m (fun k hk=>?_) hm⟩;rcases h1.mono.2 k hk with h|h
  ·haveI:=hc k h;exact CQ this.1 this.2 h1.mono.1
  ·exact Eh h.1 h.2
 |both h1 h2 i1 i2=>
  intro m hc hm;refine⟨i1 m hc (Q2 h2.mono.1 hm),i2 m (fun k hk=>?_) hm⟩;rcases h1.mono.2 k hk with h|h
  ·haveI:=hc k h;exact CQ this.1 this.2 h1.mono.1
  ·exact Eh h.1 h.2
 |group h1 i1=>intro m hc hm;exact⟨⟨Fv,MT h1.mono.1 hm⟩,i1 m (fun k hk=>by haveI:=hc k hk;exact Ho this.1 this.2) hm⟩
theorem k9:∀{N:Re},N.inR 9->∀c∈N.pat,c<128
 |.atom a=>@fun _ c hc=>by cases a<;>simp[Re.HC,Atom.pat]at hc<;>(first|exact Jz hc|exact Ji hc|exact I4 hc|exact I9 hc|exact J5 hc|exact Li hc)
 |.again k=>@fun h c hc=>by have:=h.2;simp[Re.Ci]at hc;exact SY hc this
 |.either a b=>@fun h c hc=>by
  simp only[Re.lx,mem_append]at hc;rcases hc with(((hc|hc)|hc)|hc)|hc
  ·simp at hc;exact Kw hc
  ·exact k9 h.1 c hc
  ·simp at hc;exact OA hc
  ·exact k9 h.2 c hc
  ·simp at hc;exact M3 hc
 |.group k a=>@fun h c hc=>by
  simp only[Re.lF,mem_append]at hc;rcases hc with(hc|hc)|hc
  ·simp at hc;exact RL hc
  ·exact k9 h.2 c hc
  ·simp at hc;exact M3 hc
 |.ba q a=>@fun h c hc=>by
  simp only[Re.lE,mem_append]at hc;rcases hc with((hc|hc)|hc)|hc
  ·simp at hc;exact Kw hc
  ·cases a<;>simp[Atom.pat]at hc<;>(first|exact Jz hc|exact Ji hc|exact I4 hc|exact I9 hc|exact J5 hc|exact Li hc)
  ·simp at hc;exact M3 hc
  ·cases q<;>simp[Qn.txt]at hc<;>(first|exact Xl hc|exact Ox hc|exact VB hc|exact So hc|exact X9 hc|exact Nz hc)
 |.both a b=>@fun h c hc=>by
  simp only[Re.jw,mem_append]at hc;refine Or.elim hc (fun hc=>?_) fun hc=>?_
  ·exact k9 h.1 c hc
  ·exact k9 h.2 c hc
theorem EY:∀N:Re,N.dep=0->N.wt<=20
 |.atom _=>by intro _;simp[Re.oI]
 |.again _=>by intro _;simp[Re.wC]
 |.either a b=>by intro h;simp only[Re.Ij]at h;exact Ks h
 |.group _ a=>by intro h;simp only[Re.Hf]at h;exact Tp h
 |.ba _ _=>by intro _;simp[Re.vW]
 |.both a b=>by intro h;simp only[Re.HS]at h;exact Ks h
theorem Eu:∀N:Re,N.dep<=1->N.wt<=50
 |.atom _=>@fun _=>by simp[Re.oI]
 |.again _=>@fun _=>by simp[Re.wC]
 |.either a b=>@fun h=>QQ (EY b (De h)) (EY a (Dp h))
 |.group _ a=>@fun h=>WW (EY a (M5 h))
 |.ba _ _=>@fun _=>(le_add_left _ _)
 |.both a b=>@fun h=>Ol (EY b (De h)) (EY a (Dp h))
theorem Su:∀N:Re,N.dep<=2->N.wt<=110
 |.atom _=>@fun _=>by simp[Re.oI]
 |.again _=>@fun _=>by simp[Re.wC]
 |.either a b=>@fun h=>Qr (Eu b (DQ h)) (Eu a (C6 h))
 |.group _ a=>@fun h=>UB (Eu a (Lx h))
 |.ba _ _=>@fun _=>(le_add_left _ _)
 |.both a b=>@fun h=>Rj (Eu b (DQ h)) (Eu a (C6 h))
structure Drawn(N:Re)(gr:Nat)(ag:List Nat)(ao:Nat):Prop where
 gn:∃cl,Gn N 0 [] gr cl
 zm:gr<=9
 dep:N.dep<=2
 len:N.pat.length<=100
 ts:∀c∈ag,Sg c
 tl:ag.length<=4
 bs:ao<=1000
theorem Drawn.cd{N:Re}{gr:Nat}{ag:List Nat}{ao:Nat}(h:Drawn N gr ag ao):Cd N.pat:=by refine h.gn.elim fun cl g=>?_;exact⟨k9 (g.inR 9 (fun k hk=>by cases hk) h.zm),by haveI:=h.len;exact DK this⟩
theorem vj(b s:Nat)(o:Option Way):jh b (o.map fun w=>(s,w))=k4 b s o:=by cases o<;>rfl
theorem xW{N:Re}{gr:Nat}{ag:List Nat}{ao:Nat}(h:Drawn N gr ag ao)(d:Nat){σ:St}{T:Nat}(hT:σ[T]?=some (.dict []))(fo Ao:Bool)(P bd:Nat)(hP:P<=ag.length)(pN:bd<=P):∃ab,Run af (d+12) 15 [ee ag ao,cF T,.int ((P:Int)+(ao:Int)),.lst (cv N.pat),.int ((bd:Int)+(ao:Int)),.bool fo,.bool Ao] σ (jh ao (i7 (fun s=>aS (ag.take P) fo N s (List.replicate gr none)) P bd Ao)) ab/\Ext σ ab:=by
 refine h.gn.elim fun cl gn=>?_;haveI wM:=Su N h.dep;haveI Bl:=gn.inR 1000 (fun k hk=>by cases hk) (by haveI:=h.zm;exact Jn this);obtain⟨bC,e1,x1⟩:=ja d σ N gr cl h.cd (by haveI:=h.len;exact I5 this) gn h.zm (by haveI:=h.dep;exact I6 this);obtain⟨bQ,aq,mk',pe,e2,x2,cW,dm,fY,sA⟩:=tB d bC N gr fo (Jy wM) Bl;have hE:hS ⟨aq,gr,mk',fo,ag,ao,T,ao+P,ao+P⟩ N pe cl:=⟨cW,gn,by haveI:=h.zm;exact Ir this,sA,fY,h.tl,h.ts,le_add_right _ _,add_le_add_left hP _,h.bs,h.dep⟩;haveI hT2:=x2 _ _ (x1 _ _ hT);haveI hi:=lV (d+10) bQ ⟨aq,gr,mk',fo,ag,ao,T,ao+P,ao+P⟩;haveI m0:=SQ bQ ⟨aq,gr,mk',fo,ag,ao,T,ao+P,ao+P⟩ hT2;haveI mK:=h.tl
 haveI MY:Env.tx ⟨aq,gr,mk',fo,ag,ao,T,ao+P,ao+P⟩=ag.take P:=by show ag.take (ao+P-ao)=_;rw[add_sub_cancel_left]
 generalize L4:dP (fun p=>aS (Env.tx ⟨aq,gr,mk',fo,ag,ao,T,ao+P,ao+P⟩) fo N p (List.replicate gr none)) P=EE;haveI Qe:dP (fun s=>aS (ag.take P) fo N s (List.replicate gr none)) P=EE:=Lw MY L4;haveI hmul:(P+1-bd)*5700<=5*5700:=mul_le_mul_right _ (NF mK hP);refine Rw (show(P:Int)+(ao:Int)=((ao+P:Nat):Int) by exact KQ) (?_);obtain⟨jV,t4,j4,l1,m4,ht4⟩:=qi hE dm P rfl (d+2) EE L4.symm bd (cF T) (.lst (cv N.pat)) (.bool fo) (.bool Ao) (eJ fo aq gr mk') (jn N.nd) (.int gr) (P+1-bd) 0 ((ao+P:Nat):Int) (R5 pN) (Vz pN) m0 (Ju hmul);rw[show bd+(P+1-bd)-1=P by exact KP pN]at l1;unfold i7;refine Rw Qe (?_)
 cases hq:fv EE (P+1-bd) P with
 |none=>
  rw[hq]at l1;haveI l1:=l1;refine⟨jV,?_,x1.trans (x2.trans m4.ext)⟩
  haveI LG:Ev af (d+11) nS [some (ee ag ao),some (cF T),some (.int ((ao+P:Nat):Int)),some (.lst (cv N.pat)),some (.int ((bd:Int)+(ao:Int))),some (.bool fo),some (.bool Ao),some (eJ fo aq gr mk'),some (.loc bQ.length),some (jn N.nd),some (.int gr),some (.int j4),some .none,none] jV (.bool false) jV:=by exact br 11 .z [] [] 0x0 tr
  haveI l2:=Wh.stop (b:=nU) LG;exact ah 12 .z [] [.call .z e1,.call .z e2,.call .z hi,.cL .z l1,.cL .z l2] 0x22121 tr
 |some s=>
  haveI hs:=mx hq HI;refine(Option.isSome_iff_exists.mp hs.2.2).elim fun w hw=>?_;rw[hq]at l1;haveI l1:Wh af (d+11) nN sY [some (ee ag ao),some (cF T),some (.int ((ao+P:Nat):Int)),some (.lst (cv N.pat)),some (.int ((bd:Int)+(ao:Int))),some (.bool fo),some (.bool Ao),some (eJ fo aq gr mk'),some (.loc bQ.length),some (jn N.nd),some (.int gr),some (.int ((ao+P:Nat):Int)),some .none,none] (te bQ ⟨aq,gr,mk',fo,ag,ao,T,ao+P,ao+P⟩) .next [some (ee ag ao),some (cF T),some (.int ((ao+P:Nat):Int)),some (.lst (cv N.pat)),some (.int ((bd:Int)+(ao:Int))),some (.bool fo),some (.bool Ao),some (eJ fo aq gr mk'),some (.loc bQ.length),some (jn N.nd),some (.int gr),some (.int j4),some (k4 ao s (EE s)),none] jV:=l1;rw[hw]at l1;cases Ao
  ·refine⟨jV,?_,x1.trans (x2.trans m4.ext)⟩
   haveI LG:Ev af (d+11) nS [some (ee ag ao),some (cF T),some (.int ((ao+P:Nat):Int)),some (.lst (cv N.pat)),some (.int ((bd:Int)+(ao:Int))),some (.bool fo),some (.bool false),some (eJ fo aq gr mk'),some (.loc bQ.length),some (jn N.nd),some (.int gr),some (.int j4),some (k4 ao s (some w)),none] jV (.bool false) jV:=by exact br 11 .z [] [] 0x0 tr
   haveI l2:=Wh.stop (b:=nU) LG;show Run _ _ _ _ _ (jh ao ((EE s).map fun w=>(s,w))) _;rw[vj,hw];exact ah 12 .z [] [.call .z e1,.call .z e2,.call .z hi,.cL .z l1,.cL .z l2] 0x22121 tr
  ·obtain⟨uk,fl,gE,fD,l2,x5,jY⟩:=pZ hE dm P rfl (d+2) EE L4.symm (cF T) (.lst (cv N.pat)) (.int ((bd:Int)+(ao:Int))) (.bool fo) (eJ fo aq gr mk') (jn N.nd) (.int gr) (.int j4) s t4 w none hw (O5 hs.1) m4 (US ht4 mK hs.1 hP);refine⟨uk,?_,x1.trans (x2.trans x5)⟩;show Run _ _ _ _ _ (jh ao ((EE (dO EE s)).map fun w=>(dO EE s,w))) _;rw[vj];rcases jY with rfl|⟨rfl,rfl⟩
   ·exact ah 12 .z [] [.call .z e1,.call .z e2,.call .z hi,.cL .z l1,.cL .z l2] 0x22121 tr
   ·exact ah 12 .z [] [.call .z e1,.call .z e2,.call .z hi,.cL .z l1,.cL .z l2] 0x22121 tr
theorem EO:∀N:Re,N.dep=0->N.wb<=5
 |.atom _=>@fun _=>by simp[Re.Ar]
 |.again _=>@fun _=>by simp[Re.AZ]
 |.either a b=>@fun h=>IL h
 |.group _ a=>@fun h=>Yj h
 |.ba _ _=>@fun _=>(le_refl _)
 |.both a b=>@fun h=>IL h
theorem Gl:∀N:Re,N.dep<=1->N.wb<=25
 |.atom _=>@fun _=>by simp[Re.Ar]
 |.again _=>@fun _=>by simp[Re.AZ]
 |.either a b=>@fun h=>by haveI:=EO a (Dp h);haveI:=EO b (De h);exact Xg this (by assumption)
 |.group _ a=>@fun h=>by haveI:=EO a (M5 h);exact Sb this
 |.ba _ _=>@fun _=>(le_add_left _ _)
 |.both a b=>@fun h=>by haveI h1:=EO a (Dp h);haveI h2:=EO b (De h);exact mul_le_mul h1 h2
theorem Y4:∀N:Re,N.dep<=2->N.wb<=625
 |.atom _=>@fun _=>by simp[Re.Ar]
 |.again _=>@fun _=>by simp[Re.AZ]
 |.either a b=>@fun h=>Rc (Gl b (DQ h)) (Gl a (C6 h))
 |.group _ a=>@fun h=>Ul (Gl a (Lx h))
 |.ba _ _=>@fun _=>(le_add_left _ _)
 |.both a b=>@fun h=>mul_le_mul (Gl a (C6 h)) (Gl b (DQ h))
theorem iZ:∀N:Re,N.need<=N.dep+9
 |.atom _=>by simp only[Re.EK];exact Lg
 |.again _=>by simp only[Re.GK];exact Lg
 |.either a b=>by haveI:=iZ a;simp only[Re.xA];exact I0 (iZ b) (by assumption)
 |.group _ a=>by simp only[Re.yL];exact Nl (iZ a)
 |.ba _ _=>by simp only[Re.yY];exact Rq
 |.both a b=>by haveI:=iZ a;simp only[Re.yB];exact I0 (iZ b) (by assumption)
theorem qE(b:Nat):∀o:List Span,V.pW (o.map fun x=>bz (shift b x)) (o.map fun x=>bz (shift b x))=true
 |[]=>rfl
 |x::r=>by
  haveI h2:V.beq (bz (shift b x)) (bz (shift b x))=true:=by
   cases x with
   |none=>rfl
   |some x=>show((_==_)&&((_==_)&&true))=true;rw[beq_self_eq_true,beq_self_eq_true];rfl
  show(V.beq _ _&&V.pW _ _)=true;exact Rw h2 (Rw (qE b r) rfl)
theorem nY(b:Nat):∀o:List Span,(o.map fun x=>bz (shift b x)).all V.plain1=true
 |[]=>rfl
 |x::r=>by
  haveI h1:=nY b r;haveI h2:V.plain1 (bz (shift b x))=true:=by cases x<;>rfl
  exact Rw map_cons (Rw all_cons (Rw h1 (Rw h2 rfl)))
theorem xI(σ:St)(b:Nat)(r:Option (Nat×Way)):eqv σ (jh b r) (jh b r)=some true:=by
 cases r with
 |none=>rfl
 |some x=>
  obtain⟨s,w⟩:=x;haveI h1:=qE b (some (s,w.1)::w.2);haveI h2:=nY b (some (s,w.1)::w.2);show eqv σ (cT b s w) (cT b s w)=some true;unfold cT;generalize hl:(List.map (fun x=>bz (shift b x)) (some (s,w.1)::w.2))=l at *
  cases l with
  |nil=>cases hl
  |cons y r=>show(if((y::r).all V.plain1&&(y::r).all V.plain1)=true then some (V.pW (y::r) (y::r))else none)=some true;exact Rw h2 (Rw h1 rfl)
theorem mC{N:Re}{gr:Nat}{ag:List Nat}{ao:Nat}(h:Drawn N gr ag ao)(d:Nat)(σ:St)(fo:Bool):qX fun(ab:St) (aq:List Row) (M pe:Nat)=>zj (Run af (d+12) 12 [.lst (cv N.pat),.bool fo] σ (eJ fo aq gr M) ab) (Ext σ ab) (Code (fun pc r=>aq[pc]?=some r) M N 0 pe) (aq.drop pe=[.done]) (aq.length<=1000) (M<=1000):=by refine h.gn.elim fun cl gn=>?_;haveI wM:=Su N h.dep;haveI Bl:=gn.inR 1000 (fun k hk=>by cases hk) (by haveI:=h.zm;exact Jn this);refine cps fun G kG=>?_;obtain⟨bC,e1,x1⟩:=ja d σ N gr cl h.cd (by haveI:=h.len;exact I5 this) gn h.zm (by haveI:=h.dep;exact I6 this);obtain⟨bQ,aq,mk',pe,e2,x2,cW,dm,fY,sA⟩:=sT d bC N gr fo (Jy wM) Bl;refine kG ?_;refine⟨bQ,aq,mk',pe,?_,x1.trans x2,cW,dm,fY,sA⟩;exact ah 12 .z [] [.call .z e1,.call .z e2] 0x221 tr
theorem uu{N:Re}{gr:Nat}{ag:List Nat}{ao:Nat}(h:Drawn N gr ag ao){aq:List Row}{M pe:Nat}(cW:Code (fun pc r=>aq[pc]?=some r) M N 0 pe)(dm:aq.drop pe=[.done])(fY:aq.length<=1000)(sA:M<=1000)
  (d:Nat){σ:St}{T:Nat}(hT:σ[T]?=some (.dict []))(fo:Bool)(P bd:Nat)(hP:P<=ag.length)(pN:bd<=P):∃ab,Run af (d+10) 16 [ee ag ao,cF T,.int ((P:Int)+(ao:Int)),eJ fo aq gr M,.int ((bd:Int)+(ao:Int)),.int ao] σ (jh ao (ir (fun s=>aS (ag.take P) fo N s (List.replicate gr none)) (P+1-bd) P)) ab/\Ext σ ab:=by
 refine h.gn.elim fun cl gn=>?_;haveI hE:hS ⟨aq,gr,M,fo,ag,ao,T,ao,ao+P⟩ N pe cl:=⟨cW,gn,Ir h.zm,sA,fY,h.tl,h.ts,le_add_right _ _,add_le_add_left hP _,h.bs,h.dep⟩
 haveI MY:Env.tx ⟨aq,gr,M,fo,ag,ao,T,ao,ao+P⟩=ag.take P:=by show ag.take (ao+P-ao)=_;rw[add_sub_cancel_left]
 obtain⟨ab,e,x⟩:=Bi hE dm d hT P bd rfl pN;exact Rw (show(P:Int)+(ao:Int)=((ao+P:Nat):Int) by exact KQ) ⟨ab,(MY▸e),x⟩
theorem sg{N:Re}{gr:Nat}{ag:List Nat}{ao:Nat}(h:Drawn N gr ag ao){aq:List Row}{M pe:Nat}(cW:Code (fun pc r=>aq[pc]?=some r) M N 0 pe)(dm:aq.drop pe=[.done])(fY:aq.length<=1000)(sA:M<=1000)
  {T:Nat}(Yr:0≠T)(fo:Bool)(cells:List Int)(hl:cells.length<=40)(v0 v7:V)(ig ij nZ m7:Option V):∀(n i c:Nat) {σ:St} (e5 fD fW f9:Option V),i+n=ag.length+1->c+2*n<=900->σ[0]?=some (.list [.lst (cells.map .int),.int c])->σ[2]?=some (.list [.int gr,.loc 1])->σ[T]?=some (.dict [])->∃ab aB,cg (eU af 39 [5] false xC) (up i n) [some v0,some (.loc 0),some (.loc 2),some (.bool fo),some (.str ag),e5,some N.v,some v7,some (.int ao),some (.lst (cv N.pat)),some (ee ag ao),some (cF T),some (eJ fo aq gr M),fD,fW,f9,ig,ij,nZ,m7] σ .next aB ab
 |0=>@fun i c σ e5 fD fW f9 _ _ _ _ _=>⟨σ,_,cg.nil⟩
 |n+1=>@fun i c σ e5 fD fW f9 hi hc h0 h2 hT=>by
  refine cps fun G kG=>?_;obtain⟨k,k0,k1,d1⟩:=oS 38 σ 0 cells c ((i:Int)+1) h0 (Si hc) hl O0;obtain⟨bd,rfl⟩:∃bd:Nat,k=(bd:Int):=⟨k.toNat,Fc k0⟩;haveI g1:(σ.set 0 (.list [.lst (cells.map .int),.int ((c+1:Nat):Int)]))[0]?=some (.list [.lst (cells.map .int),.int ((c+1:Nat):Int)]):=aV (aH h0);obtain⟨j,j0,j1,d2⟩:=oS 38 _ 0 cells (c+1) 2 g1 (Vq hc) hl (by decide);refine kG ?_;rw[set_set]at d2;have GI:=aH h0;haveI g2:(σ.set 0 (.list [.lst (cells.map .int),.int ((c+1+1:Nat):Int)]))[0]?=some (.list [.lst (cells.map .int),.int ((c+1+1:Nat):Int)]):=aV GI;haveI g3:(σ.set 0 (.list [.lst (cells.map .int),.int ((c+1+1:Nat):Int)]))[2]?=some (.list [.int gr,.loc 1]):=(au (by decide)).trans h2;have g4:(σ.set 0 (.list [.lst (cells.map .int),.int ((c+1+1:Nat):Int)]))[T]?=some (.dict []):=(au Yr).trans hT
  obtain⟨g,hg⟩:∃g:Bool,(j=1/\g=true)\/(¬j=1/\g=false):=by
   by_cases hj:j=1
   ·exact⟨true,.inl ⟨hj,rfl⟩⟩
   ·exact⟨false,.inr ⟨hj,rfl⟩⟩
  refine cps fun G kG=>?_;obtain⟨wc,s1,x1⟩:=uu h cW dm fY sA 29 g4 fo i bd (Ih hi) (HN k1);obtain⟨jV,s2,x2⟩:=xW h 27 (x1 _ _ g4) fo g i bd (Ih hi) (HN k1);refine kG (h.gn.elim fun cl gn=>?_);haveI Bl:=gn.inR gr (fun k hk=>by cases hk) (le_refl _);haveI lO:=Y4 N h.dep;haveI Dd:=iZ N;haveI Gw:=h.dep;haveI Ly:=h.zm;haveI l1:=Df h.ts h.tl Bl (Ir Ly) (Kq lO) (f:=fo) 37 wc i bd ao (R3 Gw Dd) (Ih hi) (HN k1);haveI l2:=yz h.ts h.tl Bl (Ir Ly) (Kq lO) (f:=fo) 37 jV i bd ao g (OU Gw Dd) (Ih hi) (HN k1);obtain⟨ab,aB,ih⟩:=sg h cW dm fY sA Yr fo cells hl v0 v7 ig ij nZ m7 n (i+1) (c+1+1) (some (.int i)) (some (jh ao (i7 (fun s=>aS (ag.take i) fo N s (List.replicate gr none)) i bd g))) (some (.int bd)) (some (.bool g)) (N8 hi) (Oo hc) (x2 _ _ (x1 _ _ g2)) (x2 _ _ (x1 _ _ g3)) (x2 _ _ (x1 _ _ g4));haveI q1:=congrArg (Option.map (!·)) (xI wc ao (ir (fun s=>aS (ag.take i) fo N s (List.replicate gr none)) (i+1-bd) i));haveI q2:eg .ne jV _ _=some false:=congrArg (Option.map (!·)) (xI jV ao (i7 (fun s=>aS (ag.take i) fo N s (List.replicate gr none)) i bd g));haveI u3:=x1 _ _ g3;replace ih:=(Int.natCast_succ i)▸ih;clear Bl lO Dd Gw Ly g1 g2 g3 g4 h0 h2;refine⟨ab,aB,cg.next ?_ ih⟩;rcases hg with⟨hj,rfl⟩|⟨hj,rfl⟩
  ·exact dq 0 .z [.of u3,.of (x2 _ _ u3)] [.call (.put .z _ _) d1,.call (.put .z _ _) d2,.call .z s1,.call .z l1,.call .z s2,.call .z l2] 0x6212262112222 (ai (ai GI tr) (ai (ai GI tr) (ai hj (ai q1 (ai q2 tr)))))
  ·exact dq 0 .z [.of u3,.of (x2 _ _ u3)] [.call (.put .z _ _) d1,.call (.put .z _ _) d2,.call .z s1,.call .z l1,.call .z s2,.call .z l2] 0x6212262112322 (ai (ai GI tr) (ai (ai GI tr) (ai hj (ai q1 (ai q2 tr)))))
theorem node2:NodeOk 2:=Fb 1 (.inr rfl) (Fb 0 (.inl rfl) Me)
theorem Hp(k:Int)(h0:0<=k)(h1:k<4):∃c,Sg c/\fF [97,98,65,10] k=some c:=by
 rcases(Wi h0 h1)with rfl|rfl|rfl|rfl
 ·exact⟨97,.inl rfl,rfl⟩
 ·exact⟨98,.inr (.inl rfl),rfl⟩
 ·exact⟨65,.inr (.inr (.inl rfl)),rfl⟩
 ·exact⟨10,.inr (.inr (.inr rfl)),rfl⟩
theorem t7(cells:List Int)(hl:cells.length<=40)(g:Nat)(cl:List Nat)(e0 e2 e3 e4 e5 e6 e7 e8 e9 j2 jl gE fD fW f9 ig ij nZ m7:Option V):∀(n:Nat) (a:Int) (c:Nat) (acc:List Nat),c+n<=900->acc.length+n<=100->∃ag,(∀x∈ag,Sg x)/\ag.length=n/\bw (bV af 39 yU [17] false (.cst (.bool true)) [e0,some (.loc 0),e2,e3,e4,e5,e6,e7,e8,e9,j2,jl,gE,fD,fW,f9,ig,ij,nZ,m7]) (up a n) (acc.map fun x=>.str [x]) (hp cells c g cl) ((acc++ag).map fun x=>V.str [x]) (hp cells (c+n) g cl)
 |0=>@fun a c acc _ _=>⟨[],fun x hx=>(by cases hx),rfl,by rw[append_nil];exact bw.nil⟩
 |n+1=>@fun a c acc hc ha=>by
  refine cps fun G kG=>?_;obtain⟨k,k0,k1,hk⟩:=ji 38 cells c g cl 4 (Yo hc) hl (by decide);obtain⟨x,hx,LW⟩:=Hp k k0 k1;obtain⟨t,ht,mK,ih⟩:=t7 cells hl g cl e0 e2 e3 e4 e5 e6 e7 e8 e9 j2 jl gE fD fW f9 ig ij nZ m7 n (a+1) (c+1) (acc++[x]) (Uw hc) (Rw length_append (O8 ha));refine kG ⟨x::t,?_,congrArg (· +1) mK,?_⟩
  ·intro y hy;rcases mem_cons.mp hy with rfl|hy
   ·exact hx
   ·exact ht y hy
  ·rw[map_append,append_assoc,show c+1+n=c+(n+1) by exact Jj]at ih;refine bw.some ?_ (by rw[length_map];exact WC ha) ih;exact eW 0 .z [] [.call .z hk,.fF LW] 0x22 tr
theorem mM:∀t:List Nat,gG (t.map fun x=>V.str [x])=some t
 |[]=>rfl
 |a::r=>by rw[map_cons,gG,mM r];rfl
theorem mT:∀t:List Nat,signs t=t.map fun x=>V.str [x]
 |[]=>rfl
 |a::r=>by rw[signs,mT r];rfl
theorem LF(e0 e1 e2 e3 e4 e5 e6 e7 e8 e9 j2 jl gE fD fW f9 ig ij nZ m7:Option V)(σ:St)(t:List Nat)(h:t.length<=1000):bw (bV af 39 tF [18] false (.cst (.bool true)) [e0,e1,e2,e3,e4,e5,e6,e7,e8,e9,j2,jl,gE,fD,fW,f9,ig,ij,nZ,m7]) (signs t) [] σ (cv t) σ:=by
 haveI:=bw.map (step:=bV af 39 tF [18] false (.cst (.bool true)) [e0,e1,e2,e3,e4,e5,e6,e7,e8,e9,j2,jl,gE,fD,fW,f9,ig,ij,nZ,m7]) (σ:=σ) (i:=fun x:Nat=>V.str [x]) (g:=fun x:Nat=>V.int x) t [] (fun x y_=>by
  exact eW 0 .z [] [] 0x0 tr) (L9 h)
 rw[<-mT]at this;exact this
theorem Md(e0 e1 e2 e3 e4 e5 e6 e7 e8 e9 j2 jl gE fD fW f9 ig ij nZ m7:Option V)(σ:St)(t:List Nat)(h:t.length<=1000):bw (bV af 39 so [19] false (.cst (.bool true)) [e0,e1,e2,e3,e4,e5,e6,e7,e8,e9,j2,jl,gE,fD,fW,f9,ig,ij,nZ,m7]) (signs t) [] σ (cv t) σ:=by haveI:=bw.map (step:=bV af 39 so [19] false (.cst (.bool true)) [e0,e1,e2,e3,e4,e5,e6,e7,e8,e9,j2,jl,gE,fD,fW,f9,ig,ij,nZ,m7]) (σ:=σ) (i:=fun x:Nat=>V.str [x]) (g:=fun x:Nat=>V.int x) t [] (fun x y_=>eW 0 .z [] [] 0x0 tr) (L9 h);rw[<-mT]at this;exact this
theorem xZ(e0 e1 e2 e3 e4 e5 e6 e7 e8 e9 j2 jl gE fD fW f9 ig ij nZ m7:Option V)(ns:List Int):bw (bV af 39 tv [16] false (.cst (.bool true)) [e0,e1,e2,e3,e4,e5,e6,e7,e8,e9,j2,jl,gE,fD,fW,f9,ig,ij,nZ,m7]) ((ns.map V.int).take 40) [] [] (((ns.take 40).map fun k=>(k.natAbs:Int)).map V.int) []:=by haveI:=bw.map (step:=bV af 39 tv [16] false (.cst (.bool true)) [e0,e1,e2,e3,e4,e5,e6,e7,e8,e9,j2,jl,gE,fD,fW,f9,ig,ij,nZ,m7]) (σ:=[]) (i:=fun k:Int=>V.int k) (g:=fun k:Int=>V.int (k.natAbs:Int)) (ns.take 40) [] (fun x y_=>eW 0 .z [] [] 0x0 tr) (Rw length_take TX);exact Lw map_take (Rw map_map this)
theorem Dl(ns:List Int)(DD:ns.length<=63):∃ab,Run af 40 28 [.lst (ns.map .int)] [] (.bool true) ab:=by
 haveI II:fp (.lst (ns.map V.int)) .none (.int 40)=some (.lst ((ns.map V.int).take 40)):=congrArg (Option.map V.lst) (ro (by rw[length_map];exact U9 DD) 40);haveI wQ:=xZ (some (.lst (ns.map .int))) none none none none none none none none none none none none none none none none none none none ns;generalize GF:((ns.take 40).map fun k=>(k.natAbs:Int))=cells at wQ;have hl:cells.length<=40:=by rw[<-GF,length_map,length_take];exact UW
 clear GF;obtain⟨N,c,gr,cl,gn,dep,pl,hc,hg,dE,tL⟩:=node2 34 cells 0 0 [] (by decide) hl (by decide) (fun k hk=>by cases hk) (by decide);have FZ:c<=7:=S4 hc;haveI ZG:gr<=3:=RC hg.2.1;clear hc hg;obtain⟨f,f0,f1,hf⟩:=ji 38 cells c gr cl 3 (QE FZ) hl (by decide)
 obtain⟨fo,hfo⟩:∃g:Bool,(f=0/\g=true)\/(¬f=0/\g=false):=by
  by_cases hj:f=0
  ·exact⟨true,.inl ⟨hj,rfl⟩⟩
  ·exact⟨false,.inr ⟨hj,rfl⟩⟩
 refine cps fun G kG=>?_;obtain⟨n,n0,n1,hn⟩:=ji 38 cells (c+1) gr cl 5 (QO FZ) hl (by decide);obtain⟨n,rfl⟩:∃m:Nat,n=(m:Int):=⟨n.toNat,Fc n0⟩;obtain⟨ag,ts,tl,J3⟩:=t7 cells hl gr cl (some (.lst (ns.map .int))) (some (.loc 2)) (some (.bool fo)) none none (some N.v) (some (.str N.pat)) none none none none none none none none none none none none n 0 (c+1+1) [] (Pq n1 FZ) (TF n1);obtain⟨b,b0,b1,hb⟩:=ji 38 cells (c+1+1+n) gr cl 3 (Xj n1 FZ) hl (by decide);obtain⟨ao,rfl⟩:∃ao:Nat,b=(ao:Int):=⟨b.toNat,Fc b0⟩;have dr:Drawn N gr ag ao:=⟨⟨cl,gn⟩,Ue ZG,dep,RK pl,ts,QS n1 tl,U8 b1⟩;obtain⟨c9,LM⟩:∃c9,c9=c+1+1+n+1:=⟨_,rfl⟩;refine kG ?_;rw[<-LM]at hb;refine cps fun G kG=>?_;obtain⟨σc,aq,M,pe,Sq,xc,cW,dm,fY,sA⟩:=mC dr 27 (hp cells c9 gr cl++[O.dead]++[O.dead]++[O.dict []]) fo;haveI e0:=xc 0 _ rfl;haveI e2:=xc 2 _ rfl;haveI e5:=xc 5 _ rfl;obtain⟨ab,aB,dj⟩:=sg dr cW dm fY sA (by decide) fo cells hl (.lst (ns.map .int)) (.str N.pat) none none none none (ag.length+1) 0 c9 none none none none (zero_add _) (TY n1 tl LM FZ) e0 e2 e5;refine kG ⟨ab,?_⟩;haveI Kf:=cZ P5 (T1 n1 tl);haveI EZ:(ag.map fun x=>V.str [x]).length<=1000000/\ag.length<=1000000:=by rw[length_map];exact WE n1 tl
 haveI mK:=EZ.2;haveI ap:=all_eq_true.mpr fun x hx=>decide_eq_true (dr.cd.1 x hx);haveI at':=all_eq_true.mpr fun x hx=>decide_eq_true (ts x hx).lt;haveI GR:(cv ag).length<=1000000:=by rw[bF];exact W7 mK
 haveI o2:=LF (some (.lst (ns.map .int))) (some (.loc 0)) (some (.loc 2)) (some (.bool fo)) (some (.str ag)) none (some N.v) (some (.str N.pat)) none none none none none none none none none none none none (hp cells c9 gr cl) N.pat (Yk pl);haveI o3:=Md (some (.lst (ns.map .int))) (some (.loc 0)) (some (.loc 2)) (some (.bool fo)) (some (.str ag)) none (some N.v) (some (.str N.pat)) (some (.int ao)) (some (.lst (cv N.pat))) none none none none none none none none none none (hp cells c9 gr cl) ag (Sk n1 tl);clear e0 e2 e5 ts tl cW dm fY sA xc dr LM dE gn dep pl;rcases hfo with⟨hj,rfl⟩|⟨hj,rfl⟩
 ·exact ah 2 .z [] [.dV II,.eI .z wQ,.call .z tL,.call .z hf,.call .z hn,.eI .z J3,.join (mM ag),.call .z hb,.eI .z o2,.eI .z o3,.call .z Sq,.md .z dj] 0x2212212121221212121111211121112111222222222221 (ai hj (ai (cZ fA (Kr n1)) (ai (ai (show(List.map (fun(x:Nat)=>V.str (x::jd)) (jd++ag)).length<=1000000 from(by simp[*])) mK) (ai ap (ai at' (ai GR (ai mK (ai Kf tr))))))))
 ·exact ah 2 .z [] [.dV II,.eI .z wQ,.call .z tL,.call .z hf,.call .z hn,.eI .z J3,.join (mM ag),.call .z hb,.eI .z o2,.eI .z o3,.call .z Sq,.md .z dj] 0x2212212121221212121111211121112111222222322221 (ai hj (ai (cZ fA (Kr n1)) (ai (ai (show(List.map (fun(x:Nat)=>V.str (x::jd)) (jd++ag)).length<=1000000 from(by simp[*])) mK) (ai ap (ai at' (ai GR (ai mK (ai Kf tr))))))))
section
open PySem PySem.W PySem.Calls PyProof.Rows
noncomputable def F0:Nm:=⟨fun i=>Str.ofString (fnName i),fun i=>Str.ofString (clsName i),fun i=>Str.ofString (constName i),fun i=>decide (i<29),fun i=>decide (i<15)⟩
noncomputable def refOf(o:Option (Option Value)):Addr:=match o with
 |some (some (.ref a))=>a
 |_=>0
noncomputable def jj(K:Frag)(c:Nat):Nat:=refOf (nsIn K mainGlobals (Str.ofString (clsName c)))
noncomputable def tabOf(K:Frag):Tab:=⟨jj K,fun i=>Str.ofString (hZ i),67,9⟩
noncomputable def fQ(K:Frag)(f:Nat):Nat:=if f<29 then refOf (nsIn K mainGlobals (Str.ofString (fnName f)))else refOf (findIn K (.ref (jj K (FP (f-B3)))) (Str.ofString (CP (f-B3))))
noncomputable def iH(f:Nat):List (Str×Nat):=(EM f).map fun p=>(Str.ofString p.1,p.2)
noncomputable def fI(p:Nat->Bool)(n:Nat):Bool:=Nat.rec true (fun n f=>f&&p n) n
theorem bN{p:Nat->Bool}{n:Nat}(e:fI p n=true)(i:Nat)(h:i<n):p i=true:=by
 induction n with
 |zero=>exact absurd h (not_lt_zero i)
 |succ n ih=>
  rcases Nat.lt_succ_iff_lt_or_eq.mp h with h|rfl
  ·exact ih (aL e) h
  ·exact aR e
noncomputable def nameAt(K:Frag)(f:Nat):Bool:=nsIn K mainGlobals (Str.ofString (fnName f))==some (some (.ref (fQ K f)))
noncomputable def constAt(K:Frag)(g:Nat):Bool:=match nsIn K mainGlobals (Str.ofString (constName g))with
 |some (some v)=>Ie K (k7 g) v
 |_=>false
noncomputable def Gj(K:Frag):Bool:=fI (fun f=>Ku K (tabOf K) F0 af (fQ K) iH f&&keepIn K (.ref (fQ K f))) 80&&
 (fI (fun c=>AL K (tabOf K) af (fQ K) c&&((nsIn K mainGlobals (Str.ofString (clsName c))==some (some (.ref (jj K c))))&&keepIn K (.ref (jj K c)))) 9&&
 (fI (nameAt K) 29&&(fI (constAt K) 15&&lB.all (fun x=>nsIn K mainGlobals x==some none))))
theorem Iu:fI (fun i=>fI (fun j=>!(Str.ofString (hZ i)==Str.ofString (hZ j))) i) 67=true:=by kernel_rfl
theorem xj{l:List (Nat×Nat)}{k f:Nat}(h:l.lookup k=some f):(k,f)∈l:=by
 induction l with
 |nil=>exact nn h
 |cons p l ih=>
  obtain⟨j,g⟩:=p;rw[lookup_cons]at h
  cases e:k==j with
  |true=>rw[e]at h;rw[eq_of_beq e,Option.some.inj h];exact mem_cons_self
  |false=>rw[e]at h;exact mem_cons_of_mem _ (ih h)
theorem t9(c k f:Nat)(h:af.aC c k=some f):k<67/\f<80:=by
 have m:(k,f)∈List.getD lp c []:=xj h;have hr:∀r∈lp,∀p∈r,p.1<67/\p.2<80:=by decide
 rw[List.getD_eq_getElem?_getD]at m
 cases e:lp[c]? with
 |none=>rw[e]at m;cases m
 |some r=>rw[e]at m;exact hr r (List.mem_of_getElem? e) _ m
theorem Ew(c:Nat)(h:c<9):af.init c<80:=by
 have:∀c:_root_.Fin 9,yr c.val<80:=by decide
 exact this ⟨c,h⟩
theorem ET{K:Frag}(hK:Gj K=true){B:Heap}{p:Program}{loose:List Str}{mg mb:Str->Option Value}(X:K.In B)(R:TopRead p loose mg mb B):I3 K (tabOf K) F0 af (fQ K) B p loose mg mb:=by
 have hf:∀f,f<80->kJ K (tabOf K) F0 af (fQ K) B f/\keepIn K (.ref (fQ K f))=true:=fun f h=>⟨HP X (aL (bN (aL hK) f h)),aR (bN (aL hK) f h)⟩;replace hK:=aR hK
 have hc:∀c,c<9->jG K (tabOf K) af (fQ K) c/\nsIn K mainGlobals (Str.ofString (clsName c))=some (some (.ref (jj K c)))/\keepIn K (.ref (jj K c))=true:=fun c h=>
  ⟨FA (fun k f e=>(t9 c k f e).1) (aL (bN (aL hK) c h)),eq_of_beq (aL (aR (bN (aL hK) c h))),aR (aR (bN (aL hK) c h))⟩
 replace hK:=aR hK;have Oi:∀f,decide (f<29)=true->f<80:=fun f h=>lt_of_lt_of_le (of_decide_eq_true h) (by decide);refine⟨⟨fun i j hi hj e=>?_,fun c h=>(hc c h).1,R,X,fun f h=>⟨eq_of_beq (bN (aL hK) f (of_decide_eq_true h)),(hf f (Oi f h)).2⟩,fun c k f _ h=>(hf f (t9 c k f h).2).2,fun c h=>(hc c h).2,fun g h=>?_,fun x hx=>?_⟩,fun f h=>(hf f (Oi f h)).1,fun c k f _ h=>(hf f (t9 c k f h).2).1,fun c h=>(hf _ (Ew c h)).1⟩
 ·have e':Str.ofString (hZ i)=Str.ofString (hZ j):=e
  have jW:∀a b,a<67->b<a->Str.ofString (hZ a)=Str.ofString (hZ b)->False:=fun a b ha hb q=>by have:=bN (bN Iu a ha) b hb;rw[q]at this;simp at this
  rcases Nat.lt_trichotomy i j with h|h|h
  ·exact(jW j i hj h e'.symm).elim
  ·exact h
  ·exact(jW i j hi h e').elim
 ·have go:∀o,nsIn K mainGlobals (Str.ofString (constName g))=o->(match o with|some (some v)=>Ie K (k7 g) v|_=>false)=true->∃v,nsIn K mainGlobals (Str.ofString (constName g))=some (some v)/\Rel (tabOf K) bG [] B (k7 g) v:=fun o e h=>by
   cases o with
   |none=>exact absurd h Bool.false_ne_true
   |some o=>cases o with
    |none=>exact absurd h Bool.false_ne_true
    |some v=>exact⟨v,e,xP X _ _ h⟩
  exact go _ rfl (bN (aL (aR hK)) g (of_decide_eq_true h))
 ·exact eq_of_beq ((all_eq_true.mp (aR (aR hK))) x hx)
theorem r9{P:Params}{T:Tab}{h:Heap}:∀{ns:List Int} {vs:List Value},WellAll P h vs (ofPys (ns.map PyData.int))->bj T bG [] h (ns.map .int) vs
 |[],vs,q=>by replace q:WellAll P h vs []:=q;cases q;rfl
 |n::ns,vs,q=>by
  replace q:WellAll P h vs (.int n::ofPys (ns.map PyData.int)):=q
  cases q with
  |cons a r=>cases a with
   |int i t=>exact⟨_,_,rfl,⟨t,rfl⟩,r9 r⟩
theorem A4{P:Params}{T:Tab}{h:Heap}{l:Addr}{ns:List Int}(q:Well P h (.ref l) (ofPy (PyData.list (ns.map PyData.int)))):Rel T bG [] h (.lst (ns.map .int)) (.ref l):=by
 replace q:Well P h (.ref l) (.list (ofPys (ns.map PyData.int))):=q
 cases q with
 |list e r=>exact⟨l,_,0,rfl,gw l,e,r9 r⟩
theorem CN:ph 40 callerA:=⟨rfl,by decide,by decide⟩
theorem M8{K:Frag}(hK:Gj K=true){p:Program}{w:World}{s:Shared}{p':Program}{loose:List Str}{mg mb:Str->Option Value}{ns:List Int}{l:Addr}{fa:Addr}{Q E:Value->Shared->Prop}
  (X:K.In s.heap)(R:TopRead p' loose mg mb s.heap)(hm:mg (Str.ofString "law")=some (.ref fa))(hg:mg (Str.ofString "law")=some (.ref (fQ K 28)))(hw:Well w.params s.heap (.ref l) (ofPy (PyData.list (ns.map PyData.int))))(hl:ns.length<=63)
  (hQ:∀h' tk',(∀b o,s.heap.get? b=some o->h'.get? b=some o)->Q (.bool true) {s with heap:=h',toks:=tk'}):wpAny (model p w) callerA (call (.ref fa) [.ref l]) Q E s:=by
 cases hm.symm.trans hg;have Y:=ET hK X R;obtain⟨ab,e⟩:=Dl ns hl;have D:Dy (tabOf K) s.heap bG [] s.heap []:=⟨⟨rfl,fun n o e=>by simp at e,fun n e=>by simp at e,fun n m p q e=>by simp at e,fun a z=>z.elim,fun a z=>z.elim⟩,fun _ _ e=>e,fun b o _=>gw b⟩;refine wpAny_call (e ⟨Y⟩ (Y.K2 28 rfl) callerA s bG [] [.ref l] _ CN D ⟨_,[],rfl,A4 hw,rfl⟩ fun v' aA h' tk' rv S g=>?_);obtain rfl:=rv;exact hQ h' tk' fun b o q=>g.keep b o q (fun m=>gw b (.inr m)) fun z=>z
theorem YM{K:Frag}(hK:Gj K=true):nsIn K mainGlobals (Str.ofString (fnName 28))=some (some (.ref (fQ K 28))):=eq_of_beq (bN (aL (aR (aR hK))) 28 (by decide))
end
end Internal
namespace Mine.main
abbrev T:=True
theorem t:T:=⟨⟩
theorem tw201785279612525096:T:=t
theorem tw1826063270500772765:T:=t
theorem tw11156056980113079860:T:=t
theorem tw6335548499109216452:T:=t
theorem tw11559906213219033761:T:=t
theorem tw6957505804789085801:T:=t
theorem tw4438296763453613264:T:=t
theorem tw2334679739580974275:T:=t
theorem tw16826212616301561204:T:=t
theorem tw3715236941196563765:T:=t
theorem tw8323696390020096311:T:=t
theorem tw13102006392531624933:T:=t
theorem tw10058961254497489687:T:=t
theorem tw10791763240276692219:T:=t
theorem tw4232100256623113705:T:=t
theorem tw17270198782204537913:T:=t
theorem tw12677648124622752472:T:=t
theorem tw18349286408798932565:T:=t
theorem tw15106086368559299926:T:=t
theorem tw11766775441595122984:T:=t
theorem tw1151946252083901208:T:=t
theorem tw748011227583169745:T:=t
theorem tw6785432497481299714:T:=t
theorem tw4908570168794737769:T:=t
theorem tw16543054803975587047:T:=t
theorem tw6210118697743288655:T:=t
theorem tw1519992759497675636:T:=t
theorem tw13077236301305049449:T:=t
theorem tw15387884906608193903:T:=t
theorem tw12747388180105724736:T:=t
theorem tw6788695710022549768:T:=t
theorem tw7093617532817203218:T:=t
theorem tw11595507254763858292:T:=t
theorem tw1541561904098433910:T:=t
theorem tw10483362588635715401:T:=t
theorem tw7238065321881607702:T:=t
theorem tw16396084126727719574:T:=t
theorem tw1118068078248606362:T:=t
theorem tw8528285597010949478:T:=t
theorem tw11416931114567727565:T:=t
theorem tw10334261112615635914:T:=t
theorem tw12574995316784493246:T:=t
theorem tw15847309855283100339:T:=t
theorem tw10896356407431480244:T:=t
theorem tw613567027398061577:T:=t
theorem tw6907636171062424033:T:=t
theorem tw13724616953566380437:T:=t
theorem tw16320729459185622934:T:=t
theorem tw15270170921892066516:T:=t
theorem tw18190005008629794160:T:=t
theorem tw18284262389922463811:T:=t
theorem tw11135027115929721415:T:=t
theorem tw18218335207050127959:T:=t
theorem tw13260870731297125680:T:=t
theorem tw6966217369100829427:T:=t
theorem tw17767330081159143506:T:=t
theorem tw4884259658700997606:T:=t
theorem tw9903775340124721222:T:=t
theorem tw7647378279178456250:T:=t
theorem tw892681787802806017:T:=t
theorem tw14798791472264738832:T:=t
theorem tw1454224541498743561:T:=t
theorem tw8546124895413445307:T:=t
theorem tw4156125974679941130:T:=t
theorem tw9899280244813981974:T:=t
theorem tw15023316991559800185:T:=t
theorem tw3314904115985164895:T:=t
theorem tw16008252555379753968:T:=t
theorem tw6162249291895867263:T:=t
theorem tw15079240505294077160:T:=t
theorem tw14635473669698735251:T:=t
theorem tw1270039299266317192:T:=t
theorem tw2402762420636078793:T:=t
theorem tw480701840831765632:T:=t
theorem tw14771111431291430275:T:=t
theorem tw17262041522474090127:T:=t
theorem tw12751799325998411230:T:=t
theorem tw1027651156746619712:T:=t
theorem tw17236958762192778904:T:=t
theorem tw7235775444256392728:T:=t
theorem tw10821422270917381399:T:=t
theorem tw6519269512792494810:T:=t
theorem tw15397788492017642998:T:=t
theorem tw15672986146971166658:T:=t
theorem tw2496676261509829067:T:=t
theorem tw11712081513822626495:T:=t
theorem tw799486724532869496:T:=t
theorem tw2007339730380871907:T:=t
theorem tw14907226015203709474:T:=t
theorem tw5287059835090251167:T:=t
theorem tw17067035981215421688:T:=t
theorem tw7691172733374981047:T:=t
theorem tw17904854198161793398:T:=t
theorem tw6044114016751833949:T:=t
theorem tw12748397558918655664:T:=t
theorem tw10665469846841522134:T:=t
theorem tw11001617756164336837:T:=t
theorem tw10825838108423173272:T:=t
theorem tw12564604832814323664:T:=t
theorem tw9808303207383738048:T:=t
theorem tw9368617206455126095:T:=t
theorem tw16022572192331126682:T:=t
theorem tw6886502059237256666:T:=t
theorem tw14788915703135433725:T:=t
theorem tw12996210369387030096:T:=t
theorem tw15303317825217679618:T:=t
theorem tw9714977183291863813:T:=t
theorem tw15365013842991253249:T:=t
theorem tw4310270188432123100:T:=t
theorem tw7173623326730630234:T:=t
theorem tw4585930131862741453:T:=t
theorem tw18403998269306519403:T:=t
theorem tw10652863235454686790:T:=t
theorem tw12346658559823942425:T:=t
theorem tw5838101520590548733:T:=t
theorem tw5571399437266216444:T:=t
theorem tw6660377722381337597:T:=t
theorem tw6404898279339705064:T:=t
theorem tw14492832472218066102:T:=t
theorem tw4458048076830672230:T:=t
theorem tw9381886862466946253:T:=t
theorem tw9392487213469676918:T:=t
theorem tw14443092014599818573:T:=t
theorem tw6981815665589151136:T:=t
theorem tw1046443281632482020:T:=t
theorem tw9190990891756207365:T:=t
theorem tw6516198228755648517:T:=t
theorem tw15467891735981029475:T:=t
theorem tw4047586217144654443:T:=t
theorem tw8627561154394265716:T:=t
theorem tw14603179451721338413:T:=t
theorem tw11692516046256081784:T:=t
theorem tw15136431859952498927:T:=t
theorem tw8681388529863501421:T:=t
theorem tw3299218664060906527:T:=t
theorem tw12922898485456448571:T:=t
theorem tw4297412468100583042:T:=t
theorem tw10750994468655217958:T:=t
theorem tw12273490649430754879:T:=t
theorem tw10453263994017694363:T:=t
theorem tw4261964983698606537:T:=t
theorem tw2058021452347087232:T:=t
theorem tw11987853993630220354:T:=t
theorem tw9957550378297406723:T:=t
theorem tw13980345723018547825:T:=t
theorem tw3627144658338631552:T:=t
theorem tw17699438841360665129:T:=t
theorem tw15060185592220127646:T:=t
theorem tw10652611922669240339:T:=t
theorem tw3779293765908593550:T:=t
theorem tw8127475511531132179:T:=t
theorem tw9483120023164983764:T:=t
theorem tw8466321980469482115:T:=t
theorem tw471287901995484742:T:=t
theorem tw12431731261707249289:T:=t
theorem tw10391951854915411234:T:=t
theorem tw13590572293223372214:T:=t
theorem tw7875838824674609581:T:=t
theorem tw16819838333489098493:T:=t
theorem tw1099256609624015869:T:=t
theorem tw2906824675625879941:T:=t
theorem tw11403970630465759474:T:=t
theorem tw14504180641510445567:T:=t
theorem tw13797323745857372409:T:=t
theorem tw7904437144335635152:T:=t
theorem tw2750411421705246143:T:=t
theorem tw12702744160499308131:T:=t
theorem tw10101900104965146230:T:=t
theorem tw1678875084529416142:T:=t
theorem tw12139096438432415106:T:=t
theorem tw9069182735580402390:T:=t
theorem tw14168887731352723522:T:=t
theorem tw10094358506670053839:T:=t
theorem tw6542085627976250192:T:=t
theorem tw8634654232796393261:T:=t
theorem tw11349898740250378076:T:=t
theorem tw16757190730947197508:T:=t
theorem tw1157997071576566072:T:=t
theorem tw7761410557224570781:T:=t
theorem tw6389877041954997217:T:=t
theorem tw18315214858253571532:T:=t
theorem tw5665406974723832613:T:=t
theorem tw6053611964639427726:T:=t
theorem tw10092017014551392330:T:=t
theorem tw2900998541784483753:T:=t
theorem tw17268439761433841065:T:=t
theorem tw5234446048077146213:T:=t
theorem tw854977524454699277:T:=t
theorem tw4644634924443464280:T:=t
theorem tw9189880136782149556:T:=t
theorem tw15485851114877660061:T:=t
theorem tw7298748307773712898:T:=t
theorem tw2337230598321646361:T:=t
theorem tw9976160756891316704:T:=t
theorem tw12992176717851604617:T:=t
theorem tw3864431920445960829:T:=t
theorem tw5797031442667253490:T:=t
theorem tw6855474311058116810:T:=t
theorem tw15565075772751903193:T:=t
theorem tw2629084897520917108:T:=t
theorem tw16218864148678617972:T:=t
theorem tw8729708805864041840:T:=t
theorem tw15350898050860989542:T:=t
theorem tw5585478044538960755:T:=t
theorem tw16544489699163171333:T:=t
theorem tw372505627349444580:T:=t
theorem tw6639522245352263942:T:=t
theorem tw12987577155417789579:T:=t
theorem tw8265370782698574782:T:=t
theorem tw14554314840745968623:T:=t
theorem tw6384028539975533837:T:=t
theorem tw302440914744352476:T:=t
theorem tw6898400011967081535:T:=t
theorem tw5160751907100791332:T:=t
theorem tw11614107205274993552:T:=t
theorem tw8946600394249824182:T:=t
theorem tw6183352029847204284:T:=t
theorem tw18288009448212308685:T:=t
theorem tw10177057350305019805:T:=t
theorem tw5396361742852586263:T:=t
theorem tw11982392923317675503:T:=t
theorem tw6674893403203295414:T:=t
theorem tw4719957520787936630:T:=t
theorem tw7884273913378172499:T:=t
theorem tw7624293977416268664:T:=t
theorem tw3867218068155391060:T:=t
theorem tw7639352225515584698:T:=t
theorem tw7010351842590255796:T:=t
theorem tw6785657489111691699:T:=t
theorem tw7299474751278700455:T:=t
theorem tw13777938177461255882:T:=t
theorem tw6449824600675878752:T:=t
theorem tw16357356043003861740:T:=t
theorem tw2278972029675796859:T:=t
theorem tw9321267617633783869:T:=t
theorem tw18385570937342765463:T:=t
theorem tw18162592725011693541:T:=t
theorem tw3203809635103463919:T:=t
theorem tw15097543051748444868:T:=t
theorem tw4491334807805099456:T:=t
theorem tw10363585996791799541:T:=t
theorem tw14814594519894181452:T:=t
theorem tw9558744834307401277:T:=t
theorem tw7019240024125815769:T:=t
theorem tw451873465583785326:T:=t
theorem tw13972245371655741198:T:=t
theorem tw9730157408454304684:T:=t
theorem tw17708487481403421675:T:=t
theorem tw2456247091588846565:T:=t
theorem tw244467455267321384:T:=t
theorem tw18031918436515192882:T:=t
theorem tw16102231251864390963:T:=t
theorem tw7929128423345735474:T:=t
theorem tw5450094653865882931:T:=t
theorem tw4637267157515435788:T:=t
theorem tw9268297945177815525:T:=t
theorem tw13148611719377898607:T:=t
theorem tw7439787175107056256:T:=t
theorem tw13642826006792871662:T:=t
theorem tw7153082081811710619:T:=t
theorem tw12653679108036650311:T:=t
theorem tw12027323910402764344:T:=t
theorem tw10450603732522932521:T:=t
theorem tw17679725944135375923:T:=t
theorem tw2428412748925179849:T:=t
theorem tw13306352142949925410:T:=t
theorem tw4749052000479324790:T:=t
theorem tw588950844065142505:T:=t
theorem tw5831584030425509755:T:=t
theorem tw15059693217772790739:T:=t
theorem tw9670510015898674028:T:=t
theorem tw12298629886278197574:T:=t
theorem tw17146568849442343683:T:=t
theorem tw14562738103837258888:T:=t
theorem tw7884331609784382070:T:=t
theorem tw10123989817122485451:T:=t
theorem tw17561526911342447988:T:=t
theorem tw2238316416991798583:T:=t
theorem tw16049902774474827687:T:=t
theorem tw9682133043923132273:T:=t
theorem tw1318968915056948652:T:=t
theorem tw6511744376749373798:T:=t
theorem tw73751810991705359:T:=t
theorem tw18063282731904131703:T:=t
theorem tw8046773169563483271:T:=t
theorem tw2704602940660078815:T:=t
theorem tw833945537157984683:T:=t
theorem tw4258463428174104133:T:=t
theorem tw7411558596216406370:T:=t
theorem tw17453503289922162039:T:=t
theorem tw16411370214107742406:T:=t
theorem tw1628013610222277130:T:=t
theorem tw16923884221124529275:T:=t
theorem tw16193401482309157537:T:=t
theorem tw11646826074482590764:T:=t
theorem tw17695171507069755227:T:=t
theorem tw14027531716089632829:T:=t
theorem tw4605139254293405059:T:=t
theorem tw9265829497004654079:T:=t
theorem tw12361340156312767134:T:=t
theorem tw918671981122897330:T:=t
theorem tw8844999433837080629:T:=t
theorem tw8809968196449919288:T:=t
theorem tw6565609875121592624:T:=t
theorem tw6237627108579964202:T:=t
theorem tw6087835443962453003:T:=t
theorem tw3027586509356016917:T:=t
theorem tw1886080085820668685:T:=t
theorem tw1714950047550659301:T:=t
theorem tw16952715711813285254:T:=t
theorem tw1615045767204293396:T:=t
theorem tw15510692781650021527:T:=t
theorem tw14390754486103292620:T:=t
theorem tw14097447854668400296:T:=t
theorem tw13157206579259725088:T:=t
theorem tw1261021989165538067:T:=t
theorem tw11410963132546700228:T:=t
theorem tw10169072693733980587:T:=t
theorem tw8989776476301544223:T:=t
theorem tw7699798408344515789:T:=t
theorem tw9121559901702372667:T:=t
theorem tw10234815189450012239:T:=t
theorem tw1777545030009416734:T:=t
theorem tw16251939892948500945:T:=t
theorem tw8060562821785662972:T:=t
theorem tw6788530277367551627:T:=t
theorem tw1142173933681417890:T:=t
theorem tw10418042200766032776:T:=t
theorem tw15624239662980076321:T:=t
theorem tw14218914174604095658:T:=t
theorem tw7358942708152152329:T:=t
theorem tw7083192437325867461:T:=t
theorem tw6584820252761975732:T:=t
theorem tw54841869916938688:T:=t
theorem tw18421580907717582127:T:=t
theorem tw18120430973489738927:T:=t
theorem tw14216407083858561409:T:=t
theorem tw10564528347858357063:T:=t
theorem tw4038153913678941442:T:=t
theorem tw13187166440333854079:T:=t
theorem tw6075091234017535682:T:=t
theorem tw5638201095994319732:T:=t
theorem tw5363903885879670357:T:=t
theorem tw4139100593308808776:T:=t
theorem tw2965820268544440810:T:=t
theorem tw2341703837736514645:T:=t
theorem tw14640416626631428029:T:=t
theorem tw14489535830319231195:T:=t
theorem tw2406621943657119228:T:=t
theorem tw9512817274939609580:T:=t
theorem tw8834365191522931223:T:=t
theorem tw7846812961960373227:T:=t
theorem tw7751025194823839400:T:=t
theorem tw7623509227018997848:T:=t
theorem tw7237411587787531456:T:=t
theorem tw7214478077546791972:T:=t
theorem tw7165207203227711834:T:=t
theorem tw6596593509180878263:T:=t
theorem tw6385024630547198690:T:=t
theorem tw5456330333991267789:T:=t
theorem tw453184122279072053:T:=t
theorem tw4216741518440994707:T:=t
theorem tw3934531018447913466:T:=t
theorem tw3466206800631347469:T:=t
theorem tw3343439749351644125:T:=t
theorem tw2744014450722944760:T:=t
theorem tw2225956059507018244:T:=t
theorem tw18392154025008590481:T:=t
theorem tw18238007617527299592:T:=t
theorem tw17563168436475441343:T:=t
theorem tw17477492558424962760:T:=t
theorem tw17402982504261768225:T:=t
theorem tw17298425922696826006:T:=t
theorem tw17275675667316583603:T:=t
theorem tw17016820405989369747:T:=t
theorem tw16790050636404226231:T:=t
theorem tw16689149305811164139:T:=t
theorem tw16153842264607907944:T:=t
theorem tw15957597259013190341:T:=t
theorem tw15109750227778091905:T:=t
theorem tw14368271195830560734:T:=t
theorem tw14364048958407549093:T:=t
theorem tw13676971244355772609:T:=t
theorem tw13591255225166038476:T:=t
theorem tw13547569757486424058:T:=t
theorem tw13406003279186336099:T:=t
theorem tw1289389943133740499:T:=t
theorem tw12741544251441588921:T:=t
theorem tw12732289081945773324:T:=t
theorem tw12130321265151566525:T:=t
theorem tw11388154006635350966:T:=t
theorem tw11020365191643786025:T:=t
theorem tw10953687544409504101:T:=t
theorem tw10813080517026676716:T:=t
theorem tw12431561837914552411:T:=t
theorem tw17096532924672817327:T:=t
theorem tw6801380410627298636:T:=t
theorem tw7590696779544312186:T:=t
theorem tw5102693214775723256:T:=t
theorem tw13293747886898857621:T:=t
theorem tw10707853282979444102:T:=t
theorem tw8484041278411425421:T:=t
theorem tw7268301785047649679:T:=t
theorem tw6690441779611380620:T:=t
theorem tw6455149578367423246:T:=t
theorem tw6334894449686545209:T:=t
theorem tw4026956272090484662:T:=t
theorem tw3288582142898991060:T:=t
theorem tw1850612553970854742:T:=t
theorem tw17871620999419790863:T:=t
theorem tw17456035664235451855:T:=t
theorem tw16765925921980633802:T:=t
theorem tw15970538086172389420:T:=t
theorem tw15734660467963936456:T:=t
theorem tw14539993770535171780:T:=t
theorem tw13713940216889387898:T:=t
theorem tw13313126695403321540:T:=t
theorem tw11857135199678951331:T:=t
theorem tw11614346279706655073:T:=t
theorem tw11403851563620829512:T:=t
theorem tw10665089971535097683:T:=t
theorem tw4034048572721927537:T:=t
theorem tw2675658811408624930:T:=t
theorem tw9756827057097773860:T:=t
theorem tw7293298908176781663:T:=t
theorem tw1980160206288974728:T:=t
theorem tw17864028415675338326:T:=t
theorem tw16292202817602668162:T:=t
theorem tw1429040668314091153:T:=t
theorem tw13465503431842376007:T:=t
theorem tw10210597933619972095:T:=t
theorem tw9716624006974247489:T:=t
theorem tw1496695287857109588:T:=t
theorem tw5004366561265856203:T:=t
theorem tw9573086628692744296:T:=t
theorem tw9515011664573035354:T:=t
theorem tw9253799994812790149:T:=t
theorem tw8478376212529829071:T:=t
theorem tw8475525182357872103:T:=t
theorem tw834873547066669988:T:=t
theorem tw8211959896082780389:T:=t
theorem tw7675930258259734528:T:=t
theorem tw6557543464795787104:T:=t
theorem tw6164561884633627433:T:=t
theorem tw5665735395497279834:T:=t
theorem tw5532463470591059822:T:=t
theorem tw387501639795913443:T:=t
theorem tw3298483428156984901:T:=t
theorem tw2852251193174398662:T:=t
theorem tw18442785490491869365:T:=t
theorem tw18425317256667529438:T:=t
theorem tw18005423509665057918:T:=t
theorem tw17450470499104002142:T:=t
theorem tw17223442867436993403:T:=t
theorem tw16778611742570070204:T:=t
theorem tw16755849432154420019:T:=t
theorem tw1590763530083325563:T:=t
theorem tw15540984915698410164:T:=t
theorem tw14722489848711283861:T:=t
theorem tw14672674291997333471:T:=t
theorem tw13995172100960836882:T:=t
theorem tw13838900630717943254:T:=t
theorem tw13532707612510029741:T:=t
theorem tw13402765919934010277:T:=t
theorem tw13116522157475607773:T:=t
theorem tw12670839924663504800:T:=t
theorem tw12455012482086183272:T:=t
theorem tw11923525502935528744:T:=t
theorem tw11531331273489700057:T:=t
theorem tw11183452524601008856:T:=t
theorem tw10987386120367425466:T:=t
theorem tw1098248734344127483:T:=t
theorem tw10669944970481658594:T:=t
theorem tw6655696309031964122:T:=t
theorem tw18134284020713443437:T:=t
theorem tw8228058824784995430:T:=t
theorem tw1439166485080882:T:=t
theorem tw5378808338967829844:T:=t
theorem tw12450111651097656602:T:=t
theorem tw15666005558429203310:T:=t
theorem tw15465920861327815835:T:=t
theorem tw6140287776057189764:T:=t
theorem tw4638281056170512193:T:=t
theorem tw12304082900475741265:T:=t
theorem tw7974275031393228247:T:=t
theorem tw7186131708394509389:T:=t
theorem tw7142256002058171272:T:=t
theorem tw5995161000843957690:T:=t
theorem tw5671064798259553346:T:=t
theorem tw4244067443239231564:T:=t
theorem tw3454311308915712629:T:=t
theorem tw33456957511925785:T:=t
theorem tw3305931106042330821:T:=t
theorem tw2110754180369666209:T:=t
theorem tw18344032359734412310:T:=t
theorem tw16965079339398995527:T:=t
theorem tw15768048840197415361:T:=t
theorem tw8930851030842425676:T:=t
theorem tw3045742163950154196:T:=t
theorem tw14849204138880929251:T:=t
theorem tw11962923498438245051:T:=t
theorem tw11399646045708457374:T:=t
theorem tw10992214633131536827:T:=t
theorem tw10924716458440934090:T:=t
theorem tw10625486282989778954:T:=t
theorem tw1409966394225722968:T:=t
theorem tw8984930932524396370:T:=t
theorem tw7514964652732493775:T:=t
theorem tw15984706205718930553:T:=t
theorem tw7113585516715319716:T:=t
theorem tw11092141859048813250:T:=t
theorem tw31828345220925962:T:=t
theorem tw1632041292262086317:T:=t
theorem tw9656510801202774680:T:=t
theorem tw9175052073728820173:T:=t
theorem tw5837888446457221635:T:=t
theorem tw5396188567872606041:T:=t
theorem tw5289026146741335887:T:=t
theorem tw5084117380071580128:T:=t
theorem tw4544244032028310869:T:=t
theorem tw3960113756560652017:T:=t
theorem tw17290568124846718506:T:=t
theorem tw16451033083921036709:T:=t
theorem tw15514936471743626214:T:=t
theorem tw15491723280356408159:T:=t
theorem tw15461212566085484399:T:=t
theorem tw14662554035588321541:T:=t
theorem tw14439473939278146460:T:=t
theorem tw13110577991587790113:T:=t
theorem tw1178595665728414349:T:=t
theorem tw11461230924637031220:T:=t
theorem tw10298723112805639129:T:=t
theorem tw5842977544298395883:T:=t
theorem tw5104194264097766351:T:=t
theorem tw474381771622712015:T:=t
theorem tw17292155258170135553:T:=t
theorem tw13224007501803129859:T:=t
theorem tw9508770018378322450:T:=t
theorem tw9155575984036265788:T:=t
theorem tw17431719831054627609:T:=t
theorem tw1519927702969063271:T:=t
theorem tw15131278010643852716:T:=t
theorem tw13154001654789283132:T:=t
theorem tw12959741745000181155:T:=t
theorem tw12255313618399501761:T:=t
theorem tw12093647306153771053:T:=t
theorem tw7273056430967151046:T:=t
theorem tw4088224383575840552:T:=t
theorem tw15928290008803537013:T:=t
theorem tw11815829001073249272:T:=t
theorem tw17403364634526059139:T:=t
theorem tw5890889631881817875:T:=t
theorem tw13348322127785295214:T:=t
theorem tw12205347405646519318:T:=t
theorem tw3459380146013217038:T:=t
theorem tw5372645768047454471:T:=t
theorem tw495442525896006271:T:=t
theorem tw4365514962571936147:T:=t
theorem tw3635900802997115186:T:=t
theorem tw18165044119631177899:T:=t
theorem tw17297283025540448806:T:=t
theorem tw17272174723667511238:T:=t
theorem tw14864641218109852296:T:=t
theorem tw1453356044741674121:T:=t
theorem tw1216228984421328439:T:=t
theorem tw11785714552879321826:T:=t
theorem tw10204856939554784155:T:=t
theorem tw7563215957194029611:T:=t
theorem tw7297187181890747607:T:=t
theorem tw6880717277089553138:T:=t
theorem tw6161133996638707016:T:=t
theorem tw5502569546826302122:T:=t
theorem tw470481871638761223:T:=t
theorem tw1677766988990989824:T:=t
theorem tw16305672181175384284:T:=t
theorem tw16035907590883218939:T:=t
theorem tw11120327062377616369:T:=t
theorem tw11041547156204584376:T:=t
theorem tw11409991511011244131:T:=t
theorem tw11218778669853930896:T:=t
theorem tw8557395850702784662:T:=t
theorem tw5418533224930618480:T:=t
theorem tw5243159528196176124:T:=t
theorem tw17057053908230417247:T:=t
theorem tw12885673836220544336:T:=t
theorem tw12839114828313443825:T:=t
theorem tw10114013102757674387:T:=t
theorem tw1587290215689348708:T:=t
theorem tw14161005256144132680:T:=t
theorem tw12941917028564957548:T:=t
theorem tw9303439499767911484:T:=t
theorem tw8567518541235275850:T:=t
theorem tw8496349624203035976:T:=t
theorem tw6663778134991626487:T:=t
theorem tw4330594992337426955:T:=t
theorem tw4193505271845495863:T:=t
theorem tw3220561703981169602:T:=t
theorem tw16817993663026736274:T:=t
theorem tw16806246253224384389:T:=t
theorem tw13989496423458381343:T:=t
theorem tw1150287232629052791:T:=t
theorem tw11239335112260394413:T:=t
theorem tw1084220662915027778:T:=t
theorem tw10283388844273144081:T:=t
theorem tw10149618387772673413:T:=t
theorem tw5781596087445459943:T:=t
theorem tw223528310411579522:T:=t
theorem tw11273777480241942364:T:=t
theorem tw9994787619460420439:T:=t
theorem tw9964214247947446159:T:=t
theorem tw9942282790977331292:T:=t
theorem tw9925469786538053656:T:=t
theorem tw9897820754763898449:T:=t
theorem tw9840939614602229412:T:=t
theorem tw9703084557020090508:T:=t
theorem tw9626384672669237482:T:=t
theorem tw962193829226610041:T:=t
theorem tw962032349192862916:T:=t
theorem tw961187720498965250:T:=t
theorem tw9561784451562097942:T:=t
theorem tw9557352009045844224:T:=t
theorem tw9498315638749924794:T:=t
theorem tw9417822746687237092:T:=t
theorem tw9394770849952503311:T:=t
theorem tw9376575566392132001:T:=t
theorem tw9360745474812902239:T:=t
theorem tw9302470337196694018:T:=t
theorem tw9274054859765456524:T:=t
theorem tw917386388269078853:T:=t
theorem tw8952462522180670554:T:=t
theorem tw8947760058931562597:T:=t
theorem tw8905992674379837232:T:=t
theorem tw8905464785575363620:T:=t
theorem tw8748973510418095054:T:=t
theorem tw8707812797481193996:T:=t
theorem tw8663697691656813868:T:=t
theorem tw8467378866343419333:T:=t
theorem tw8436210846270712021:T:=t
theorem tw8281396171620568247:T:=t
theorem tw8260724100714396741:T:=t
theorem tw8249873531624179374:T:=t
theorem tw8207831470162742035:T:=t
theorem tw8118072479153026202:T:=t
theorem tw796168687070700412:T:=t
theorem tw785246043732427063:T:=t
theorem tw7624122152786673341:T:=t
theorem tw7623511443260959870:T:=t
theorem tw7591743695986301205:T:=t
theorem tw7332552209862256014:T:=t
theorem tw7308723440029596264:T:=t
theorem tw7074144079889050967:T:=t
theorem tw7054876372555587774:T:=t
theorem tw6912675738884088206:T:=t
theorem tw6868236387235032019:T:=t
theorem tw6862492499505807319:T:=t
theorem tw6862268138105152660:T:=t
theorem tw6768520987592691376:T:=t
theorem tw6741292078354696603:T:=t
theorem tw6702130215012162313:T:=t
theorem tw6697339332421208802:T:=t
theorem tw6657087868060814:T:=t
theorem tw6635558491612396129:T:=t
theorem tw6632538468102435922:T:=t
theorem tw65644731488775911:T:=t
theorem tw6545385358150927430:T:=t
theorem tw6508729118710982530:T:=t
theorem tw6418098437765475518:T:=t
theorem tw6214117541549086881:T:=t
theorem tw6112859857366181021:T:=t
theorem tw5871769198996169552:T:=t
theorem tw5790326737455844299:T:=t
theorem tw5649967823195072380:T:=t
theorem tw5613160597433933154:T:=t
theorem tw5473700226181020891:T:=t
theorem tw545269030811804461:T:=t
theorem tw5400957986263281647:T:=t
theorem tw5240779543111244032:T:=t
theorem tw5240536507193477226:T:=t
theorem tw52199770228462824:T:=t
theorem tw5181119749688162637:T:=t
theorem tw5127751686995613262:T:=t
theorem tw5061512775090418087:T:=t
theorem tw49674306023711395:T:=t
theorem tw4946776927847147119:T:=t
theorem tw4924694640843408985:T:=t
theorem tw4886955015573163100:T:=t
theorem tw4839478117068044826:T:=t
theorem tw4812270449578504274:T:=t
theorem tw4775608329324902142:T:=t
theorem tw4766233809647381661:T:=t
theorem tw4651154628705390771:T:=t
theorem tw4630824681090250767:T:=t
theorem tw4573282807186111410:T:=t
theorem tw4500915450034043215:T:=t
theorem tw4452170602077327944:T:=t
theorem tw4189750870438640210:T:=t
theorem tw4126091431370883743:T:=t
theorem tw4044139247061151142:T:=t
theorem tw4036238207498611232:T:=t
theorem tw3994622017586750766:T:=t
theorem tw3911810758690780188:T:=t
theorem tw3905226178654972811:T:=t
theorem tw3848698983108048278:T:=t
theorem tw3829396358689915599:T:=t
theorem tw3796207824708393856:T:=t
theorem tw365850788961202214:T:=t
theorem tw3626430660855392483:T:=t
theorem tw3583811862363856187:T:=t
theorem tw3549514262204291990:T:=t
theorem tw3491332818749588091:T:=t
theorem tw3464709057266567092:T:=t
theorem tw341453280667917650:T:=t
theorem tw3370190323706015969:T:=t
theorem tw330327031418712150:T:=t
theorem tw3234112476842188716:T:=t
theorem tw3160845607165458772:T:=t
theorem tw3136416535801588117:T:=t
theorem tw2921958311620399285:T:=t
theorem tw2921621734765799159:T:=t
theorem tw2895952525429962455:T:=t
theorem tw2821470743931037460:T:=t
theorem tw2794983428953441941:T:=t
theorem tw2729793432009153956:T:=t
theorem tw2647654807098235363:T:=t
theorem tw2583023086579268501:T:=t
theorem tw2544328076492683441:T:=t
theorem tw2538046985915079169:T:=t
theorem tw2524017781993486291:T:=t
theorem tw2433702464844828792:T:=t
theorem tw2399826469436781019:T:=t
theorem tw2287757881348798766:T:=t
theorem tw221909299271738847:T:=t
theorem tw2195194259037543316:T:=t
theorem tw2190695567426971638:T:=t
theorem tw2127038452521536779:T:=t
theorem tw2019394398466159022:T:=t
theorem tw18431692314602308842:T:=t
theorem tw18418235949754561950:T:=t
theorem tw18332899500509843999:T:=t
theorem tw18325589031809861271:T:=t
theorem tw18287795668848337631:T:=t
theorem tw17958375852430007124:T:=t
theorem tw17737603089517620647:T:=t
theorem tw17725498274588495791:T:=t
theorem tw17715262827843222689:T:=t
theorem tw17600866488970185278:T:=t
theorem tw17495560712657236704:T:=t
theorem tw17413556829735388813:T:=t
theorem tw17353955331779342651:T:=t
theorem tw17336282652733537790:T:=t
theorem tw17201416709059790184:T:=t
theorem tw17091655785135471103:T:=t
theorem tw1707505545463187130:T:=t
theorem tw16959884160788844718:T:=t
theorem tw16950194794029067938:T:=t
theorem tw16922381011570985944:T:=t
theorem tw16798622893749714585:T:=t
theorem tw16721930046160240684:T:=t
theorem tw16651728564920304373:T:=t
theorem tw16572128252103988241:T:=t
theorem tw16551855485269240956:T:=t
theorem tw16519101796099990279:T:=t
theorem tw16356685582667847594:T:=t
theorem tw16187894506366716058:T:=t
theorem tw16136984950599521427:T:=t
theorem tw16135426469972691074:T:=t
theorem tw16046730324260685337:T:=t
theorem tw16026485685270457870:T:=t
theorem tw16008457594558532635:T:=t
theorem tw15803610866087392283:T:=t
theorem tw15734200111481486640:T:=t
theorem tw15643365686152983790:T:=t
theorem tw15616401959046598769:T:=t
theorem tw15608450976537380609:T:=t
theorem tw15579395750891953841:T:=t
theorem tw1545906260438175962:T:=t
theorem tw15312394840280087653:T:=t
theorem tw15062679425460387418:T:=t
theorem tw14909365282108701170:T:=t
theorem tw14859100970857779836:T:=t
theorem tw14759895335926876869:T:=t
theorem tw1469836325065767749:T:=t
theorem tw14457758005677747962:T:=t
theorem tw14406990849044604362:T:=t
theorem tw14336716466608126219:T:=t
theorem tw14313897822631088780:T:=t
theorem tw14161465996007527954:T:=t
theorem tw14106445559736802775:T:=t
theorem tw14080665800827857628:T:=t
theorem tw14061640607465278742:T:=t
theorem tw14060465935940456498:T:=t
theorem tw14009396871252706886:T:=t
theorem tw13803360072150633466:T:=t
theorem tw13693970394777133609:T:=t
theorem tw13667920496262714385:T:=t
theorem tw13597483153833180358:T:=t
theorem tw13503263706703578961:T:=t
theorem tw13270728482189477470:T:=t
theorem tw13227692790652741651:T:=t
theorem tw13219505800766818778:T:=t
theorem tw13180746182150919023:T:=t
theorem tw13113777628852026922:T:=t
theorem tw1306636233014830658:T:=t
theorem tw12927740378394474205:T:=t
theorem tw12915833801598196605:T:=t
theorem tw12909650291622432550:T:=t
theorem tw12885385263037960081:T:=t
theorem tw12872379398031375081:T:=t
theorem tw12800608258095302798:T:=t
theorem tw12692632004510240207:T:=t
theorem tw12623159325031504133:T:=t
theorem tw12590340796369385619:T:=t
theorem tw1255815211270559930:T:=t
theorem tw12543713266681445118:T:=t
theorem tw12518504611687188807:T:=t
theorem tw12483276189755474720:T:=t
theorem tw12463224122652932544:T:=t
theorem tw1242282695825638017:T:=t
theorem tw1236483940969888574:T:=t
theorem tw12343854547171428336:T:=t
theorem tw12338497608069007261:T:=t
theorem tw12252054271945606052:T:=t
theorem tw12222963475772708484:T:=t
theorem tw12057704586751987240:T:=t
theorem tw12023146180999706270:T:=t
theorem tw1198661942849946583:T:=t
theorem tw11789403723227289746:T:=t
theorem tw11752208632293872130:T:=t
theorem tw11710404883906591787:T:=t
theorem tw11595355409239048105:T:=t
theorem tw11554813239044494598:T:=t
theorem tw11501822485730972192:T:=t
theorem tw11487549891475536569:T:=t
theorem tw11476092923266045095:T:=t
theorem tw11463369355524808266:T:=t
theorem tw11261727412033496967:T:=t
theorem tw11251407683458634364:T:=t
theorem tw11125538497796368324:T:=t
theorem tw11086099901593105684:T:=t
theorem tw11049269918873537771:T:=t
theorem tw11003572833241299968:T:=t
theorem tw1092785777240315536:T:=t
theorem tw10877679251791092727:T:=t
theorem tw10876375607700338302:T:=t
theorem tw10876229203375891673:T:=t
theorem tw10864377008497418100:T:=t
theorem tw10663580350406149668:T:=t
theorem tw10455743928339290457:T:=t
theorem tw10231336680788121439:T:=t
theorem tw10159738436595150677:T:=t
theorem tw10140136200207757160:T:=t
end Mine.main
set_option tactic.hygienic true
open PySem PySem.W PyProof.Rows
set_option Elab.async true
theorem Mine.main : PySem.Challenge.rw_np0107_01.Holds := by
  w_on; o_law; k_head; (case hw => w_witness2)
  intro w s₀ s₁ mg mb G Y fa o pm cd doc dV kV ho hd hcd hD hmg hg args vals as hpre hlay hrd hwl hlo
  have KX := kIn_of Y
  refine Ground.open G ?_
  intro T B D TE TW
  have R := topRead_of T
  wrow_args hpre hlay hrd hwl hlo
  rename_i ns _ _ _ _ _ _ _ l vs _ hL ra hw r0 hI hr hlen _
  have hK : Internal.Gj (Mine.main.heap_1_39 w.params) = true := by kernel_rfl
  refine Internal.M8 hK KX R hmg (mg_of KX R.g (Internal.YM hK)) hw (by omega) fun h' tk' up => ?_
  refine ⟨.inl ⟨_, .bool true, [], rfl, fun _ => rfl, ?_, ?_, ?_⟩, ?_, rfl, ?_⟩
  · exact .bool true
  · with_unfolding_all rfl
  · exact fun _ => ⟨List.nodup_nil, fun _ h => nomatch h⟩
  · exact .of_keep up
  · exact .of_eq hg
theorem PySem.Challenge.cw_np0107_01_holds : PySem.Challenge.rw_np0107_01.Holds :=
  Mine.main
