import PyProof.Rows.All
import Wide.All
import OpenK.AllK
import Wide.FinOn
import Lean
import PySem.Challenge.RW_nm0017_01
open PySem PySem.W PyProof.Rows PySem.Calls
set_option Elab.async false
set_option tactic.hygienic false
set_option compiler.extract_closed false
set_option genInjectivity false
set_option genSizeOf false
set_option linter.unusedVariables false
set_option linter.unusedSectionVars false
set_option linter.unusedSimpArgs false
namespace Mine
theorem Aa:type_of% @if_neg:=@if_neg
theorem Ab:type_of% @if_pos:=@if_pos
theorem Ac:type_of% @Bool.and_eq_true_iff:=@Bool.and_eq_true_iff
theorem Ad:type_of% @of_decide_eq_true:=@of_decide_eq_true
theorem Ae:type_of% @Classical.byContradiction:=@Classical.byContradiction
theorem Af:type_of% @Nat.le_of_ble_eq_true:=@Nat.le_of_ble_eq_true
theorem Ag:type_of% @Nat.le_refl:=@Nat.le_refl
theorem Ah:type_of% @Nat.le_trans:=@Nat.le_trans
theorem Ai:type_of% @wpAny_mono:=@wpAny_mono
theorem Aj:type_of% @wpAny_pure:=@wpAny_pure
theorem Ak:type_of% @wpAny_bind:=@wpAny_bind
theorem Al:type_of% @wpAny_standAt:=@wpAny_standAt
theorem Am:type_of% @wpAny_holding:=@wpAny_holding
theorem An:type_of% @Nat.lt_of_lt_of_le:=@Nat.lt_of_lt_of_le
theorem Ao:type_of% @Bool.false_eq_true:=@Bool.false_eq_true
theorem Ap:type_of% @if_false:=@if_false
theorem Aq:type_of% @Heap.lt_size:=@Heap.lt_size
theorem Ar:type_of% @Nat.lt_irrefl:=@Nat.lt_irrefl
theorem As:type_of% @Heap.get?_push_of_some:=@Heap.get?_push_of_some
theorem Au:type_of% @Heap.get?_push_size:=@Heap.get?_push_size
theorem Av:type_of% @Bool.and_eq_true:=@Bool.and_eq_true
theorem Aw:type_of% @List.all_eq_true:=@List.all_eq_true
theorem Ax:type_of% @Bool.not_true:=@Bool.not_true
theorem Ay:type_of% @if_true:=@if_true
theorem Az:type_of% @Option.isSome_iff_exists:=@Option.isSome_iff_exists
theorem Ba:type_of% @List.map_cons:=@List.map_cons
theorem Bb:type_of% @Nat.ne_of_lt:=@Nat.ne_of_lt
theorem Bc:type_of% @List.getElem?_eq_some_iff:=@List.getElem?_eq_some_iff
theorem Bd:type_of% @codeAny_mono:=@codeAny_mono
theorem Be:type_of% @List.mem_cons:=@List.mem_cons
theorem Bf:type_of% @List.mem_singleton:=@List.mem_singleton
theorem Bg:type_of% @List.getElem?_map:=@List.getElem?_map
theorem Bh:type_of% @List.length_range:=@List.length_range
theorem Bi:type_of% @Option.map_eq_some_iff:=@Option.map_eq_some_iff
theorem Bj:type_of% @List.map_map:=@List.map_map
theorem Bk:type_of% @List.lookup_cons:=@List.lookup_cons
theorem Bl:type_of% @List.nodup_cons:=@List.nodup_cons
theorem Bm:type_of% @List.mem_map:=@List.mem_map
theorem Bn:type_of% @List.pairwise_cons:=@List.pairwise_cons
theorem Bo:type_of% @List.size_toArray:=@List.size_toArray
theorem Bp:type_of% @List.any_eq_true:=@List.any_eq_true
theorem Bq:type_of% @decide_eq_true_eq:=@decide_eq_true_eq
theorem Br:type_of% @intKind_is:=@intKind_is
theorem Bt:type_of% @List.map_append:=@List.map_append
theorem Bu:type_of% @wpAny_newObj_type:=@wpAny_newObj_type
theorem Bv:type_of% @Nat.zero_le:=@Nat.zero_le
theorem Bw:type_of% @wpAny_askSetting:=@wpAny_askSetting
theorem Bx:type_of% @wpAny_rule:=@wpAny_rule
theorem By:type_of% @builtinLookup_eq_fast:=@builtinLookup_eq_fast
theorem Bz:type_of% @wpAny_call_entry:=@wpAny_call_entry
theorem Ca:type_of% @Array.getElem?_eq_getElem:=@Array.getElem?_eq_getElem
theorem Cb:type_of% @List.filter_cons:=@List.filter_cons
theorem Cc:type_of% @List.getElem_of_mem:=@List.getElem_of_mem
theorem Cd:type_of% @List.filterMap_cons:=@List.filterMap_cons
theorem Ce:type_of% @Int.toNat_natCast:=@Int.toNat_natCast
theorem Cf:type_of% @List.map_congr_left:=@List.map_congr_left
theorem Cg:type_of% @List.mem_range:=@List.mem_range
theorem Ci:type_of% @List.getElem?_eq_getElem:=@List.getElem?_eq_getElem
theorem Cj:type_of% @List.take_add_one:=@List.take_add_one
theorem Ck:type_of% @Nat.le_of_lt_succ:=@Nat.le_of_lt_succ
theorem Cl:type_of% @Array.getD_eq_getD_getElem?:=@Array.getD_eq_getD_getElem?
theorem Cm:type_of% @Option.isNone_iff_eq_none:=@Option.isNone_iff_eq_none
theorem Cn:type_of% @List.length_cons:=@List.length_cons
theorem Co:type_of% @Array.length_toList:=@Array.length_toList
theorem Cp:type_of% @List.length_map:=@List.length_map
theorem Cq:type_of% @List.pairwise_iff_getElem:=@List.pairwise_iff_getElem
theorem Cr:type_of% @List.getElem_mem:=@List.getElem_mem
theorem Cs:type_of% @List.length_take:=@List.length_take
theorem Ct:type_of% @List.length_append:=@List.length_append
theorem Cu:type_of% @sizeLine_eq:=@sizeLine_eq
theorem Cv:type_of% @List.append_assoc:=@List.append_assoc
theorem Cw:type_of% @List.forIn_cons:=@List.forIn_cons
theorem Cx:type_of% @List.mem_append:=@List.mem_append
theorem Cy:type_of% @List.mem_append_left:=@List.mem_append_left
theorem Cz:type_of% @List.mem_append_right:=@List.mem_append_right
theorem Da:type_of% @List.length_singleton:=@List.length_singleton
theorem Db:type_of% @List.mem_cons_self:=@List.mem_cons_self
theorem Dc:type_of% @decide_eq_true:=@decide_eq_true
theorem De:type_of% @wpAny_setField_rec:=@wpAny_setField_rec
theorem Df:type_of% @Bool.or_eq_true:=@Bool.or_eq_true
theorem Dg:type_of% @F.called_set:=@F.called_set
theorem Dh:type_of% @List.mem_cons_of_mem:=@List.mem_cons_of_mem
theorem Di:type_of% @List.nodup_append:=@List.nodup_append
theorem Dj:type_of% @decide_eq_false:=@decide_eq_false
theorem Dk:type_of% @List.not_mem_nil:=@List.not_mem_nil
theorem Dl:type_of% @or_false:=@or_false
theorem Do:type_of% @List.mem_of_mem_take:=@List.mem_of_mem_take
theorem Dp:type_of% @List.take_append_drop:=@List.take_append_drop
theorem Dq:type_of% @List.take_length:=@List.take_length
theorem Dr:type_of% @List.mem_of_getElem?:=@List.mem_of_getElem?
theorem Ds:type_of% @List.drop_eq_getElem_cons:=@List.drop_eq_getElem_cons
theorem Dt:type_of% @List.mem_iff_getElem?:=@List.mem_iff_getElem?
section
set_option Elab.async false
set_option tactic.hygienic false
set_option linter.unusedVariables false
set_option genSizeOf false
set_option genInjectivity false
section
inductive Z where
 | v (i:Nat)
 | w (i:Nat)
 | k (n:Nat)
 | q (a b:Z)
 | m (n:Nat) (a:Z)
 | p (a:Z) (n:Nat)
 | c (a:Z)
 | u (a b:Z)
 | g (a:Z)
inductive Zf where
 | l (a b:Z)
 | s (a b:Z)
 | e (a b:Z)
 | L (a b:Z)
 | S (a b:Z)
 | E (a b:Z)
 | n (f:Zf)
 | j (f g:Zf)
 | o (f g:Zf)
 | x
inductive Zt where
 | l (ks:List Nat)
 | s (x y:Zt)
 | k (x:Zt)
section
variable (c:List Nat) (δ:List Int)
noncomputable def Z.n:Z→Nat
 | .v i=>c.getD i 0
 | .k n=>n
 | .q a b=>a.n + b.n
 | .m n a=>n * a.n
 | .p a n=>a.n + n
 | .w _=>0
 | .c _=>0
 | .u _ _=>0
 | .g _=>0
noncomputable def Z.i:Z→Int
 | .w i=>δ.getD i 0
 | .k n=>n
 | .q a b=>a.i + b.i
 | .m n a=>n * a.i
 | .p a n=>a.i + n
 | .c a=>a.n c
 | .u a b=>a.i - b.i
 | .g a=>-a.i
 | .v _=>0
noncomputable def Zf.d:Zf→Prop
 | .l a b=>a.n c ≤ b.n c
 | .s a b=>a.n c < b.n c
 | .e a b=>a.n c = b.n c
 | .L a b=>a.i c δ ≤ b.i c δ
 | .S a b=>a.i c δ < b.i c δ
 | .E a b=>a.i c δ = b.i c δ
 | .n f=>¬ f.d
 | .j f g=>f.d∧g.d
 | .o f g=>f.d∨g.d
 | .x=>False
noncomputable def ZD:List Zf→Zf→Prop
 | [],g=>g.d c δ
 | h :: hs,g=>h.d c δ→ZD hs g
noncomputable def zat:Nat→Int:=fun n=>if n = 0 then 1 else if n % 2 = 1 then ((c.getD (n / 2) 0:Nat):Int) else δ.getD (n / 2 - 1) 0
end
noncomputable def rL (f:Nat→Int):List Int→Nat→Int
 | [],_=>0
 | a :: p,k=>a * f k + rL f p (k + 1)
noncomputable def qF:List Int→List Int→List Int
 | [],q=>q
 | a :: p,[]=>a :: p
 | a :: p,b :: q=>(a + b) :: qF p q
noncomputable def zmul (n:Int) (p:List Int):List Int:=p.map (n * ·)
noncomputable def zun:Nat→List Int
 | 0=>[1]
 | n + 1=>0 :: zun n
theorem zfour (a b x y:Int):a + b + (x + y) = a + x + (b + y):=by rw [Int.add_assoc,Int.add_left_comm b,← Int.add_assoc]
theorem zdot_add (f p):∀ q k,rL f (qF p q) k = rL f p k + rL f q k:=by
 induction p with
 | nil=>exact fun q k=>(Int.zero_add _).symm
 | cons a p ih=>
  intro q k
  cases q with
  | nil=>exact (Int.add_zero _).symm
  | cons b q=>
   show (a + b) * f k + rL f (qF p q) (k + 1) = _
   rw [ih,Int.add_mul];exact zfour ..
theorem zdot_mul (f n p):∀ k,rL f (zmul n p) k = n * rL f p k:=by
 induction p with
 | nil=>exact fun k=>(Int.mul_zero _).symm
 | cons a p ih=>
  intro k
  show n * a * f k + rL f (zmul n p) (k + 1) = n * (a * f k + rL f p (k + 1))
  rw [ih,Int.mul_add,Int.mul_assoc]
theorem zdot_un (f i):∀ k,rL f (zun i) k = f (i + k):=by
 induction i with
 | zero=>intro k;show 1 * f k + 0 = _;rw [Int.add_zero,Int.one_mul,Nat.zero_add]
 | succ i ih=>intro k;show 0 * f k + rL f (zun i) (k + 1) = _;rw [ih,Int.zero_mul,Int.zero_add,Nat.succ_add_eq_add_succ]
noncomputable def Z.pn:Z→List Int
 | .v i=>zun (2 * i + 1)
 | .k n=>[n]
 | .q a b=>qF a.pn b.pn
 | .m n a=>zmul n a.pn
 | .p a n=>qF a.pn [n]
 | .w _=>[]
 | .c _=>[]
 | .u _ _=>[]
 | .g _=>[]
noncomputable def Z.pz:Z→List Int
 | .w i=>zun (2 * i + 2)
 | .k n=>[n]
 | .q a b=>qF a.pz b.pz
 | .m n a=>zmul n a.pz
 | .p a n=>qF a.pz [n]
 | .c a=>a.pn
 | .u a b=>qF a.pz (zmul (-1) b.pz)
 | .g a=>zmul (-1) a.pz
 | .v _=>[]
section
variable {c:List Nat} {d:List Int}
noncomputable abbrev zv (c:List Nat) (d:List Int) (p:List Int):Int:=rL (zat c d) p 0
theorem tK (p q):zv c d (qF p q) = zv c d p + zv c d q:=zdot_add ..
theorem zv_mul (n p):zv c d (zmul n p) = n * zv c d p:=zdot_mul ..
theorem zv_neg (p):zv c d (zmul (-1) p) = - zv c d p:=(zdot_mul ..).trans (Int.neg_one_mul _)
theorem zv_k (n:Int):zv c d [n] = n:=(Int.add_zero _).trans (Int.mul_one n)
theorem zat_n (i):zat c d (2 * i + 1) = ((c.getD i 0:Nat):Int):=by
 unfold zat
 rw [Aa (Nat.succ_ne_zero _),Nat.mul_add_mod,Ab rfl,Nat.mul_add_div (by decide)];rfl
theorem zat_i (i):zat c d (2 * i + 2) = d.getD i 0:=by
 unfold zat
 rw [Aa (Nat.succ_ne_zero _),Nat.mul_add_mod,Aa (by decide),Nat.mul_add_div (by decide)];rfl
theorem Z.pn_d (e:Z):zv c d e.pn = (e.n c:Nat):=by
 induction e with
 | v i=>exact (zdot_un _ _ 0).trans (zat_n i)
 | k n=>exact zv_k n
 | q a b ha hb=>exact (tK ..).trans (by rw [ha,hb];rfl)
 | m n a ha=>exact (zv_mul ..).trans (by rw [ha];rfl)
 | p a n ha=>exact (tK ..).trans (by rw [ha,zv_k];rfl)
 | _=>rfl
theorem pQ (e:Z):zv c d e.pz = e.i c d:=by
 induction e with
 | w i=>exact (zdot_un _ _ 0).trans (zat_i i)
 | k n=>exact zv_k n
 | q a b ha hb=>exact (tK ..).trans (by rw [ha,hb];rfl)
 | m n a ha=>exact (zv_mul ..).trans (by rw [ha];rfl)
 | p a n ha=>exact (tK ..).trans (by rw [ha,zv_k];rfl)
 | c a=>exact a.pn_d
 | u a b ha hb=>exact (tK ..).trans (by rw [zv_neg,ha,hb];rfl)
 | g a ha=>exact (zv_neg _).trans (by rw [ha];rfl)
 | v _=>rfl
noncomputable abbrev ZK:=List (List Int)→Zt→Bool
noncomputable def ZOk (c:List Nat) (d:List Int) (k:ZK):Prop:=∀ ps t,k ps t = true→(∀ p∈ps,0 ≤ zv c d p)→False
noncomputable def vO (p:List Int) (k:ZK):ZK:=fun ps t=>k (p :: ps) t
noncomputable def zor (x y k:ZK):ZK:=fun ps t=>match t with
 | .s t u=>x ps t && y ps u
 | .k t=>k ps t
 | .l _=>false
theorem ZOk.push {p k} (h:0 ≤ zv c d p) (o:ZOk c d k):ZOk c d (vO p k):=fun ps t e hp=>o _ _ e fun q hq=>by
 cases hq with
 | head=>exact h
 | tail _ hq=>exact hp q hq
theorem ZOk.or {x y k} (h:ZOk c d x∨ZOk c d y) (o:ZOk c d k):ZOk c d (zor x y k):=fun ps t e hp=>by
 cases t with
 | l _=>cases e
 | s t u=>have e:=Ac.mp e;exact h.elim (fun h=>h ps t e.1 hp) fun h=>h ps u e.2 hp
 | k t=>exact o ps t e hp
noncomputable abbrev zle (p q:List Int):List Int:=qF q (zmul (-1) p)
noncomputable abbrev zlt (p q:List Int):List Int:=qF (zle p q) [-1]
theorem oE {p q} (h:zv c d p ≤ zv c d q):0 ≤ zv c d (zle p q):=by
 rw [tK,zv_neg];exact Int.sub_nonneg_of_le h
theorem oD {p q} (h:zv c d p < zv c d q):0 ≤ zv c d (zlt p q):=by
 rw [tK,tK,zv_neg,zv_k];exact Int.sub_nonneg_of_le (Int.le_sub_left_of_add_le h)
noncomputable def Zf.go:Zf→Bool→ZK→ZK
 | .l a b,true,k=>vO (zle a.pn b.pn) k
 | .l a b,false,k=>vO (zlt b.pn a.pn) k
 | .s a b,true,k=>vO (zlt a.pn b.pn) k
 | .s a b,false,k=>vO (zle b.pn a.pn) k
 | .e a b,true,k=>vO (zle a.pn b.pn) (vO (zle b.pn a.pn) k)
 | .e a b,false,k=>zor (vO (zlt a.pn b.pn) k) (vO (zlt b.pn a.pn) k) k
 | .L a b,true,k=>vO (zle a.pz b.pz) k
 | .L a b,false,k=>vO (zlt b.pz a.pz) k
 | .S a b,true,k=>vO (zlt a.pz b.pz) k
 | .S a b,false,k=>vO (zle b.pz a.pz) k
 | .E a b,true,k=>vO (zle a.pz b.pz) (vO (zle b.pz a.pz) k)
 | .E a b,false,k=>zor (vO (zlt a.pz b.pz) k) (vO (zlt b.pz a.pz) k) k
 | .n f,b,k=>f.go (!b) k
 | .j f g,true,k=>f.go true (g.go true k)
 | .j f g,false,k=>zor (f.go false k) (g.go false k) k
 | .o f g,true,k=>zor (f.go true k) (g.go true k) k
 | .o f g,false,k=>f.go false (g.go false k)
 | .x,true,_=>fun U U=>true
 | .x,false,k=>k
noncomputable def Zf.sg (f:Zf) (c:List Nat) (d:List Int):Bool→Prop
 | true=>f.d c d
 | false=>¬ f.d c d
theorem Zf.go_ok (f:Zf):∀ {b k},f.sg c d b→ZOk c d k→ZOk c d (f.go b k):=by
 induction f with
 | l a b=>
  have e:=Z.pn_d (c:=c) (d:=d) a;have e':=Z.pn_d (c:=c) (d:=d) b
  intro t k h o
  cases t
  ·exact .push (oD (by rw [e,e'];exact Int.ofNat_lt.mpr (Nat.lt_of_not_le h))) o
  ·exact .push (oE (by rw [e,e'];exact Int.ofNat_le.mpr h)) o
 | s a b=>
  have e:=Z.pn_d (c:=c) (d:=d) a;have e':=Z.pn_d (c:=c) (d:=d) b
  intro t k h o
  cases t
  ·exact .push (oE (by rw [e,e'];exact Int.ofNat_le.mpr (Nat.le_of_not_lt h))) o
  ·exact .push (oD (by rw [e,e'];exact Int.ofNat_lt.mpr h)) o
 | e a b=>
  have e:=Z.pn_d (c:=c) (d:=d) a;have e':=Z.pn_d (c:=c) (d:=d) b
  intro t k h o
  cases t
  ·exact .or ((Nat.lt_or_gt_of_ne h).imp (fun h=>.push (oD (by rw [e,e'];exact Int.ofNat_lt.mpr h)) o) fun h=>.push (oD (by rw [e,e'];exact Int.ofNat_lt.mpr h)) o) o
  ·exact .push (oE (by rw [e,e'];exact Int.ofNat_le.mpr (Nat.le_of_eq h))) (.push (oE (by rw [e,e'];exact Int.ofNat_le.mpr (Nat.le_of_eq (Eq.symm h)))) o)
 | L a b=>
  have e:=pQ (c:=c) (d:=d) a;have e':=pQ (c:=c) (d:=d) b
  intro t k h o
  cases t
  ·exact .push (oD (by rw [e,e'];exact Int.lt_of_not_ge h)) o
  ·exact .push (oE (by rw [e,e'];exact h)) o
 | S a b=>
  have e:=pQ (c:=c) (d:=d) a;have e':=pQ (c:=c) (d:=d) b
  intro t k h o
  cases t
  ·exact .push (oE (by rw [e,e'];exact Int.not_lt.mp h)) o
  ·exact .push (oD (by rw [e,e'];exact h)) o
 | E a b=>
  have e:=pQ (c:=c) (d:=d) a;have e':=pQ (c:=c) (d:=d) b
  intro t k h o
  cases t
  ·exact .or ((Int.lt_or_gt_of_ne h).imp (fun h=>.push (oD (by rw [e,e'];exact h)) o) fun h=>.push (oD (by rw [e,e'];exact h)) o) o
  ·exact .push (oE (by rw [e,e'];exact Int.le_of_eq h)) (.push (oE (by rw [e,e'];exact Int.le_of_eq (Eq.symm h))) o)
 | n f ih=>
  intro t k h o
  cases t
  ·exact ih (b:=true) (Classical.not_not.mp h) o
  ·exact ih (b:=false) h o
 | j f g hf hg=>
  intro t k h o
  cases t
  ·exact .or ((Classical.em (f.d c d)).elim (fun a=>.inr (hg (b:=false) (fun b=>h ⟨a,b⟩) o)) fun a=>.inl (hf (b:=false) a o)) o
  ·exact hf (b:=true) (And.left h) (hg (b:=true) (And.right h) o)
 | o f g hf hg=>
  intro t k h o
  cases t
  ·exact hf (b:=false) (fun a=>h (.inl a)) (hg (b:=false) (fun a=>h (.inr a)) o)
  ·exact .or (Or.imp (fun h=>hf (b:=true) h o) (fun h=>hg (b:=true) h o) h) o
 | x=>
  intro t k h o
  cases t
  ·exact o
  ·exact False.elim h
noncomputable def zcomb:List Nat→List (List Int)→List Int
 | [],_=>[]
 | _ :: _,[]=>[]
 | k :: ks,p :: ps=>qF (zmul k p) (zcomb ks ps)
noncomputable def zneg:Bool→List Int→Bool
 | _,[]=>true
 | true,a :: p=>decide (a ≤ 0) && zneg false p
 | false,a :: p=>decide (a = 0) && zneg true p
noncomputable def zlast:ZK:=fun ps t=>match t with
 | .l ks=>(qF (zcomb ks ps) [1]).headD 1 ≤ 0 && zneg true (zcomb ks ps).tail
 | _=>false
theorem zcomb_d (ks):∀ ps,(∀ p∈ps,0 ≤ zv c d p)→0 ≤ zv c d (zcomb ks ps):=by
 induction ks with
 | nil=>exact fun ps U=>Int.le_refl _
 | cons k ks ih=>
  intro ps h
  cases ps with
  | nil=>exact Int.le_refl _
  | cons p ps=>
   show 0 ≤ zv c d (qF _ _)
   rw [tK,zv_mul]
   exact Int.add_nonneg (Int.mul_nonneg (Int.natCast_nonneg k) (h p (.head _))) (ih ps fun p hp=>h p (.tail _ hp))
theorem zneg_d (p):∀ b i,zneg b p = true→rL (zat c d) p (cond b (2 * i + 1) (2 * i + 2)) ≤ 0:=by
 induction p with
 | nil=>exact fun b i U=>Int.le_refl _
 | cons a p ih=>
  intro b i h
  cases b
  ·have h:=Ac.mp h
   have h2:=ih true (i + 1) h.2
   have e:a = 0:=Ad h.1
   show a * _ + rL _ p _ ≤ 0
   rw [e,Int.zero_mul,Int.zero_add];exact h2
  ·have h:=Ac.mp h
   have h2:=ih false i h.2
   show a * zat c d (2 * i + 1) + rL _ p _ ≤ 0
   rw [zat_n]
   exact Int.add_nonpos (Int.mul_nonpos_of_nonpos_of_nonneg (Ad h.1) (Int.natCast_nonneg _)) h2
theorem zlast_ok:ZOk c d zlast:=fun ps t h hp=>by
 cases t with
 | s | k=>cases h
 | l ks=>
  have h:=Ac.mp h
  have h1:=zcomb_d (c:=c) (d:=d) ks ps hp
  generalize zcomb ks ps = r at h h1
  cases r with
  | nil=>exact absurd (Ad h.1) (by decide)
  | cons a p=>
   have h2:=zneg_d (c:=c) (d:=d) p true 0 h.2
   have h3:a + 1 ≤ 0:=Ad h.1
   have h1:0 ≤ a * 1 + rL (zat c d) p 1:=h1
   rw [Int.mul_one] at h1
   exact absurd (Int.le_trans h1 (Int.add_le_add_left h2 a)) (by rw [Int.add_zero];exact Int.not_le_of_gt h3)
noncomputable def zgo:List Zf→ZK
 | []=>zlast
 | h :: hs=>h.go true (zgo hs)
theorem zl {hs:List Zf} {g:Zf} (t:Zt) (h:g.go false (zgo hs) [] t = true):ZD c d hs g:=by
 have key:∀ (hs:List Zf) (k:ZK→ZK),(∀ x,ZOk c d x→¬ g.d c d→ZOk c d (k x))→(k (zgo hs) [] t = true)→ZD c d hs g:=by
  intro hs
  induction hs with
  | nil=>exact fun k hk e=>Ae fun n=>hk _ zlast_ok n _ _ e fun U h=>nomatch h
  | cons f hs ih=>exact fun k hk e x=>ih (fun y=>k (f.go true y)) (fun y oy n=>hk _ (f.go_ok (b:=true) x oy) n) e
 exact key hs (g.go false) (fun x ox n=>g.go_ok (b:=false) n ox) h
noncomputable def ZA (c:List Nat) (d:List Int):List Zf→Prop
 | []=>True
 | f :: fs=>f.d c d∧ZA c d fs
theorem zf {hs:List Zf} {g:Zf} (fs:List Zf) (H:ZA c d fs) (t:Zt) (h:g.go false (zgo (fs ++ hs)) [] t = true):ZD c d hs g:=by
 have k:=zl (c:=c) (d:=d) t h
 clear h
 induction fs with
 | nil=>exact k
 | cons f fs ih=>exact ih H.2 (k H.1)
noncomputable def zS (x a b:Z):Zf:=.o (.e (.q x b) a) (.j (.e x (.k 0)) (.l a b))
noncomputable def zT (x a:Z):Zf:=.o (.E (.c x) a) (.j (.e x (.k 0)) (.L a (.k 0)))
noncomputable def zM (x a b:Z):Zf:=.o (.j (.e x a) (.l a b)) (.j (.e x b) (.l b a))
noncomputable def zD (n:Nat) (x a:Z):Zf:=.j (.l (.m n x) a) (.s a (.p (.m n x) n))
noncomputable def zI (n:Nat) (x a:Z):Zf:=.j (.L (.m n x) a) (.S a (.p (.m n x) n))
theorem rK (a b:Nat):a - b + b = a∨(a - b = 0∧a ≤ b):=(Nat.le_total b a).imp Nat.sub_add_cancel fun h=>⟨Nat.sub_eq_zero_of_le h,h⟩
theorem ztn (a:Int):(a.toNat:Int) = a∨(a.toNat = 0∧a ≤ ((0:Nat):Int)):=(Int.le_total 0 a).imp Int.toNat_of_nonneg fun h=>⟨Int.toNat_of_nonpos h,h⟩
theorem zmin (a b:Nat):(min a b = a∧a ≤ b)∨(min a b = b∧b ≤ a):=(Nat.le_total a b).imp (fun h=>⟨Nat.min_eq_left h,h⟩) fun h=>⟨Nat.min_eq_right h,h⟩
theorem zdn {a n:Nat} (h:0 < n):n * (a / n) ≤ a∧a < n * (a / n) + n:=⟨Nat.mul_div_le a n,Nat.lt_mul_div_succ a h⟩
theorem zdi {n:Nat} {a:Int} (h:0 < n):(n:Int) * (a / n) ≤ a∧a < (n:Int) * (a / n) + n:=⟨Int.mul_ediv_self_le (Int.ofNat_ne_zero.mpr (Nat.ne_of_gt h)),Int.lt_mul_ediv_self_add (Int.ofNat_lt.mpr h)⟩
noncomputable abbrev X0:=Z.v 0
noncomputable abbrev X1:=Z.v 1
noncomputable abbrev X2:=Z.v 2
noncomputable abbrev X3:=Z.v 3
noncomputable abbrev X4:=Z.v 4
noncomputable abbrev X5:=Z.v 5
noncomputable abbrev X6:=Z.v 6
noncomputable abbrev X7:=Z.v 7
noncomputable abbrev X8:=Z.v 8
noncomputable abbrev X9:=Z.v 9
noncomputable abbrev X10:=Z.v 10
noncomputable abbrev X11:=Z.v 11
noncomputable abbrev X12:=Z.v 12
noncomputable abbrev X13:=Z.v 13
noncomputable abbrev X14:=Z.v 14
noncomputable abbrev X15:=Z.v 15
noncomputable abbrev X16:=Z.v 16
noncomputable abbrev Y0:=Z.w 0
noncomputable abbrev Y1:=Z.w 1
noncomputable abbrev Y2:=Z.w 2
noncomputable abbrev Y3:=Z.w 3
noncomputable abbrev Y4:=Z.w 4
noncomputable abbrev Y5:=Z.w 5
noncomputable abbrev Y6:=Z.w 6
noncomputable abbrev Y7:=Z.w 7
noncomputable abbrev ZN (c:List Nat):=ZD c []
theorem zL {hs:List Zf} {g:Zf} (ks:List Nat) (h:g.go false (zgo hs) [] (.l ks) = true):ZD c d hs g:=zl (.l ks) h
noncomputable def zn (N:Nat):Nat×Nat:=(Nat.mod (Nat.div N 16) (Nat.pow 16 (Nat.mod N 16)),Nat.div (Nat.div N 16) (Nat.pow 16 (Nat.mod N 16)))
noncomputable def zfo {α:Type} (N:Nat) (k:Nat→α):α:=N.rec (k 0) fun m U=>k m.succ
noncomputable def zd (f:Nat):Nat→Z×Nat:=f.rec (fun N=>(.k 0,N)) fun U D N=>zfo N fun N=>(Nat.mod N 16).rec
 ((Nat.mod (Nat.div N 16) 16).rec ((zn (Nat.div N 256)).rec fun i r=>(.v i,r)) fun d U=>d.rec (.w (Nat.mod (Nat.div N 256) 16),Nat.div N 4096) fun d U=>
  d.rec ((D (Nat.div N 256)).rec fun a r=>(.c a,r)) fun d U=>d.rec ((D (Nat.div N 256)).rec fun a r=>(D r).rec fun b r=>(.u a b,r)) fun d U=>
  d.rec ((D (Nat.div N 256)).rec fun a r=>(.g a,r)) fun d U=>(zn (Nat.div N 256)).rec fun n r=>(D r).rec fun a r=>(.m n a,r))
 fun d U=>d.rec ((zn (Nat.div N 16)).rec fun n r=>(.k n,r)) fun d U=>d.rec ((D (Nat.div N 16)).rec fun a r=>(D r).rec fun b r=>(.q a b,r)) fun d U=>
  d.rec ((D (Nat.div N 16)).rec fun a r=>(zn r).rec fun n r=>(.p a n,r)) fun d U=>d.rec ((D (Nat.div N 16)).rec fun a r=>(.p a 1,r)) fun d U=>(.v d,Nat.div N 16)
noncomputable def zF (f:Nat):Nat→Zf×Nat:=f.rec (fun N=>(.x,N)) fun U D N=>zfo N fun N=>
 let B:=fun k:Z→Z→Zf=>((zd 20 (Nat.div N 16)).rec fun a r=>(zd 20 r).rec fun b r=>(k a b,r):Zf×Nat)
 (Nat.mod N 16).rec (B .l) fun d U=>d.rec (B .s) fun d U=>d.rec (B .e) fun d U=>d.rec (B .L) fun d U=>d.rec (B .S) fun d U=>d.rec (B .E) fun d U=>
  d.rec ((D (Nat.div N 16)).rec fun f r=>(.n f,r)) fun d U=>d.rec ((D (Nat.div N 16)).rec fun f r=>(D r).rec fun g r=>(.j f g,r)) fun d U=>
  d.rec ((D (Nat.div N 16)).rec fun f r=>(D r).rec fun g r=>(.o f g,r)) fun d U=>(.x,Nat.div N 16)
noncomputable def zhs (n:Nat):Nat→List Zf×Nat:=n.rec (fun N=>([],N)) fun U D N=>(zF 9 N).rec fun f r=>(D r).rec fun l r=>(f :: l,r)
noncomputable def zks (n:Nat):Nat→List Nat×Nat:=n.rec (fun N=>([],N)) fun U D N=>zfo N fun N=>(Nat.beq (Nat.mod N 16) 15).rec ((D (Nat.div N 16)).rec fun l r=>(Nat.mod N 16 :: l,r)) ((zn (Nat.div N 16)).rec fun k r=>(D r).rec fun l r=>(k :: l,r))
noncomputable def zt (f:Nat):Nat→Zt×Nat:=f.rec (fun N=>(.l [],N)) fun U D N=>zfo N fun N=>
 (Nat.mod N 16).rec ((D (Nat.div N 16)).rec fun x r=>(D r).rec fun y r=>(.s x y,r)) fun d U=>d.rec ((D (Nat.div N 16)).rec fun x r=>(.k x,r)) fun d U=>(zks d (Nat.div N 16)).rec fun l r=>(.l l,r)
noncomputable def zbn (n:Nat):(List Nat→Prop)→Prop:=n.rec (fun P=>P []) fun U D P=>∀ {x:Nat},D fun c=>P (x :: c)
noncomputable def zbi (n:Nat):(List Int→Prop)→Prop:=n.rec (fun P=>P []) fun U D P=>∀ {x:Int},D fun c=>P (x :: c)
theorem zbn_i (n):∀ {P:List Nat→Prop},(∀ c,P c)→zbn n P:=by
 induction n with
 | zero=>exact fun h=>h _
 | succ n ih=>exact fun h x=>ih fun c=>h _
theorem zbi_i (n):∀ {P:List Int→Prop},(∀ c,P c)→zbi n P:=by
 induction n with
 | zero=>exact fun h=>h _
 | succ n ih=>exact fun h x=>ih fun c=>h _
noncomputable def zx (p:Zf×Nat) (fs hs:List Zf):Bool:=p.1.go false (zgo (fs ++ hs)) [] (zt 20 p.2).1
noncomputable def zc (v h N:Nat):Prop:=zbn v fun c=>ZD c [] (zhs h N).1 (zF 9 (zhs h N).2).1
theorem zy (v h N:Nat) (e:true = zx (zF 9 (zhs h N).2) [] (zhs h N).1):zc v h N:=zbn_i v fun c=>zl _ e.symm
theorem zu0 (N:Nat) (e:true = zx (zF 9 N) [] []):(zF 9 N).1.d [] []:=zl _ e.symm
theorem wM (N:Nat) (e:true = zx (zF 9 N) [] []) {a}:(zF 9 N).1.d [a] []:=zl _ e.symm
theorem zu2 (N:Nat) (e:true = zx (zF 9 N) [] []) {a b}:(zF 9 N).1.d [a,b] []:=zl _ e.symm
theorem zu3 (N:Nat) (e:true = zx (zF 9 N) [] []) {a b c}:(zF 9 N).1.d [a,b,c] []:=zl _ e.symm
theorem zu4 (N:Nat) (e:true = zx (zF 9 N) [] []) {a b c x}:(zF 9 N).1.d [a,b,c,x] []:=zl _ e.symm
structure Zo where
 k:Nat
 n:Nat
 a:Z
 b:Z
noncomputable def zov (k n a b:Nat) (z:Int):Nat:=k.rec (a - b) fun k U=>k.rec (min a b) fun k U=>k.rec z.toNat fun k U=>k.rec (a * n) fun k U=>a / n
noncomputable def Zo.v (o:Zo) (c:List Nat) (d:List Int):Nat:=zov o.k o.n (o.a.n c) (o.b.n c) (o.a.i c d)
noncomputable def Zo.f (o:Zo) (x:Z):Zf:=o.k.rec (zS x o.a o.b) fun k U=>k.rec (zM x o.a o.b) fun k U=>k.rec (zT x o.a) fun k U=>k.rec (.e x (.m o.n o.a)) fun k U=>zD o.n x o.a
noncomputable def Z.b (z:Z) (i:Nat):Bool:=z.rec (fun j=>Nat.blt j i) (fun U=>true) (fun U=>true) (fun U U x y=>x && y) (fun U U x=>x) (fun U U x=>x) (fun U x=>x) (fun U U x y=>x && y) fun U x=>x
noncomputable def Zo.ok (o:Zo) (i:Nat):Bool:=o.a.b i && (o.b.b i && Nat.blt 0 o.n)
noncomputable def zos (n:Nat):Nat→List Zo×Nat:=n.rec (fun N=>([],N)) fun U D N=>zfo N fun N=>
 (zd 20 (Nat.div N 16)).rec fun x r=>(Nat.blt (Nat.mod N 16) 2).rec
  ((Nat.beq (Nat.mod N 16) 2).rec ((zn r).rec fun n r=>(D r).rec fun l r=>(⟨Nat.mod N 16,n,x,.k 0⟩ :: l,r)) ((D r).rec fun l r=>(⟨2,1,x,.k 0⟩ :: l,r)))
  ((zd 20 r).rec fun y r=>(D r).rec fun l r=>(⟨Nat.mod N 16,1,x,y⟩ :: l,r))
noncomputable def zen (o:List Zo):List Nat→List Int→(List Nat→Prop)→Prop:=o.rec (fun c d P=>P c) fun x U D c d P=>D (c ++ [x.v c d]) d P
noncomputable def zfa (o:List Zo):Nat→List Zf:=o.rec (fun i=>[]) fun x U D i=>x.f (.v i) :: D (i + 1)
noncomputable def zob (o:List Zo):Nat→Bool:=o.rec (fun i=>true) fun x U D i=>x.ok i && D (i + 1)
theorem zget (c:List Nat) (y x i) (h:Nat.blt i c.length = true):(c ++ x).getD i y = c.getD i y:=by
 rw [List.getD_eq_getElem?_getD,List.getD_eq_getElem?_getD,List.getElem?_append_left (Nat.blt_eq.mp h)]
theorem zcg {α:Type} (f:α→α→α) {a b x y} (h:a = b) (k:x = y):f a x = f b y:=h ▸ k ▸ rfl
theorem Z.b_ok {c:List Nat} {d:List Int} (x) (z:Z):z.b c.length = true→z.n (c ++ x) = z.n c∧z.i (c ++ x) d = z.i c d:=by
 induction z with
 | v i=>exact fun h=>⟨zget c 0 x i h,rfl⟩
 | w _ | k _=>exact fun h=>⟨rfl,rfl⟩
 | q a b ha hb=>exact fun h=>have h:=Ac.mp h;⟨zcg Nat.add (ha h.1).1 (hb h.2).1,zcg Int.add (ha h.1).2 (hb h.2).2⟩
 | u a b ha hb=>exact fun h=>have h:=Ac.mp h;⟨rfl,zcg Int.sub (ha h.1).2 (hb h.2).2⟩
 | m n a ha=>exact fun h=>⟨congrArg _ (ha h).1,congrArg _ (ha h).2⟩
 | p a n ha=>exact fun h=>⟨congrArg (fun x=>x + n) (ha h).1,congrArg (fun x=>x + (n:Int)) (ha h).2⟩
 | c a ha=>exact fun h=>⟨rfl,congrArg _ (ha h).1⟩
 | g a ha=>exact fun h=>⟨rfl,congrArg _ (ha h).2⟩
theorem zget' (c:List Nat) (v x):(c ++ v :: x).getD c.length 0 = v:=by
 rw [List.getD_eq_getElem?_getD,List.getElem?_append_right (Ag _),Nat.sub_self];rfl
theorem zx0 {p a b x y:Nat} (g:p = a - b) (h:x = a) (k:y = b):p + y = x∨(p = 0∧x ≤ y):=by cases h;cases k;cases g;exact rK ..
theorem zx1 {p a b x y:Nat} (g:p = min a b) (h:x = a) (k:y = b):(p = x∧x ≤ y)∨(p = y∧y ≤ x):=by cases h;cases k;cases g;exact zmin ..
theorem zx2 {p:Nat} {a x:Int} (g:p = a.toNat) (h:x = a):(p:Int) = x∨(p = 0∧x ≤ ((0:Nat):Int)):=by cases h;cases g;exact ztn ..
theorem zx3 {p a x n:Nat} (g:p = a * n) (h:x = a):p = n * x:=by cases h;cases g;exact Nat.mul_comm ..
theorem zx4 {p a x n:Nat} (m:0 < n) (g:p = a / n) (h:x = a):n * p ≤ x∧x < n * p + n:=by cases h;cases g;exact zdn m
theorem zfk {C c:List Nat} {d:List Int} {n i:Nat} {a b:Z} (ha:a.n C = a.n c) (hz:a.i C d = a.i c d) (hb:b.n C = b.n c) (hn:0 < n) (k):C.getD i 0 = zov k n (a.n c) (b.n c) (a.i c d)→(Zo.f ⟨k,n,a,b⟩ (.v i)).d C d:=
 k.casesOn (fun g=>zx0 g ha hb) fun k=>k.casesOn (fun g=>zx1 g ha hb) fun k=>k.casesOn (fun g=>zx2 g hz) fun k=>k.casesOn (fun g=>zx3 g ha) fun k g=>zx4 hn g ha
theorem Zo.f_ok {c:List Nat} {d:List Int} (x) (o:Zo) (h:o.ok c.length = true):(o.f (.v c.length)).d (c ++ o.v c d :: x) d:=
 have h:=Ac.mp h
 have k:=Ac.mp h.2
 have p:=Z.b_ok (d:=d) (o.v c d :: x) o.a h.1
 zfk p.1 p.2 (Z.b_ok (d:=d) _ o.b k.1).1 (Nat.blt_eq.mp k.2) o.k (zget' c _ x)
theorem zen_i {d:List Int} (o:List Zo):∀ {c P},zob o c.length = true→(∀ x,ZA (c ++ x) d (zfa o c.length)→P (c ++ x))→zen o c d P:=by
 induction o with
 | nil=>exact fun {c P} U h=>show P c from List.append_nil c ▸ h [] trivial
 | cons o os ih=>
  intro c P b h
  have b:=Ac.mp b
  have l:(c ++ [o.v c d]).length = c.length + 1:=Ct
  refine ih (l ▸ b.2) fun x hx=>?_
  rw [Cv] at hx ⊢
  exact h _ ⟨o.f_ok _ b.1,l ▸ hx⟩
theorem zf' {c:List Nat} {d:List Int} {hs:List Zf} {g:Zf} (fs:List Zf) (H:ZA c d fs) (h:ZD c d (fs ++ hs) g):ZD c d hs g:=by
 induction fs with
 | nil=>exact h
 | cons f fs ih=>exact ih H.2 (h H.1)
noncomputable def zq (v i k h N:Nat):Prop:=zbn v fun c=>zbi i fun d=>zen (zos k N).1 c d fun c=>ZD c d (zhs h (zos k N).2).1 (zF 9 (zhs h (zos k N).2).2).1
theorem zbn_l (n):∀ {P:List Nat→Prop},(∀ c,c.length = n→P c)→zbn n P:=by
 induction n with
 | zero=>exact fun h=>h _ rfl
 | succ n ih=>exact fun h x=>ih fun c e=>h _ (congrArg _ e)
theorem zw (v i k h N:Nat) (e:true = (zob (zos k N).1 v && zx (zF 9 (zhs h (zos k N).2).2) (zfa (zos k N).1 v) (zhs h (zos k N).2).1)):zq v i k h N:=by
 have e:=Ac.mp e.symm
 refine zbn_l v fun c l=>zbi_i i fun d=>zen_i _ (l ▸ e.1) fun x hx=>zf' _ hx (zl _ (l ▸ e.2))
theorem ω8:zc 3 2 0x1100610016076267076522:=@zy _ _ _ rfl
theorem ω9:zq 3 0 1 2 0x11000119110000805817617652211150:=@zw _ _ _ _ _ rfl
theorem ω10:zq 3 0 1 2 0x1100001911010080100101091010108007648227617652211150:=@zw _ _ _ _ _ rfl
theorem ω12{a:Int}:0 ≤ a→¬a < 0:=fun h0=>zw 0 1 0 1 0x1140101046010013 rfl h0
theorem ω15:zc 2 1 74194183488:=@zy _ _ _ rfl
theorem ω16:zc 2 1 74194117952:=@zy _ _ _ rfl
theorem ω22:zc 3 2 300541686449744:=@zy _ _ _ rfl
theorem ω24:zc 2 1 74194355793:=@zy _ _ _ rfl
theorem ω26:zq 3 0 1 2 0x100017110017067521871650560:=@zw _ _ _ _ _ rfl
theorem nB:zq 1 1 1 2 0x1100118110017056152001040100130102:=@zw _ _ _ _ _ rfl
theorem ω39{a b:Nat}:¬a < b→b ≤ a:=fun h0=>zy 2 1 74178389270 rfl h0
theorem ω44:zc 2 2 0x11016654110004162fa03151:=@zy _ _ _ rfl
theorem ω54:zc 1 1 77731217115324752:=@zy _ _ _ rfl
theorem ω55:zc 2 2 0x1115100000071605603e831540:=@zy _ _ _ rfl
theorem ω56:zc 2 1 74193372752:=@zy _ _ _ rfl
theorem ω57:zc 2 1 4637132368:=@zy _ _ _ rfl
theorem ω59:zc 1 1 77731217115259216:=@zy _ _ _ rfl
theorem ω60:zc 1 1 0x1141e215401d2150:=@zy _ _ _ rfl
theorem ω61:zc 1 1 0x11427104154027104121530:=@zy _ _ _ rfl
theorem ω63{a:Nat}:a≤a+1:=wM 1266768 rfl
theorem ω66:zq 0 1 0 2 0x1015110060110061011006110110511103110105211010581110105801010584110104010013:=@zw _ _ _ _ _ rfl
theorem ω71{a b:Nat}{c d:Prop}{e:Int}(h:a≤b)(k:c∧d∧0≤e∧e<(a:Int)):e<(b:Int):=Int.lt_of_lt_of_le k.2.2.2 (Int.ofNat_le.mpr h)
theorem ω76{a:Nat}:a≤a:=wM 79184 rfl
theorem ω80:zc 1 1 0x114100000071503e831540:=@zy _ _ _ rfl
theorem ω82:zc 1 1 0x114100000071503e83150:=@zy _ _ _ rfl
theorem ω83:zc 1 1 77731217115193680:=@zy _ _ _ rfl
theorem ω84:zc 1 1 0x1141e215401c2150:=@zy _ _ _ rfl
theorem ω87:zc 1 1 0x1141d215401c2150:=@zy _ _ _ rfl
theorem ω95:zc 1 1 303817397915665:=@zy _ _ _ rfl
theorem ω96:zq 2 1 1 4 0x11000010a110000190671620010460115603e8315400102:=@zw _ _ _ _ _ rfl
theorem ω97:zc 1 1 0x1141000000715031150:=@zy _ _ _ rfl
theorem nF:zc 1 1 0x1143e8315403e83131530:=@zy _ _ _ rfl
theorem qE:zc 1 1 0x1143e8315403e83141530:=@zy _ _ _ rfl
theorem ω107:zc 2 3 0x110163e83164054606503e83131530:=@zy _ _ _ rfl
theorem ω110:zc 2 2 0x11153e83164054603e83141530:=@zy _ _ _ rfl
theorem ω111{a b:Prop}{c:Int}{d:Nat}(k:a∧b∧0≤c∧c<(d:Int)):c<((d+1+1:Nat):Int):=Int.lt_of_lt_of_le k.2.2.2 (Int.ofNat_le.mpr (Nat.le_add_right d 2))
theorem xO {a:Nat}: 0 ≤ (↑a:Int):=(zL [1] rfl:ZN [a] [] (.L (.k 0) (.c X0)))
theorem ω122:zc 2 2 4791006042392144:=@zy _ _ _ rfl
theorem ω123:zc 2 2 0x10153153605460650:=@zy _ _ _ rfl
theorem ω125:zq 1 1 0 1 0x1015520010452001040100137:=@zw _ _ _ _ _ rfl
theorem uQ:zc 1 1 0x1141e215401b2150:=@zy _ _ _ rfl
theorem ω129:zc 1 1 0x11427104154402710411e2530:=@zy _ _ _ rfl
theorem ω130:zq 0 1 0 2 0x1015110060110061011006110110061110110511110411010531101058211010581110105801010585110104010013:=@zw _ _ _ _ _ rfl
theorem rN:zc 1 1 0x1141d215401b2150:=@zy _ _ _ rfl
theorem ω132:zc 1 1 0x11427104121544302710411e2530:=@zy _ _ _ rfl
theorem ω135:zc 1 1 0x114100000071503e83141530:=@zy _ _ _ rfl
theorem ω138:zq 2 1 1 4 0x11000010a110000190671620010460115603e831315300102:=@zw _ _ _ _ _ rfl
theorem ω148:zc 1 1 0x1142710413154302710411e2530:=@zy _ _ _ rfl
theorem ω153:zc 3 4 0x10101731537064707605460650:=@zy _ _ _ rfl
theorem ω156:zc 1 1 0x11427104114254302710411e2530:=@zy _ _ _ rfl
theorem ω166:zq 0 1 0 2 0x1015110060110510111010501010582110104010013:=@zw _ _ _ _ _ rfl
theorem ω172:zc 1 1 0x114271041540271041a1530:=@zy _ _ _ rfl
theorem ω178{a:Int}:-1000 < a→a < 10000→-20000 < a:=fun h0 h1=>zw 0 1 0 2 0x11050104e204140427104101040103e831404 rfl h0 h1
theorem ω179{a:Int}:-1000 < a→a < 10000→a < 20000:=fun h0 h1=>zw 0 1 0 2 0x10154e2041010427104101040103e831404 rfl h0 h1
theorem ω180:zc 2 1 0x114104062052045200137651:=@zy _ _ _ rfl
theorem ω181:zq 1 1 1 1 0x110010811000701001008101007000106205520010401001370102:=@zw _ _ _ _ _ rfl
theorem ω184:zc 1 2 0x10055203e831404a115051110:=@zy _ _ _ rfl
theorem ω185:zc 1 2 0x10152710415204a115051110:=@zy _ _ _ rfl
theorem ω203{a b c d e f g h i j k l m n o p q}:ZN [a,b,c,d,e,f,g,h,i,j,k,l,m,n,o,p,q] [.l (.k 1) X0,.l X0 (.k 10),.l X1 (.k 8),.l X2 (.k 1000),.l X3 (.k 6),.l X4 (.k 5),.l (.q X5 (.m 30 X6)) (.q (.q X2 (.m 30 X1)) (.m 12 X7)),.l (.q X8 (.m 3 X6)) (.q (.q X0 (.m 3 X1)) X9),.s X7 X3,.e X10 (.q X9 X11),.l X10 X4,.e X12 X7,.l X13 X6,.l X14 (.q (.p X5 1) (.m 30 X13)),.l X15 (.q X8 (.m 3 X13)),.e X16 X13] (.l (.p X14 10) (.k 10000)):=zL [0,0,0,1,30,0,0,0,0,0,12,0,1,0,12,1,30,0,0,1] rfl
theorem ω209:zc 8 7 0x101000110bc60ab2c0cb0b70580a928276051150:=@zy _ _ _ rfl
theorem ω210:zq 11 0 1 6 0x1101100103c1a83150722b1003150f20b10020d20620305bc2f0de2d315052c0b92a298315072263150520d60:=@zw _ _ _ _ _ rfl
theorem ω216:zc 1 1 77731217114931536:=@zy _ _ _ rfl
theorem oC:zc 1 1 0x1141e21540182150:=@zy _ _ _ rfl
theorem ω222:zc 1 1 0x1141c21540182150:=@zy _ _ _ rfl
theorem ω226:zc 1 1 0x1045203e831404520013:=@zy _ _ _ rfl
theorem ω227:zc 2 3 0x1011627104162045206204a115051110:=@zy _ _ _ rfl
theorem ω236:zc 2 1 74193376848:=@zy _ _ _ rfl
theorem ω237:zc 2 1 74193376849:=@zy _ _ _ rfl
theorem oB:zc 1 1 77731217115062608:=@zy _ _ _ rfl
theorem wB:zc 1 1 0x1141000000715061150:=@zy _ _ _ rfl
theorem ω245:zc 2 2 0x1015100000071640642160642150:=@zy _ _ _ rfl
theorem vN:zc 1 1 0x11410000007150322150:=@zy _ _ _ rfl
theorem ω248:zc 1 1 0x11410000007150642150:=@zy _ _ _ rfl
theorem ω256:zc 2 1 1187094029393:=@zy _ _ _ rfl
theorem tT:zc 2 2 0x1141015065165266451:=@zy _ _ _ rfl
theorem ω260:zc 3 3 0x10016100017065165266726451:=@zy _ _ _ rfl
theorem ω261:zc 3 3 0x11006101007065167265266451:=@zy _ _ _ rfl
theorem ω262:zc 3 4 0x1015110016106516726652664716451:=@zy _ _ _ rfl
theorem ω263:zc 2 1 74194117713:=@zy _ _ _ rfl
theorem ω265:zc 1 1 0x1141a21540182150:=@zy _ _ _ rfl
theorem ω266:zq 6 0 3 2 0x11151118c21502ad2150206b21502ad2150208c215026b215020961107611056110:=@zw _ _ _ _ _ rfl
theorem nE:zc 1 1 0x1141c215401a2150:=@zy _ _ _ rfl
theorem ω269:zq 2 0 1 1 0x110017110117010000007170322150561:=@zw _ _ _ _ _ rfl
theorem ω271:zc 3 3 0x1a11610000007160a117175a150260a1151:=@zy _ _ _ rfl
theorem ω276:zc 2 1 0x114013c2506177045064212250617704506421250:=@zy _ _ _ rfl
theorem ω277:zc 2 1 0x1005520401364216064215407:=@zy _ _ _ rfl
theorem ω278:zc 2 2 0x10151000000716406421606421540:=@zy _ _ _ rfl
theorem ω285:zc 3 2 0x13c2f15741770450642126053c2507177045064212260642150:=@zy _ _ _ rfl
theorem ω290:zc 2 1 1187094201936:=@zy _ _ _ rfl
theorem ω293:zc 1 2 0x1015100000071503e83150532210:=@zy _ _ _ rfl
theorem qD:zc 1 1 0x1141e215401a2150:=@zy _ _ _ rfl
theorem ω300:zc 3 1 77815059237528144:=@zy _ _ _ rfl
theorem ω309:zq 1 1 0 3 0x10116322120010452001042b21505011:=@zw _ _ _ _ _ rfl
theorem ω310:zc 1 1 0x11428215401e2150:=@zy _ _ _ rfl
theorem ω311:zc 1 1 0x11410000007150a1150:=@zy _ _ _ rfl
theorem ω312:zq 2 0 1 1 0x114110007010101710100700572651651:=@zw _ _ _ _ _ rfl
theorem ω313:zc 3 3 0x1110071000000716067256161150:=@zy _ _ _ rfl
theorem ω316:zc 2 2 0x11151000000716056161150:=@zy _ _ _ rfl
theorem ω317{a:Nat}{b:Prop}(h:a<0):b:=absurd h (Nat.not_lt_zero _)
theorem ω320:zc 1 2 0x110510000007150501161150:=@zy _ _ _ rfl
theorem ω321:zc 2 1 0x114100000071606116520:=@zy _ _ _ rfl
theorem ω327:zq 1 1 0 1 0x1015110505200104010111403752001040100137:=@zw _ _ _ _ _ rfl
theorem ω328:zc 1 1 0x114fa03151322150:=@zy _ _ _ rfl
theorem ω329:zq 1 2 0 2 0x101107110017052011041101114037010110552001040100137:=@zw _ _ _ _ _ rfl
theorem ω333:zc 2 1 0x114100000071507d03166150520:=@zy _ _ _ rfl
theorem ω334{a b:Nat}:a < b→(↑a:Int) < (↑b:Int):=fun h0=>zy 2 1 303886202062417 rfl h0
theorem ω335:zc 1 1 77753207349190992:=@zy _ _ _ rfl
theorem ω340:zq 0 1 0 1 0x10154021010432212001040100137:=@zw _ _ _ _ _ rfl
theorem ω349:zc 2 2 0x110161000000716520a116091152:=@zy _ _ _ rfl
theorem ω357{a b:Int}{c:Prop}(h:a=b)(k:b<a):c:=absurd k (h▸Int.lt_irrefl _)
theorem ω358:zq 1 1 0 2 0x1101610106032212001040100137520010401001372b2150:=@zw _ _ _ _ _ rfl
theorem ω361:zc 1 1 0x1141e21540162150:=@zy _ _ _ rfl
theorem ω362:zc 3 3 0x1111610000007160571760a1150:=@zy _ _ _ rfl
theorem ω369{a:Nat}{b:Prop}(h:a+1=0):b:=nomatch h
theorem ω381:zc 1 1 77713624928624976:=@zy _ _ _ rfl
theorem ω383:zc 1 1 77715823951880528:=@zy _ _ _ rfl
theorem ω384:zc 2 3 0x101107a1160562a115051110:=@zy _ _ _ rfl
theorem ω409:zq 0 1 0 1 0x10150101056010014:=@zw _ _ _ _ _ rfl
theorem ω439{a}:ZN [a,(a-0)] [] (.l X1 X0):=zf [zS X1 X0 (.k 0)] ⟨rK ..,trivial⟩ (.s (.l [0,1,1]) (.l [0,0,1,1])) rfl
theorem ω453{a b c d e}:ZN [a,b,c,d,e,(b-1),(d-1)] [.s X0 X1,.e X2 X5,.e X3 X1,.s X0 X3,.e X4 X6] (.e X4 X2):=zf [zS X5 X1 (.k 1),zS X6 X3 (.k 1)] ⟨rK ..,rK ..,trivial⟩ (.s (.s (.s (.l [1,0,0,1,0,0,1,0,1,0,0,1,1]) (.l [0,0,0,1,0,0,1,0,1,0,0,0,1,1])) (.k (.l [0,0,0,0,0,0,1,0,0,0,1,1]))) (.s (.s (.l [0,1,0,0,1,1,0,0,0,1,1,0,1]) (.l [0,1,0,0,0,0,0,0,0,0,1,0,0,1])) (.s (.l [0,1,0,0,1,0,0,0,0,1,1,0,0,1]) (.l [0,1,0,0,0,0,0,0,0,0,1,0,0,0,1])))) rfl
theorem ω478{a b c d}:ZD [a,b,c,d] [((c:Int)/((2:Nat):Int))] [.l X0 (.k 10000),.s (.k 0) X1,.l X2 X0,.E (.c X2) (.c X3),.e X2 X1] (.L (.k 0) Y0):=zf [zI 2 Y0 (.c X2)] ⟨zdi (by decide),trivial⟩ (.l [1,0,0,0,0,1,0,1,0,2]) rfl
theorem ω479{a b c d}:ZD [a,b,c,d,(Int.toNat ((c:Int)/((2:Nat):Int)))] [((c:Int)/((2:Nat):Int))] [.l X0 (.k 10000),.s (.k 0) X1,.l X2 X0,.E (.c X2) (.c X3),.e X2 X1] (.s X4 X1):=zf [zI 2 Y0 (.c X2),zT X4 Y0] ⟨zdi (by decide),ztn ((c:Int)/((2:Nat):Int)),trivial⟩ (.s (.l [0,1,0,0,0,1,0,0,2,0,1,2]) (.l [0,0,0,0,0,1,0,0,0,1,0,0,1])) rfl
theorem nA{a:Nat}:a≤a+1:=wM 1266768 rfl
theorem ω521:zc 1 2 0x100165200145200140101373e83141530:=@zy _ _ _ rfl
theorem ω523:zq 2 1 1 5 0x1100001000c110000001b0671620010452001401013760115603e831415300102:=@zw _ _ _ _ _ rfl
theorem ω537:zc 1 2 0x110063e8315405200140101373e83141530:=@zy _ _ _ rfl
theorem ω538:zc 1 2 0x100165200135200140101373e83141530:=@zy _ _ _ rfl
theorem ω539{a}:ZN [a] [] (.S (.c X0) (.c (.p X0 1))):=zL [1] rfl
theorem ω542{a}:ZD [] [a] [.S (.g (.k 20000)) Y0,.S Y0 (.k 20000)] (.j (.L (.g (.k 9223372036854775808)) Y0) (.S Y0 (.k 9223372036854775808))):=zl (.s (.l [0,1,1]) (.l [1,0,1])) rfl
theorem ω547{a}:ZN [a,(Int.toNat ((a:Int)-((0:Nat):Int)))] [] (.e X1 X0):=zf [zT X1 (.u (.c X0) (.k 0))] ⟨ztn ((a:Int)-((0:Nat):Int)),trivial⟩ (.s (.s (.l [1,0,1]) (.l [1,0,0,1])) (.s (.l [0,1,1]) (.l [0,0,1,1]))) rfl
theorem ω586{a}:ZD [a,(a/2)] [((a:Int)/((2:Nat):Int))] [] (.E (.q (.k 3) Y0) (.c (.q (.k 3) X1))):=zf [zI 2 Y0 (.c X0),zD 2 X1 X0] ⟨zdi (by decide),zdn (by decide),trivial⟩ (.s (.l [0,1,1,0,2]) (.l [1,0,0,1,2])) rfl
theorem ω591{a b}:ZN [a,b,(a-b)] [] (.l (.k 1) (.q (.k 7) (.m 6 X2))):=zf [zS X2 X0 X1] ⟨rK ..,trivial⟩ (.k (.l [1])) rfl
theorem ω612{a b}:ZN [a,b,(min a b)] [] (.l X2 X1):=zf [zM X2 X0 X1] ⟨zmin ..,trivial⟩ (.s (.l [1,0,1,1]) (.l [0,0,1,1])) rfl
theorem ω629{a b c d e f}:ZN [a,b,c,d,e,f,(6-(d+((e+1)+1))),((b+1)-(a+1)),((c+1)-0),(6-(d+(e+1))),((b+1)-a)] [.s X0 X1,.l X2 (.k 3),.l (.q X3 (.p (.p X4 1) 1)) (.k 6)] (.s (.q (.m 5 X6) (.q (.q X5 (.p X7 0)) (.p X8 0))) (.q (.m 5 X9) (.q X5 (.p X10 0)))):=zf [zS X6 (.k 6) (.q X3 (.p (.p X4 1) 1)),zS X7 (.p X1 1) (.p X0 1),zS X8 (.p X2 1) (.k 0),zS X9 (.k 6) (.q X3 (.p X4 1)),zS X10 (.p X1 1) X0] ⟨rK ..,rK ..,rK ..,rK ..,rK ..,trivial⟩ (.s (.s (.s (.s (.s (.l [0,1,0,1,0,5,0,0,1,0,1,0,5,1]) (.l [0,0,1,1])) (.k (.l [1,0,0,1]))) (.k (.k (.l [0,0,0,1])))) (.k (.k (.k (.l [0,0,1,1]))))) (.s (.s (.s (.s (.l [5,1,0,1,0,5,0,0,1,0,1,0,0,5,1]) (.l [0,0,1,1])) (.k (.l [1,0,0,1]))) (.k (.k (.l [0,0,0,1])))) (.k (.k (.k (.l [0,0,1,1])))))) rfl
theorem ω666{a b c d e f}:ZD [a,b,c,d,e,(b-1),((b-1)-a),((b+1)-((a+1)+1)),((b+1)-(a+1))] [f] [.s X0 X1,.e X6 X2,.o (.E Y0 (.g (.k 1))) (.j (.L (.k 0) Y0) (.S Y0 (.c X3))),.l X7 X4,.n (.e X4 X2)] (.l X8 X4):=zf [zS X5 X1 (.k 1),zS X6 X5 X0,zS X7 (.p X1 1) (.p (.p X0 1) 1),zS X8 (.p X1 1) (.p X0 1)] ⟨rK ..,rK ..,rK ..,rK ..,trivial⟩ (.s (.s (.s (.s (.k (.s (.l [1,1,1,0,0,0,0,1,0,0,1,0,1]) (.l [1,0,0,1,0,0,1,0,0,1,0,1,0,1]))) (.k (.k (.l [0,0,0,1,1])))) (.s (.k (.s (.l [1,0,1,0,0,0,0,1,0,0,0,1,0,1]) (.l [1,0,0,0,0,0,1,1,0,0,0,0,0,0,1]))) (.k (.k (.l [0,0,0,1,1]))))) (.k (.s (.k (.s (.l [1,0,1,0,0,0,0,0,0,1]) (.l [1,0,0,0,0,0,1,1,0,0,1,0,1]))) (.k (.k (.l [0,0,0,1,1])))))) (.s (.k (.s (.k (.s (.l [1,0,1,0,0,0,0,0,1,0,0,1]) (.l [1,0,0,0,0,0,1,0,0,1,0,0,1]))) (.k (.k (.l [0,0,0,1,1]))))) (.k (.s (.k (.s (.l [1,0,1,0,0,0,0,0,0,1]) (.l [1,0,0,0,0,0,1,0,0,0,1,0,0,1]))) (.k (.k (.l [0,0,0,1,1]))))))) rfl
theorem ω668{a b}:ZN [a,b,((a+1)-((0+1)+a))] [] (.l X2 X1):=zf [zS X2 (.p X0 1) (.q (.p (.k 0) 1) X0)] ⟨rK ..,trivial⟩ (.s (.l [0,1,1]) (.l [0,0,1,1])) rfl
theorem ω670{a b}:ZN [a,b,(Int.toNat ((a:Int)-(b:Int))),(a-b)] [] (.e X2 X3):=zf [zT X2 (.u (.c X0) (.c X1)),zS X3 X0 X1] ⟨ztn ((a:Int)-(b:Int)),rK ..,trivial⟩ (.s (.s (.s (.l [0,1,1,0,1]) (.l [0,0,1,0,0,1])) (.s (.l [0,1,1,0,0,1]) (.l [0,0,1,0,0,0,1]))) (.s (.s (.l [1,0,0,1,1]) (.l [1,0,0,0,1,1])) (.k (.l [0,0,1,1])))) rfl
end
end
end
section
section
structure Bs where
 prog:Program
 w:World
 base:Heap
 K:Frag
inductive AV where
 | none
 | bool (b:Bool)
 | int (i:Int)
 | str (x:Str)
 | ref (a:Addr)
 | con (v:Value)
 | rng (lo hi:Int)
 | tup (xs:List AV)
 | lst (xs:List AV)
 | idct (ks:List Int) (xs:List AV)
 | iset (S:Int→Bool) (n:Nat)
 | obj (C:Addr) (ns:List Str) (xs:List AV)
noncomputable abbrev tV (vs:List Value) (n:Nat):Obj:={ cls:=.type "list",dict:=none,data:=.seq vs.toArray n,slots:=#[] }
noncomputable def sW (l:Nat) (A:Around):Prop:=A.handled = none∧A.depth ≤ 400 + 10 * l∧A.units ≤ 200 + 100 * l
structure SF (K:Frag) (base:Heap):Prop where
 X:K.In base
 nl:base.NoLimit
 gb:∃ mg mb,base.Ns mainGlobals mg∧base.Ns builtinsNs mb∧∀ x:Str,x ≠ "__name__"→mb x = bootBuiltins x
noncomputable def zJ (n:Nat):Option Stmt:=PySem.Challenge.pw_nm0017_01.main.body[n]?
noncomputable def vJ:Scope:=PySem.Challenge.pw_nm0017_01.main.scope
structure SV where
 name:Str
 ps:List Str
 body:List Stmt
 els:List Stmt
 scope:Scope
noncomputable def sv:Stmt→SV
 | .FunctionDef x a b _ _ _ sc _ _ _=>⟨x,a.args.map (fun p=>p.arg),b,[],sc⟩
 | .ClassDef x _ _ b _ _ _ _ _ _ _=>⟨x,[],b,[],vJ⟩
 | .For _ _ b _ _=>⟨"",[],b,[],vJ⟩
 | .While _ b _ _=>⟨"",[],b,[],vJ⟩
 | .If _ b o _=>⟨"",[],b,o,vJ⟩
 | _=>⟨"",[],[],[],vJ⟩
noncomputable def svO (o:Option Stmt):SV:=o.elim ⟨"",[],[],[],vJ⟩ sv
noncomputable def wW (o:Option Stmt):Str:=(svO o).name
noncomputable def xD (o:Option Stmt):List Stmt:=(svO o).body
noncomputable def yR (o:Option Stmt):Scope:=(svO o).scope
noncomputable def yL (o:Option Stmt):List Str:=(svO o).ps
noncomputable def inB (l:List Stmt):List Stmt:=(svO l.head?).body
noncomputable def elB (l:List Stmt):List Stmt:=(svO l.head?).els
noncomputable def vD (n:Nat) (s:Option Stmt):Option Stmt:=(xD s)[n]?
noncomputable def fnIdx:List Nat:=[4,6,7,8,9,10,13,15,20,22,23,24,25,26,27,28,29,30,31,32,33,34,35,36,37,38,39,40,41]
inductive End where
 | on (a:Nat)
 | again (a b:Nat)
 | give
 | fork (a b:Nat)
 | table (a b c:Nat)
noncomputable def encE:End→AV
 | .on a=>.tup [.str "on",.int a]
 | .again a b=>.tup [.str "again",.int a,.int b]
 | .give=>.tup [.str "give"]
 | .fork a b=>.tup [.str "fork",.int a,.int b]
 | .table a b c=>.tup [.str "table",.int a,.int b,.int c]
noncomputable def vT:List (List End):=[[.give],[.on 1,.again 1 2,.give],[.fork 1 2,.on 3,.on 3,.give],[.again 0 1,.give],[.on 1,.fork 2 3,.on 4,.on 4,.again 1 5,.give],[.table 1 2 3,.on 2,.on 3,.give],[.fork 1 2,.again 0 2,.give]]
noncomputable def uB:Nat→List Str
 | 1=>["op","dst","args","more","is_volatile","line"]
 | 2=>["number","steps","end"]
 | 3=>["name","params","is_static","slots","blocks","registers","has_value"]
 | 14=>["allocation","kept","alive"]
 | 17=>["place","incoming","fetched","saved_used","spills"]
 | _=>[]
noncomputable def xI:Nat→List Str
 | 14=>["__init__","is_elsewhere","begin","clash","lost","back_over"]
 | _=>["__init__"]
noncomputable def nO (mt:Nat→Nat→Addr) (n:Nat):List (Str×Addr):=(xI n).zipIdx.map fun p=>(p.1,mt n p.2)
noncomputable def rZ:List Nat:=[1,2,3,14,17]
noncomputable def refV (v:Value):Addr:=match v with
 | .ref a=>a
 | _=>0
noncomputable def refOf (v:Option (Option Value)):Addr:=refV ((v.getD none).getD .none)
noncomputable def faK (K:Frag) (n:Nat):Addr:=refOf (nsIn K mainGlobals (wW (zJ n)))
noncomputable def clsD (x:Data):Option ClassData:=match x with
 | .cls cd=>some cd
 | _=>none
noncomputable def dctD (x:Data):Option (Array DictEntry):=match x with
 | .dict es _=>some es
 | _=>none
noncomputable def fncD (x:Data):Option FuncData:=match x with
 | .func fd=>some fd
 | _=>none
noncomputable def seqD (x:Data):Option (List Value):=match x with
 | .seq vs _=>some vs.toList
 | _=>none
noncomputable def strV (v:Value):Bool:=match v with
 | .str _ _=>true
 | _=>false
noncomputable def datK (K:Frag) (a:Addr):Option Data:=(K.lookup a).map Obj.data
noncomputable def nsOf (K:Frag) (C:Addr):Addr:=((datK K C).bind clsD).elim 0 ClassData.ns
noncomputable def mtK (K:Frag) (n i:Nat):Addr:=refOf (nsIn K (nsOf K (faK K n)) (((xI n)[i]?).getD ""))
noncomputable def fdG (K:Frag) (a:Addr):Option FuncData:=(datK K a).bind fncD
noncomputable def kindO (o:Obj):Option (List AV→AV):=if o.cls = .type "list" then some .lst else if o.cls = .type "tuple" then some .tup else none
noncomputable def mapO (f:Value→Option AV) (vs:List Value):Option (List AV):=vs.rec (some []) fun v U r=>(f v).bind fun x=>r.bind fun xs=>some (x :: xs)
noncomputable def avO (r:Value→Option AV) (o:Obj):Option AV:=(seqD o.data).bind fun vs=>(mapO r vs).bind fun l=>(kindO o).bind fun f=>if o.dict = none∧o.slots = #[] then some (f l) else none
noncomputable def lfV (v:Value) (k:Addr→Option AV):Option AV:=match v with
 | .int i _=>some (.int i)
 | .str x _=>some (.str x)
 | .ref a=>k a
 | _=>none
noncomputable def avK (K:Frag) (n:Nat):Value→Option AV:=n.rec (fun U=>none) fun U r v=>lfV v fun a=>(K.lookup a).bind (avO r)
noncomputable def valK (K:Frag) (x:Str):Value:=((nsIn K mainGlobals x).getD none).getD .none
noncomputable def dictO (K:Frag) (N:Addr):Option (Array DictEntry):=(datK K N).bind dctD
noncomputable def uN (K:Frag) (N:Addr):Array DictEntry:=(dictO K N).getD #[]
noncomputable def isFnK (K:Frag) (a:Addr):Bool:=decide ((K.lookup a).map Obj.cls = some (.type "function"))
noncomputable abbrev FT:=Option (FuncBody×Scope×List (Str×Addr)×Addr×Addr×Bool)×Option (Value→Value→Value→Value→Value→Value→Sem (List (Str×Value)))
noncomputable def six (v0 v1 v2 v3 v4 v5:Value) (k:Nat):List Value:=[v0,v1,v2,v3,v4,v5].take k
noncomputable def fnT (K:Frag) (a:Addr) (k:Nat):FT:=
 ((fdG K a).map (fun fd=>(fd.body,fd.scope,fd.closure,fd.globals,fd.builtins,codeIn K fd.code fd.qualname)),
  (fdG K a).map (fun fd=>fun v0 v1 v2 v3 v4 v5=>bindArgs fd ⟨six v0 v1 v2 v3 v4 v5 k,[]⟩))
noncomputable def fnV (s:Option Stmt):FT:=(some (.stmts (xD s),yR s,[],mainGlobals,builtinsNs,true),some fun v0 v1 v2 v3 v4 v5=>pure ((yL s).zip (six v0 v1 v2 v3 v4 v5 (yL s).length)))
noncomputable def isRefK (K:Frag) (x:Str):Bool:=decide (nsIn K mainGlobals x = some (some (.ref (refOf (nsIn K mainGlobals x)))))
noncomputable def isUnK (K:Frag) (x:Str):Bool:=decide (nsIn K mainGlobals x = some none)
noncomputable def cstB (K:Frag) (x:Str):Bool:=decide (nsIn K mainGlobals x = some (some (valK K x)))
noncomputable def slO (o:Obj) (i:Nat):Option Value:=(o.slots[i]?).getD none
noncomputable def clsT (K:Frag) (C:Addr):Bool:=(K.lookup C).elim false fun o=>(clsD o.data).elim false fun cd=>decide (o.cls = .type "type"∧cd.mro = [.ref C,.type "object"]∧cd.hasDict = true∧cd.abstract = false∧cd.hasDel = false∧o.slots = #[slO o 0,slO o 1,slO o 2,slO o 3,some (.builtin "object.__new__"),slO o 5])
theorem wP {l:List Bool} (h:l.all id = true) (i:Nat) {b:Bool} (e:l[i]? = some b):b = true:=Aw.mp h b (Dr e)
noncomputable def clsB (K:Frag) (n:Nat):Bool:=
 [isRefK K (wW (zJ n)),keepIn K (.ref (faK K n)),(dictO K (nsOf K (faK K n))).isSome,
 (uN K (nsOf K (faK K n))).toList.all (fun e=>strV e.key),
 (nsFind (uN K (nsOf K (faK K n))) "__getattribute__").isNone,(nsFind (uN K (nsOf K (faK K n))) "__getattr__").isNone,(nsFind (uN K (nsOf K (faK K n))) "__setattr__").isNone,
 (uB n).all (fun x=>(nsFind (uN K (nsOf K (faK K n))) x).isNone),
 (xI n).zipIdx.all (fun p=>decide (nsFind (uN K (nsOf K (faK K n))) p.1 = some (.ref (mtK K n p.2))) && isFnK K (mtK K n p.2)),clsT K (faK K n)].all id
noncomputable def mIdx:List (Nat×Nat):=[(1,0),(2,0),(3,0),(14,0),(14,1),(14,2),(14,3),(14,4),(14,5),(17,0)]
noncomputable def unNames:List Str:=["len","sorted","min","isinstance","list","range","set","str","dict","enumerate"]
noncomputable def okB (K:Frag):Bool:=[fnIdx.all (fun n=>isRefK K (wW (zJ n))),rZ.all (clsB K),unNames.all (isUnK K),cstB K "_law_SHAPES",cstB K "_law_CALLS",cstB K "CALLS"].all id
noncomputable def fnsT (K:Frag):List Nat→List FT
 | []=>[]
 | n :: r=>fnT K (faK K n) (yL (zJ n)).length :: fnsT K r
noncomputable def fnsV:List Nat→List FT
 | []=>[]
 | n :: r=>fnV (zJ n) :: fnsV r
noncomputable def mthT (K:Frag):List (Nat×Nat)→List FT
 | []=>[]
 | n :: r=>fnT K (mtK K n.1 n.2) (yL (vD n.2 (zJ n.1))).length :: mthT K r
noncomputable def mthV:List (Nat×Nat)→List FT
 | []=>[]
 | n :: r=>fnV (vD n.2 (zJ n.1)) :: mthV r
noncomputable abbrev FACT:=Bool×List FT×List FT×Option AV×Option AV×Option AV
noncomputable def factsT (K:Frag):FACT:=(okB K,fnsT K fnIdx,mthT K mIdx,avK K 5 (valK K "_law_SHAPES"),avK K 5 (valK K "_law_CALLS"),avK K 5 (valK K "CALLS"))
noncomputable def factsV:FACT:=(true,fnsV fnIdx,mthV mIdx,some (.lst (vT.map fun es=>.lst (es.map encE))),some (.tup [.str "call",.str "callreg"]),some (.tup [.str "call",.str "callreg"]))
noncomputable abbrev wN (sc:Scope) (L:Addr) (qual:Str) (fa:Addr) (code:Value):Env:=newEnv sc L mainGlobals (cellsFrom (L + 1) sc.names []) qual (some fa) code none builtinsNs
noncomputable def Claim (t:Bs):Prop:=SF t.K t.base→factsT t.K = factsV→∀ (ns:List Int) (lst:Addr) (vs:List Value) (n:Nat) (P:Params) (h:Heap) (L:Addr) (qual:Str) (fx:Addr) (code:Value) (mm:Str→Option Value) (s:Shared) (A:Around) (Q:Flow→Shared→Prop) (E:Value→Shared→Prop),
 ns.length ≤ 63→t.base.get? lst = some (tV vs n)→PySem.W.WellAll P h vs (ofPys (ns.map PyData.int))→Fr t.base L s.heap mm→mm "script" = some (.ref lst)→0 < s.toks→sW 0 A →
 (∀ s' m',Fr t.base L s'.heap m'→s'.gens = s.gens→s'.os = s.os→Q (.ret (.bool true)) s')→wpAny (model t.prog t.w) A (execs (xD (zJ 42)) (wN (yR (zJ 42)) L qual fx code)) Q E s
theorem some_bs:Nonempty Bs:=⟨⟨PySem.Challenge.pw_nm0017_01,⟨fun U U=>0,{ strHash:=fun U=>0,shareClass:=fun U=>0,mergeTok:=id,idOf:=fun U=>0,idOfShared:=fun U U=>0,followText:=fun U=>false,idOfImm:=fun U=>0 }⟩,{},[]⟩⟩
@[irreducible] noncomputable def ρ:Bs:=@Classical.epsilon _ some_bs fun t=>¬ Claim t
theorem claims (h:Claim ρ) (t:Bs):Claim t:=Ae fun n=>by
 unfold ρ at h
 exact @Classical.epsilon_spec _ (fun t=>¬ Claim t) ⟨t,n⟩ h
@[irreducible] noncomputable def K:Frag:=ρ.K
@[irreducible] noncomputable def fa (n:Nat):Addr:=faK ρ.K n
@[irreducible] noncomputable def cl (n:Nat):Addr:=faK ρ.K n
@[irreducible] noncomputable def mt (n i:Nat):Addr:=mtK ρ.K n i
end
end
section
noncomputable abbrev Bs.M (ρ:Bs):Model:=model ρ.prog ρ.w
noncomputable abbrev Bs.iK (ρ:Bs):KeyKind ρ.prog ρ.w Int:=intKind ρ.prog ρ.w
noncomputable abbrev Bs.sK (ρ:Bs):KeyKind ρ.prog ρ.w Str:=strKind ρ.prog ρ.w
set_option genInjectivity true in
inductive AO where
 | list (xs:List AV)
 | idict (kvs:List (Int×AV))
 | sdict (kvs:List (Str×AV))
 | iset (S:Int→Bool) (n:Nat)
 | uset (S:Int→Bool) (n:Nat)
 | inst (C dx:Addr) (fs:List (Str×AV))
 | attrs (x:Addr)
noncomputable abbrev zA:=Addr→Option AO
noncomputable abbrev zN:=Str→Option AV
noncomputable def upd (H:zA) (a:Addr) (o:AO):zA:=fun b=>if b = a then some o else H b
noncomputable def del (H:zA) (a:Addr):zA:=fun b=>if b = a then none else H b
noncomputable def wA (m:zN) (x:Str) (v:AV):zN:=fun y=>if y = x then some v else m y
noncomputable abbrev tupO (vs:List Value) (n:Nat):Obj:={ cls:=.type "tuple",dict:=none,data:=.seq vs.toArray n,slots:=#[] }
noncomputable abbrev Dm (H:zA) (P:Addr→Prop):Addr→Prop:=fun a=>H a ≠ none∨P a
noncomputable def mD (h:Heap) (x C dx:Addr):Prop:=dx ≠ x∧∃ ob,h.get? x = some ob∧ob.cls = .ref C∧ob.dict = some dx∧∀ c,ob.data ≠ .cls c
section
variable (ρ:Bs)
noncomputable def nZ (h:Heap) (a:Addr) (S:Int→Bool) (n:Nat):Prop:=
 ∃ es ep t,h.get? a = some { cls:=.type "set",dict:=none,data:=.set es ep t,slots:=#[] }∧ElemsOf ρ.iK es.toList∧(∀ k,S k = true↔∃ e∈es.toList,ρ.iK.is k e.2 = true)
 ∧es.size < scanBound∧t.fits es.size = true∧es.size = n∧es.toList.Pairwise (fun e e'=>∀ k,ρ.iK.is k e.2 = true→ρ.iK.is k e'.2 = true→False)
 ∧(ρ.w.params.followText "set-order" = false→t.led = true)∧(n = 0→t.mask = 7∧t.fill = 0)∧t.place.toList.Pairwise (fun p q=>p<q)
end
inductive CRng (h:Heap) (D:Addr→Prop) (lo hi:Int) (v:Value):Prop
 | mk:∀ a t u t',v = .ref a→¬ D a→IsRange h a lo hi 1 t u t'→CRng h D lo hi v
inductive CSeq (o:List Value→Nat→Obj) (h:Heap) (D:Addr→Prop) (R:List Value→Prop) (v:Value):Prop
 | mk:∀ a vs n,v = .ref a→¬ D a→h.get? a = some (o vs n)→R vs→CSeq o h D R v
inductive CDct (ρ:Bs) (h:Heap) (D:Addr→Prop) (ks:List Int) (R:List Value→Prop) (v:Value):Prop
 | mk:∀ a,∀ kvs:List (Int×Value),v = .ref a→¬ D a→(a == sysModules) = false→h.DictOf ρ.iK a kvs→kvs.map (fun p=>p.1) = ks→R (kvs.map (fun p=>p.2))→CDct ρ h D ks R v
inductive CSet (ρ:Bs) (h:Heap) (D:Addr→Prop) (S:Int→Bool) (n:Nat) (v:Value):Prop
 | mk:∀ a,v = .ref a→¬ D a→nZ ρ h a S n→CSet ρ h D S n v
inductive CObj (h:Heap) (D:Addr→Prop) (C:Addr) (ns:List Str) (R:List Value→Prop) (v:Value):Prop
 | mk:∀ x dx,∀ kvs:List (Str×Value),v = .ref x→¬ D x→¬ D dx→mD h x C dx→h.Ns1 dx (fun y=>kvs.lookup y)→kvs.map (fun p=>p.1) = ns→R (kvs.map (fun p=>p.2))→CObj h D C ns R v
inductive CCons (A:Value→Prop) (B:List Value→Prop) (vs:List Value):Prop
 | mk:∀ v vs',vs = v :: vs'→A v→B vs'→CCons A B vs
section
variable (ρ:Bs)
mutual
noncomputable def xM (h:Heap) (D:Addr→Prop):AV→Value→Prop
 | .none,v=>v = .none
 | .bool b,v=>v = .bool b
 | .int i,v=>∃ t,v = .int i t
 | .str x,v=>∃ t,v = .str x t
 | .ref a,v=>v = .ref a
 | .con u,v=>v = u
 | .rng lo hi,v=>CRng h D lo hi v
 | .tup xs,v=>CSeq tupO h D (zU h D xs) v
 | .lst xs,v=>CSeq tV h D (zU h D xs) v
 | .idct ks xs,v=>CDct ρ h D ks (zU h D xs) v
 | .iset S n,v=>CSet ρ h D S n v
 | .obj C ns xs,v=>CObj h D C ns (zU h D xs) v
noncomputable def zU (h:Heap) (D:Addr→Prop):List AV→List Value→Prop
 | [],vs=>vs = []
 | x :: xs,vs=>CCons (xM h D x) (zU h D xs) vs
end
end
def rt:Lean.Syntax:=.node .none `Lean.Parser.Tactic.tacticSeq #[.node .none `Lean.Parser.Tactic.tacticSeq1Indented #[.node .none `null #[.node .none `Lean.Parser.Tactic.tacticRfl #[.atom .none "rfl"]]]]
theorem pC {α:Type} {xs:List α} (h:Nat.ble xs.length sizeLine = true):xs.length ≤ sizeLine:=Af h
theorem int63 {n:Nat} (h:n ≤ sizeLine):(n:Int) < 2 ^ 63:=Int.lt_of_le_of_lt (Int.ofNat_le.mpr h) (by decide)
theorem int63' {k:Int} {n:Nat} (hlt:k.toNat < n) (h:n ≤ sizeLine):k < 2 ^ 63:=Int.lt_of_le_of_lt (Int.self_le_toNat k) (int63 (Ah (Nat.le_of_lt hlt) h))
theorem nU {k:Int} (h:0 ≤ k):-2 ^ 1920 < k:=Int.lt_of_lt_of_le (Int.neg_neg_of_pos (Int.pow_pos (by decide))) h
theorem nV {k:Int} (h:k < (50:Nat)):k < 2 ^ 1920:=Int.lt_of_lt_of_le h (Int.le_trans (Int.ofNat_le.mpr (Ah (Nat.le_of_lt (Nat.lt_two_pow_self (n:=50))) (Nat.pow_le_pow_right (n:=2) (by decide) (show 50 ≤ 1920 by decide)))) (Int.le_of_eq (Int.natCast_pow 2 1920)))
theorem r50 {c:Int} {n:Nat} (h:0 ≤ c∧c < n) (k:n ≤ 43):0 ≤ c∧c < (50:Nat):=⟨h.1,Int.lt_of_lt_of_le h.2 (Int.ofNat_le.mpr (Ah k (by decide)))⟩
theorem m1_rng {d c:Int} {n:Nat} (e:d = c) (h:d = -1∨0 ≤ d∧d < n):-1 ≤ c∧c < n:=e ▸ h.elim (fun h=>h.symm ▸ ⟨Int.le_refl _,Int.lt_of_lt_of_le (by decide) (Int.natCast_nonneg n)⟩) fun h=>⟨Int.le_trans (by decide) h.1,h.2⟩
theorem p_rng {d c:Int} {n:Nat} (e:d = c) (h0:0 ≤ c) (h:d = -1∨0 ≤ d∧d < n):c < n:=by
 subst e;exact h.elim (fun h=>absurd (h ▸ h0) (by decide)) And.right
theorem szA {α:Type} {xs:List α} {Q:Prop} (h:Nat.ble xs.length sizeLine = true) (q:Q):xs.length ≤ sizeLine∧Q:=⟨pC h,q⟩
theorem sealG {P:Prop} (h:let G:=P;G):P:=h
theorem zU.length {h D xs vs} (c:zU ρ h D xs vs):vs.length = xs.length:=by
 induction xs generalizing vs with
 | nil=>simp [zU] at c;subst c;rfl
 | cons x xs ih=>
  obtain ⟨v,vs',rfl,U,c2⟩:=c
  simp [ih c2]
noncomputable def zX (D:Addr→Prop) (h:Heap) (D':Addr→Prop) (h':Heap):Prop:=
 ∀ a o,h.get? a = some o→¬ D a→h'.get? a = some o∧¬ D' a
theorem zX.refl {D h}:zX D h D h:=fun U U e n=>⟨e,n⟩
mutual
theorem xM.mono {h D h' D'} (st:zX D h D' h'):∀ {av v},xM ρ h D av v→xM ρ h' D' av v
 | .none,_,c=>c
 | .bool _,_,c=>c
 | .int _,_,c=>c
 | .str _,_,c=>c
 | .ref _,_,c=>c
 | .con _,_,c=>c
 | .rng lo hi,v,c=>by
  obtain ⟨a,t,u,t',e,n,r⟩:=c
  exact ⟨a,t,u,t',e,(st a _ r n).2,(st a _ r n).1⟩
 | .tup xs,v,c=>by
  obtain ⟨a,vs,k,e,n,ho,cl⟩:=c
  exact ⟨a,vs,k,e,(st a _ ho n).2,(st a _ ho n).1,zU.mono st cl⟩
 | .lst xs,v,c=>by
  obtain ⟨a,vs,k,e,n,ho,cl⟩:=c
  exact ⟨a,vs,k,e,(st a _ ho n).2,(st a _ ho n).1,zU.mono st cl⟩
 | .idct ks xs,v,c=>by
  obtain ⟨a,kvs,e,n,hsy,⟨o,es,ep,ho,r⟩,hk,cl⟩:=c
  exact ⟨a,kvs,e,(st a _ ho n).2,hsy,⟨o,es,ep,(st a _ ho n).1,r⟩,hk,zU.mono st cl⟩
 | .iset S k,v,c=>by
  obtain ⟨a,e,n,es,ep,t,ho,r⟩:=c
  exact ⟨a,e,(st a _ ho n).2,es,ep,t,(st a _ ho n).1,r⟩
 | .obj C ns xs,v,c=>by
  obtain ⟨x,dx,kvs,e,n,n',⟨hne,ob,ho,hr⟩,⟨o,es,ep,ho',r⟩,hk,cl⟩:=c
  exact ⟨x,dx,kvs,e,(st x _ ho n).2,(st dx _ ho' n').2,⟨hne,ob,(st x _ ho n).1,hr⟩,⟨o,es,ep,(st dx _ ho' n').1,r⟩,hk,zU.mono st cl⟩
theorem zU.mono {h D h' D'} (st:zX D h D' h'):∀ {xs vs},zU ρ h D xs vs→zU ρ h' D' xs vs
 | [],_,c=>c
 | _ :: _,_,c=>by
  obtain ⟨v,vs',e,c1,c2⟩:=c
  exact ⟨v,vs',e,xM.mono st c1,zU.mono st c2⟩
end
inductive OSeq (h:Heap) (a:Addr) (R:List Value→Prop):Prop
 | mk:∀ vs n,h.get? a = some (tV vs n)→R vs→OSeq h a R
inductive ODct {κ:Type} (K:List (κ×Value)→Prop) (a:Addr) (ks:List κ) (R:List Value→Prop):Prop
 | mk:∀ cv:List (κ×Value),(a == sysModules) = false→K cv→cv.map (fun p=>p.1) = ks→R (cv.map (fun p=>p.2))→ODct K a ks R
inductive OInst (h:Heap) (H:zA) (a C dx:Addr) (ks:List Str) (R:List Value→Prop):Prop
 | mk:∀ cv:List (Str×Value),H dx = some (.attrs a)→mD h a C dx→h.Ns1 dx (fun y=>cv.lookup y)→cv.map (fun p=>p.1) = ks→R (cv.map (fun p=>p.2))→OInst h H a C dx ks R
noncomputable def ConO (ρ:Bs) (h:Heap) (H:zA) (P:Addr→Prop) (a:Addr):AO→Prop
 | .list xs=>OSeq h a (zU ρ h (Dm H P) xs)
 | .idict kvs=>ODct (fun cv:List (Int×Value)=>h.DictOf ρ.iK a cv) a (kvs.map (fun p=>p.1)) (zU ρ h (Dm H P) (kvs.map (fun p=>p.2)))
 | .sdict kvs=>ODct (fun cv:List (Str×Value)=>h.DictOf ρ.sK a cv) a (kvs.map (fun p=>p.1)) (zU ρ h (Dm H P) (kvs.map (fun p=>p.2)))
 | .iset S n=>nZ ρ h a S n
 | .uset S n=>h.SetOf ρ.iK a S n
 | .inst C dx fs=>OInst h H a C dx (fs.map (fun p=>p.1)) (zU ρ h (Dm H P) (fs.map (fun p=>p.2)))
 | .attrs _=>∃ o,h.get? a = some o
noncomputable def vG (ρ:Bs) (h:Heap) (H:zA) (P:Addr→Prop):Prop:=∀ a o,H a = some o→ConO ρ h H P a o
theorem vG.there {h H P a o} (R:vG ρ h H P) (e:H a = some o):∃ ob,h.get? a = some ob:=by
 have c:=R a o e
 cases o with
 | list xs=>obtain ⟨vs,n,ho,U⟩:=c;exact ⟨_,ho⟩
 | idict kvs=>obtain ⟨cv,U,⟨ob,U,U,ho,U⟩,U⟩:=c;exact ⟨_,ho⟩
 | sdict kvs=>obtain ⟨cv,U,⟨ob,U,U,ho,U⟩,U⟩:=c;exact ⟨_,ho⟩
 | iset S n=>obtain ⟨U,U,U,ho,U⟩:=c;exact ⟨_,ho⟩
 | uset S n=>obtain ⟨ob,U,U,U,ho,U⟩:=c;exact ⟨_,ho⟩
 | inst C dx fs=>obtain ⟨cv,U,⟨U,ob,ho,U⟩,U⟩:=c;exact ⟨_,ho⟩
 | attrs x=>exact c
theorem vG.new {h H P a} (R:vG ρ h H P) (e:h.get? a = none):H a = none:=by
 cases q:H a with
 | none=>rfl
 | some o=>obtain ⟨ob,ho⟩:=R.there q;rw [e] at ho;cases ho
noncomputable def pX (H:zA) (h:Heap) (H':zA) (h':Heap):Prop:=∀ a o,h.get? a = some o→H a = none→h'.get? a = some o∧H' a = none
theorem pX.refl {H h}:pX H h H h:=fun U U e n=>⟨e,n⟩
theorem pX.trans {H h H' h' H'' h''} (x:pX H h H' h') (y:pX H' h' H'' h''):pX H h H'' h'':=fun a o e n=>y a o (x a o e n).1 (x a o e n).2
theorem pX.stays {H h H' h'} (x:pX H h H' h') {P:Addr→Prop}:zX (Dm H P) h (Dm H' P) h':=fun a o e n=>by
 have n1:H a = none:=Ae fun q=>n (.inl q)
 have n2:¬ P a:=fun q=>n (.inr q)
 exact ⟨(x a o e n1).1,fun q=>q.elim (fun q=>q (x a o e n1).2) n2⟩
theorem ConO.at {h h' H H' P P' b o} (c:ConO ρ h H P b o) (st:zX (Dm H P) h (Dm H' P') h') (hb:∀ ob,h.get? b = some ob→h'.get? b = some ob)
  (hd:(∃ C dx fs,o = .inst C dx fs)→∀ d,H d = some (.attrs b)→H' d = some (.attrs b)∧∀ ob,h.get? d = some ob→h'.get? d = some ob):ConO ρ h' H' P' b o:=by
 cases o with
 | list xs=>obtain ⟨vs,n,ho,cl⟩:=c;exact ⟨vs,n,hb _ ho,cl.mono st⟩
 | idict kvs=>obtain ⟨cv,hsy,⟨ob,es,ep,ho,r⟩,k,cl⟩:=c;exact ⟨cv,hsy,⟨ob,es,ep,hb _ ho,r⟩,k,cl.mono st⟩
 | sdict kvs=>obtain ⟨cv,hsy,⟨ob,es,ep,ho,r⟩,k,cl⟩:=c;exact ⟨cv,hsy,⟨ob,es,ep,hb _ ho,r⟩,k,cl.mono st⟩
 | iset S n=>obtain ⟨es,ep,t,ho,r⟩:=c;exact ⟨es,ep,t,hb _ ho,r⟩
 | uset S n=>obtain ⟨ob,es,ep,t,ho,r⟩:=c;exact ⟨ob,es,ep,t,hb _ ho,r⟩
 | inst C dx fs=>
  obtain ⟨cv,e,⟨hne,ob0,ho,hr0⟩,⟨ob,es,ep,ho',r⟩,k,cl⟩:=c
  exact ⟨cv,(hd ⟨C,dx,fs,rfl⟩ dx e).1,⟨hne,ob0,hb _ ho,hr0⟩,⟨ob,es,ep,(hd ⟨C,dx,fs,rfl⟩ dx e).2 _ ho',r⟩,k,cl.mono st⟩
 | attrs x=>obtain ⟨ob,ho⟩:=c;exact ⟨ob,hb _ ho⟩
theorem zC {H a o}:upd H a o a = some o:=by simp [upd]
theorem zB {H:zA} {a b o} (h:b ≠ a):upd H a o b = H b:=by simp [upd,h]
theorem pX.put {H h h' a o} (hs:∀ b ob,b ≠ a→h.get? b = some ob→h'.get? b = some ob) (ha:H a ≠ none∨h.get? a = none):pX H h (Mine.upd H a o) h':=fun b ob e n=>by
 have hb:b ≠ a:=fun q=>by subst q;rcases ha with q | q;(exact q n);(rw [q] at e;cases e)
 exact ⟨hs b ob hb e,by rw [zB hb];exact n⟩
theorem vG.put {h h' H P a o} (R:vG ρ h H P) (hs:∀ b ob,b ≠ a→h.get? b = some ob→h'.get? b = some ob) (ha:H a ≠ none∨h.get? a = none) (hat:∀ x,H a ≠ some (.attrs x))
  (c:ConO ρ h' (Mine.upd H a o) P a o):vG ρ h' (Mine.upd H a o) P:=fun b ob e=>by
 by_cases hb:b = a
 ·subst hb;rw [zC] at e;cases e;exact c
 ·rw [zB hb] at e
  refine (R b ob e).at (pX.put hs ha).stays (hs b · hb) fun U d hd=>?_
  have hda:d ≠ a:=fun q=>hat b (q ▸ hd)
  exact ⟨by rw [zB hda];exact hd,fun o=>hs d o hda⟩
theorem Runs.toks {M:Model} {Γ:Ctx} {p:Pos} {t:Sem PySem.Fin} {fs:List Frame} {s s':Shared} {e:PySem.End} (h:Runs M Γ p t fs s e s'):s.toks ≤ s'.toks:=by
 induction h with
 | done | raise | yield=>exact Ag _
 | again _ _ ih | rule _ ih | «at» _ ih | load _ _ ih | update _ _ ih | loadIfAlive _ ih | point _ ih | alloc _ ih | ask _ ih | choose _ _ ih | os _ ih | handled _ ih | genState _ _ ih | stack _ ih | thread _ ih | newGen _ ih | callSusp _ ih
  | resumeJustStarted _ _ _ ih | resumeThrowFresh _ _ ih | resumeRunning _ _ ih | resumeFinished _ _ ih | segSuspOut _ _ ih=>exact ih
 | fresh _ ih=>exact Nat.le_of_succ_le ih
 | call _ _ a b | segRet _ _ a b=>exact Ah a b
 | segGen _ _ a b=>exact Ah a b
 | resumeFresh _ _ _ _ a b | resumeSuspended _ _ _ _ a b=>exact Ah a b
 | segSuspGen _ _ _ _ a b=>exact Ah a b
theorem wp_toks {α:Type} {M:Model} {Γ:Ctx} (t:Sem α) {Q:α→Pos→Shared→Prop} {E:Value→Pos→Shared→Prop} {p:Pos} {s:Shared} (n:Nat) (hn:n ≤ s.toks) (h:Sem.wp M Γ t Q E p s):Sem.wp M Γ t (fun a p' s'=>n ≤ s'.toks∧Q a p' s') E p s:=by
 induction t generalizing p s with
 | pure a=>rw [Sem.wp] at h ⊢;exact ⟨hn,h⟩
 | raise e=>rw [Sem.wp] at h ⊢;exact h
 | unsupported _ | finish _ | register _ _ | yield _ _ _ _ | fork _ _ | await=>rw [Sem.wp] at h;exact h.elim
 | rule _ k ih | «at» _ k ih | point _ k ih | ask k ih | thread k ih | stack k ih | handled _ k ih | newGen _ k ih | loadIfAlive _ k ih | alloc _ k ih | os _ _ k ih=>rw [Sem.wp] at h ⊢;exact ih _ (by exact hn) h
 | fresh k ih=>rw [Sem.wp] at h ⊢;exact ih _ (Nat.le_succ_of_le hn) h
 | load a _ k ih=>rw [Sem.wp] at h ⊢;obtain ⟨o,e,h⟩:=h;exact ⟨o,e,ih _ hn h⟩
 | genState a k ih=>rw [Sem.wp] at h ⊢;obtain ⟨o,e,h⟩:=h;exact ⟨o,e,ih _ hn h⟩
 | update a _ f k ih=>rw [Sem.wp] at h ⊢;exact ⟨h.1,ih _ (by exact hn) h.2⟩
 | choose src m k ih=>rw [Sem.wp] at h ⊢;exact ⟨h.1,ih _ (by exact hn) h.2⟩
 | call c hh _ _ k ih=>rw [Sem.wp] at h ⊢;obtain ⟨r,s',hr,h⟩:=h;exact ⟨r,s',hr,ih _ (Ah hn (Runs.toks hr)) h⟩
 | resume g r _ k ih=>
  rw [Sem.wp] at h ⊢;obtain ⟨res,s',hw,h⟩:=h;refine ⟨res,s',hw,ih _ (Ah hn ?_) h⟩
  unfold Wakes at hw
  split at hw
  ·exact hw.elim
  ·split at hw
   ·obtain ⟨e₁,s₁,hr,U,U,rfl⟩:=hw;have z:=Runs.toks hr;exact z
   ·obtain ⟨U,rfl⟩:=hw;exact Ag _
   ·obtain ⟨U,rfl⟩:=hw;exact Ag _
  ·obtain ⟨e₁,s₁,hr,U,U,rfl⟩:=hw;have z:=Runs.toks hr;exact z
  ·obtain ⟨U,rfl⟩:=hw;exact Ag _
  ·obtain ⟨U,rfl⟩:=hw;exact Ag _
theorem vB {α:Type} {M:Model} {A:Around} {t:Sem α} {Q:α→Shared→Prop} {E:Value→Shared→Prop} {s:Shared} (h:wpAny M A t (fun v s'=>s.toks ≤ s'.toks→Q v s') E s):wpAny M A t Q E s:=fun Γ p hΓ=>
 Sem.wp_mono M Γ t (fun U U U p1=>p1.rec fun a b=>b a) (fun U U U x=>x) _ _ (wp_toks t s.toks (Ag _) (h Γ p hΓ))
theorem qZ {α:Type} {M:Model} {A:Around} {t:Sem α} {Q:α→Shared→Prop} {E:Value→Shared→Prop} {s:Shared} (h:wpAny M A t Q E s):wpAny M A t (fun v s'=>s.toks ≤ s'.toks∧Q v s') E s:=
 vB (Ai h (fun U U q k=>⟨k,q⟩) fun U U x=>x)
structure Fin (ρ:Bs) (P:Addr→Prop) (s:Shared) (H:zA) (s':Shared) (H':zA):Prop where
 ext:pX H s.heap H' s'.heap
 rep:vG ρ s'.heap H' P
 gens:s'.gens = s.gens
 os:s'.os = s.os
 tk:s.toks ≤ s'.toks
theorem Fin.trans {P s H s' H' s'' H''} (a:Fin ρ P s H s' H') (b:Fin ρ P s' H' s'' H''):Fin ρ P s H s'' H'':=
 ⟨a.ext.trans b.ext,b.rep,b.gens.trans a.gens,b.os.trans a.os,Ah a.tk b.tk⟩
theorem Fin.refl {P s H} (R:vG ρ s.heap H P):Fin ρ P s H s H:=⟨.refl,R,rfl,rfl,Ag _⟩
theorem sW.depth {l A} (h:sW l A) (hl:l ≤ 50):A.depth < recursionLimit:=by have:=h.2.1;unfold recursionLimit;exact zy 2 2 0x1a153e831615a15019031260322150 rfl hl this
theorem sW.units {l A} (h:sW l A) (hl:l ≤ 50):A.units < cLine:=by have:=h.2.2;unfold cLine;exact zy 2 2 0x1642f1526ac4161564250c821260322150 rfl hl this
theorem sW.deeper {l A} (h:sW l A) (env:Env):sW (l + 1) (A.deeper env):=⟨h.1,by show A.depth + 1 ≤ _;have:=h.2.1;exact zy 2 1 0x11464a1501903125406a15019031250 rfl this,by show A.units + 3 ≤ _;have:=h.2.2;exact zy 2 1 0x1146464250c821231530664250c821250 rfl this⟩
inductive FR {α:Type} (ρ:Bs) (P:Addr→Prop) (s:Shared) (H:zA) (R:α→Shared→zA→Prop) (v:α) (s':Shared):Prop
 | mk:∀ H',Fin ρ P s H s' H'→R v s' H'→FR ρ P s H R v s'
noncomputable def WP {α:Type} (ρ:Bs) (l:Nat) (P:Addr→Prop) (H:zA) (s:Shared) (t:Sem α) (R:α→Shared→zA→Prop):Prop:=
 ∀ A,sW l A→wpAny ρ.M A t (FR ρ P s H R) (fun U U=>False) s
section
variable {α β:Type} {l:Nat} {P:Addr→Prop} {H:zA} {s:Shared}
theorem WP.pure {a:α} {R:α→Shared→zA→Prop} (rep:vG ρ s.heap H P) (h:R a s H):WP ρ l P H s (Pure.pure a) R:=fun U U=>Aj ⟨H,.refl rep,h⟩
theorem WP.bind {t:Sem α} {f:α→Sem β} {R:β→Shared→zA→Prop} (h:WP ρ l P H s t (fun v s' H'=>WP ρ l P H' s' (f v) R)):WP ρ l P H s (t >>= f) R:=fun A hA=>
 Ak (Ai (h A hA) (fun v s' p1=>p1.rec fun H' F h'=>Ai (h' A hA) (fun r s'' p1=>p1.rec fun H'' F' h''=>⟨H'',F.trans F',h''⟩) fun U U x=>x) fun U U x=>x)
theorem WP.mono {t:Sem α} {R R':α→Shared→zA→Prop} (h:WP ρ l P H s t R) (k:∀ v s' H',Fin ρ P s H s' H'→R v s' H'→R' v s' H'):WP ρ l P H s t R':=fun A hA=>
 Ai (h A hA) (fun v s' p1=>p1.rec fun H' F h'=>⟨H',F,k v s' H' F h'⟩) fun U U x=>x
theorem WP.standAt {pos:Pos} {R:Unit→Shared→zA→Prop} (rep:vG ρ s.heap H P) (h:R () s H):WP ρ l P H s (PySem.standAt pos) R:=fun U U=>Al ⟨H,.refl rep,h⟩
theorem WP.holding {t:Sem α} {vs:List Value} {R:α→Shared→zA→Prop} (h:WP ρ l P H s t R):WP ρ l P H s (PySem.holding vs t) R:=fun A hA=>Am (h A hA)
theorem WP.operate {t:Sem Value} {vs:List Value} {R:Value→Shared→zA→Prop} (h:WP ρ l P H s t R):WP ρ l P H s (PySem.operate vs t) R:=fun A hA=>wpAny_operate' (h A hA)
end
end
section
structure G (ρ:Bs) (P:Addr→Prop) (H:zA) (s:Shared):Prop where
 base:∀ b o,ρ.base.get? b = some o→s.heap.get? b = some o∧H b = none∧¬ P b
 rep:vG ρ s.heap H P
 pin:∀ a,P a→H a = none∧∃ o,s.heap.get? a = some o
 tk:0 < s.toks
structure zG (ρ:Bs) (env:Env) (P:Addr→Prop) (H:zA) (h:Heap) (m:zN):Prop where
 fn:env.scope.kind = .function
 gl:env.globals = mainGlobals
 bi:env.builtins = builtinsNs
 ns:∃ mc,h.Ns env.locals mc∧∀ x av,m x = some av→env.kindOf x = some .local→∃ v,mc x = some v∧xM ρ h (Dm H P) av v
 cl:∀ x av,m x = some av→env.kindOf x ≠ some .local→∃ c v,env.cells.lookup x = some c∧h.IsCell c (some v)∧xM ρ h (Dm H P) av v
 own:P env.locals∧H env.locals = none
 ownC:∀ x c,env.cells.lookup x = some c→P c∧H c = none∧∃ v,h.IsCell c v
 apart:∀ x y c,env.cells.lookup x = some c→env.cells.lookup y = some c→x = y
theorem Ns_ext {h h':Heap} {L:Addr} {mc:Str→Option Value} (n:h.Ns L mc) (k:∀ o,h.get? L = some o→h'.get? L = some o):h'.Ns L mc:=by
 refine sealG ?_
 intro Gs
 obtain ⟨o,es,ep,ho,r⟩:=n;exact ⟨o,es,ep,k _ ho,r⟩
theorem qV {h h':Heap} {L:Addr} {v} (n:h.IsCell L v) (k:∀ o,h.get? L = some o→h'.get? L = some o):h'.IsCell L v:=by
 obtain ⟨o,ho,r⟩:=n;exact ⟨o,k _ ho,r⟩
theorem zG.ext {env P H h m H' h'} (F:zG ρ env P H h m) (x:pX H h H' h'):zG ρ env P H' h' m:=by
 have kL:∀ o,h.get? env.locals = some o→h'.get? env.locals = some o:=fun o e=>(x _ o e F.own.2).1
 have kC:∀ y c,env.cells.lookup y = some c→∀ o,h.get? c = some o→h'.get? c = some o:=fun y c e o ho=>(x c o ho (F.ownC y c e).2.1).1
 refine ⟨F.fn,F.gl,F.bi,?_,?_,⟨F.own.1,?_⟩,?_,F.apart⟩
 ·refine sealG ?_
  intro Gs
  obtain ⟨mc,n,r⟩:=F.ns
  exact ⟨mc,Ns_ext n kL,fun y av e k=>let ⟨v,a,b⟩:=r y av e k;⟨v,a,b.mono x.stays⟩⟩
 ·intro y av e k
  refine sealG ?_
  intro Gs
  obtain ⟨c,v,a,b,d⟩:=F.cl y av e k
  exact ⟨c,v,a,qV b (kC y c a),d.mono x.stays⟩
 ·refine sealG ?_
  intro Gs
  obtain ⟨mc,⟨o,es,ep,ho,U⟩,U⟩:=F.ns
  exact (x _ o ho F.own.2).2
 ·intro y c e
  refine sealG ?_
  intro Gs
  obtain ⟨a,b,v,o,ho,r⟩:=F.ownC y c e
  exact ⟨a,(x c o ho b).2,v,o,(x c o ho b).1,r⟩
theorem G.fin {P H s s' H'} (g:G ρ P H s) (f:Fin ρ P s H s' H'):G ρ P H' s':=
 ⟨fun b o e=>let ⟨a,n,p⟩:=g.base b o e;⟨(f.ext b o a n).1,(f.ext b o a n).2,p⟩,f.rep,fun a p=>let ⟨n,o,e⟩:=g.pin a p;⟨(f.ext a o e n).2,o,(f.ext a o e n).1⟩,An g.tk f.tk⟩
inductive tG (ρ:Bs) (P:Addr→Prop) (Q:AV→zA→Prop) (v:Value) (s':Shared) (H':zA):Prop
 | mk:∀ av,xM ρ s'.heap (Dm H' P) av v→Q av H'→tG ρ P Q v s' H'
inductive PostL (ρ:Bs) (P:Addr→Prop) (Q:List AV→zA→Prop) (v:List Value) (s':Shared) (H':zA):Prop
 | mk:∀ av,zU ρ s'.heap (Dm H' P) av v→Q av H'→PostL ρ P Q v s' H'
structure EX (ρ:Bs) (l:Nat) (env:Env) (e:Expr) (H:zA) (m:zN) (Q:AV→zA→Prop):Prop where
 mk ::
 out:∀ P s,G ρ P H s→zG ρ env P H s.heap m→WP ρ l P H s (eval e env) (tG ρ P Q)
structure yO (ρ:Bs) (l:Nat) (env:Env) (p:Pos) (es:List Expr) (H:zA) (m:zN) (Q:List AV→zA→Prop):Prop where
 mk ::
 out:∀ P s,G ρ P H s→zG ρ env P H s.heap m→WP ρ l P H s (spliced (backTo p (starEach es env))) (PostL ρ P Q)
structure TR (ρ:Bs) (l:Nat) (env:Env) (e:Expr) (H:zA) (m:zN) (Q:Bool→zA→Prop):Prop where
 mk ::
 out:∀ P s,G ρ P H s→zG ρ env P H s.heap m→WP ρ l P H s (isTrue e env (eval e env)) (fun b U H'=>Q b H')
structure xW (ρ:Bs) (l:Nat) (op:Operator) (a b:AV) (H:zA) (Q:AV→zA→Prop):Prop where
 mk ::
 out:∀ P s va vb,G ρ P H s→xM ρ s.heap (Dm H P) a va→xM ρ s.heap (Dm H P) b vb→WP ρ l P H s (binaryOp op va vb) (tG ρ P Q)
structure yI (ρ:Bs) (l:Nat) (op:CmpOp) (a b:AV) (H:zA) (Q:Bool→zA→Prop):Prop where
 mk ::
 out:∀ P s va vb,G ρ P H s→xM ρ s.heap (Dm H P) a va→xM ρ s.heap (Dm H P) b vb→WP ρ l P H s (compareOp op va vb) (fun v U H'=>∃ r,v = .bool r∧Q r H')
structure TRU (ρ:Bs) (l:Nat) (a:AV) (H:zA) (Q:Bool→zA→Prop):Prop where
 mk ::
 out:∀ P s va,G ρ P H s→xM ρ s.heap (Dm H P) a va→WP ρ l P H s (truthy va) (fun b U H'=>Q b H')
structure zY (ρ:Bs) (l:Nat) (a b:AV) (H:zA) (Q:AV→zA→Prop):Prop where
 mk ::
 out:∀ P s va vb value slice,G ρ P H s→xM ρ s.heap (Dm H P) a va→xM ρ s.heap (Dm H P) b vb→(∀ lo hi po,slice ≠ .Slice lo hi none po)→WP ρ l P H s (subscriptTail value slice va vb) (tG ρ P Q)
structure xX (ρ:Bs) (l:Nat) (a:AV) (x:Str) (H:zA) (Q:AV→zA→Prop):Prop where
 mk ::
 out:∀ P s va,G ρ P H s→xM ρ s.heap (Dm H P) a va→WP ρ l P H s (getAttr va x true) (tG ρ P Q)
structure zE (ρ:Bs) (l:Nat) (f:AV) (args:List AV) (H:zA) (Q:AV→zA→Prop):Prop where
 mk ::
 out:∀ P s vf vs,G ρ P H s→xM ρ s.heap (Dm H P) f vf→zU ρ s.heap (Dm H P) args vs→WP ρ l P H s (call vf vs) (tG ρ P Q)
structure pU (ρ:Bs) (l:Nat) (a:AV) (x:Str) (H:zA) (Q:AV→List AV→Prop):Prop where
 mk ::
 out:∀ P s va pl,G ρ P H s→xM ρ s.heap (Dm H P) a va→WP ρ l P H s (getMethod va x pl) (fun v s' H'=>H' = H∧∃ f fs,xM ρ s'.heap (Dm H' P) f v.1∧zU ρ s'.heap (Dm H' P) fs v.2∧Q f fs)
structure tN (ρ:Bs) (f:AV):Prop where
 mk ::
 out:∀ P H s vf,G ρ P H s→xM ρ s.heap (Dm H P) f vf→∃ k,(k = Keeper.frame∨k = Keeper.machine∨k = Keeper.boundFrame)∧Looks ρ.M s.heap (keeperOf vf) k
noncomputable abbrev kB2 (l:Nat) (op:Operator) (va:AV) (Q:AV→zA→Prop):AV→zA→Prop:=fun vb H=>xW ρ l op va vb H Q
noncomputable abbrev kB (l:Nat) (env:Env) (op:Operator) (b:Expr) (m:zN) (Q:AV→zA→Prop):AV→zA→Prop:=fun va H=>EX ρ l env b H m (kB2 l op va Q)
noncomputable abbrev kC2 (l:Nat) (op:CmpOp) (va:AV) (Q:Bool→zA→Prop):AV→zA→Prop:=fun vb H=>yI ρ l op va vb H Q
noncomputable abbrev kC (l:Nat) (env:Env) (op:CmpOp) (b:Expr) (m:zN) (Q:Bool→zA→Prop):AV→zA→Prop:=fun va H=>EX ρ l env b H m (kC2 l op va Q)
noncomputable abbrev kb (Q:AV→zA→Prop):Bool→zA→Prop:=fun r H=>Q (.bool r) H
noncomputable abbrev kE (l:Nat) (env:Env) (a b:Expr) (m:zN) (Q:AV→zA→Prop):Bool→zA→Prop:=fun r H=>if r then EX ρ l env a H m Q else EX ρ l env b H m Q
noncomputable abbrev kL2 (v:AV) (Q:List AV→zA→Prop):List AV→zA→Prop:=fun vs H=>Q (v :: vs) H
noncomputable abbrev kL (l:Nat) (env:Env) (p:Pos) (es:List Expr) (m:zN) (Q:List AV→zA→Prop):AV→zA→Prop:=fun v H=>yO ρ l env p es H m (kL2 v Q)
noncomputable abbrev kT (Q:AV→zA→Prop):List AV→zA→Prop:=fun vs H=>vs.length ≤ sizeLine∧Q (.tup vs) H
noncomputable abbrev kS (Q:AV→zA→Prop):List AV→zA→Prop:=fun vs H=>vs.length ≤ sizeLine∧Q (.lst vs) H
noncomputable abbrev kV (l:Nat) (Q:Bool→zA→Prop):AV→zA→Prop:=fun v H=>TRU ρ l v H Q
noncomputable abbrev kU2 (l:Nat) (va:AV) (Q:AV→zA→Prop):AV→zA→Prop:=fun vb H=>zY ρ l va vb H Q
noncomputable abbrev kU (l:Nat) (env:Env) (b:Expr) (m:zN) (Q:AV→zA→Prop):AV→zA→Prop:=fun va H=>EX ρ l env b H m (kU2 l va Q)
noncomputable abbrev kD (l:Nat) (x:Str) (Q:AV→zA→Prop):AV→zA→Prop:=fun v H=>xX ρ l v x H Q
noncomputable abbrev kF (l:Nat) (f:AV) (Q:AV→zA→Prop):List AV→zA→Prop:=fun vs H=>zE ρ l f vs H Q
noncomputable abbrev kF1 (l:Nat) (f a:AV) (Q:AV→zA→Prop):AV→zA→Prop:=fun v H=>zE ρ l f [a,v] H Q
noncomputable abbrev kF2 (l:Nat) (f a b:AV) (Q:AV→zA→Prop):AV→zA→Prop:=fun v H=>zE ρ l f [a,b,v] H Q
section
variable {l:Nat} {env:Env} {H:zA} {m:zN} {Q:AV→zA→Prop}
theorem EX.mono {e:Expr} {Q':AV→zA→Prop} (h:EX ρ l env e H m Q) (k:∀ av H',Q av H'→Q' av H'):EX ρ l env e H m Q':=.mk fun P s g F=>
 (h.out P s g F).mono fun v s' H' U p1=>p1.rec fun av c q=>⟨av,c,k av H' q⟩
theorem tP {x:Str} {pos:Pos} {av:AV} (hm:m x = some av) (hk:env.kindOf x = some .local) (hd:(x == ("__debug__":Str)) = false) (q:Q av H):EX ρ l env (.Name x pos) H m Q:=.mk fun P s g F A hA=>by
 obtain ⟨mc,n,r⟩:=F.ns
 obtain ⟨v,hv,c⟩:=r x av hm hk
 exact wpAny_Name (wpAny_loadName_local F.fn hk n hv ⟨H,.refl g.rep,av,c,q⟩) hd
theorem EX.cell {x:Str} {pos:Pos} {av:AV} (hm:m x = some av) (hk:env.kindOf x = some .cell) (hd:(x == ("__debug__":Str)) = false) (q:Q av H):EX ρ l env (.Name x pos) H m Q:=.mk fun P s g F A hA=>by
 refine sealG ?_
 intro Gs
 obtain ⟨c,v,hc,hv,cn⟩:=F.cl x av hm (by rw [hk];decide)
 exact wpAny_Name (wpAny_loadName_cell F.fn hk hc hv ⟨H,.refl g.rep,av,cn,q⟩) hd
theorem EX.free {x:Str} {pos:Pos} {av:AV} (hm:m x = some av) (hk:env.kindOf x = some .free) (hd:(x == ("__debug__":Str)) = false) (hd':(x == ("__classdict__":Str)) = false) (q:Q av H):EX ρ l env (.Name x pos) H m Q:=.mk fun P s g F A hA=>by
 refine sealG ?_
 intro Gs
 obtain ⟨c,v,hc,hv,cn⟩:=F.cl x av hm (by rw [hk];decide)
 exact wpAny_Name (wpAny_loadName_free F.fn hk hc hv ⟨H,.refl g.rep,av,cn,q⟩ hd') hd
noncomputable def oX (K:Frag) (x:Str) (v:Value):Prop:=nsIn K mainGlobals x = some (some v)∨(nsIn K mainGlobals x = some none∧bootBuiltins x = some v∧x ≠ "__name__")
theorem tQ (S:SF K ρ.base) {x:Str} {pos:Pos} {v:Value} {av:AV} (hg:oX K x v) (hk:env.kindOf x = some .globalImplicit) (hd:(x == ("__debug__":Str)) = false)
  (hc:∀ P H s,G ρ P H s→xM ρ s.heap (Dm H P) av v) (q:Q av H):EX ρ l env (.Name x pos) H m Q:=.mk fun P s g F A hA=>by
 refine sealG ?_
 intro Gs
 obtain ⟨mg,mb,g1,g2,g3⟩:=S.gb
 have k:∀ b o,ρ.base.get? b = some o→s.heap.get? b = some o:=fun b o e=>(g.base b o e).1
 have fin:FR ρ P s H (tG ρ P Q) v s:=⟨H,.refl g.rep,av,hc P H s g,q⟩
 rcases hg with e | ⟨e,e',hn⟩
 ·exact Name_function_global F.fn hk (loadGlobal_global (env:=env) (by rw [F.gl];exact g1.keeps k) (mg_of S.X g1 e) fin) hd
 ·exact Name_function_global F.fn hk (loadGlobal_builtin (env:=env) (by rw [F.gl];exact g1.keeps k) (mg_none_of S.X g1 e) (by rw [F.bi];exact g2.keeps k) ((g3 x hn).trans e') fin) hd
theorem EX.int {i:Int} {k:Nat} {pos:Pos} (q:Q (.int i) H):EX ρ l env (.Constant (.int i) k pos) H m Q:=.mk fun P s g F A hA=>
 wpAny_Constant_int ⟨H,⟨.refl,g.rep,rfl,rfl,Nat.le_succ _⟩,.int i,⟨_,rfl⟩,q⟩
theorem EX.bool {i:Bool} {k:Nat} {pos:Pos} (q:Q (.bool i) H):EX ρ l env (.Constant (.bool i) k pos) H m Q:=.mk fun P s g F A hA=>
 wpAny_Constant_bool ⟨H,⟨.refl,g.rep,rfl,rfl,Ag _⟩,.bool i,rfl,q⟩
theorem EX.non {k:Nat} {pos:Pos} (q:Q .none H):EX ρ l env (.Constant .none k pos) H m Q:=.mk fun P s g F A hA=>
 wpAny_Constant_none ⟨H,⟨.refl,g.rep,rfl,rfl,Ag _⟩,.none,rfl,q⟩
theorem EX.str {x:Str} {k:Nat} {pos:Pos} (q:Q (.str x) H):EX ρ l env (.Constant (.str x) k pos) H m Q:=.mk fun P s g F A hA=>
 Constant_str ⟨H,⟨.refl,g.rep,rfl,rfl,Nat.le_succ _⟩,.str x,⟨_,rfl⟩,q⟩
theorem yY {a b:Expr} {op:Operator} {pos:Pos} (h:EX ρ l env a H m (kB l env op b m Q)):EX ρ l env (.BinOp a op b pos) H m Q:=.mk fun P s g F=>by
 refine WP.bind ((h.out P s g F).mono fun v1 s1 H1 f1 p1=>p1.rec fun a1 c1 q1=>?_)
 have g1:=g.fin f1
 refine WP.bind (WP.holding ((q1.out P s1 g1 (F.ext f1.ext)).mono fun v2 s2 H2 f2 p1=>p1.rec fun a2 c2 q2=>?_))
 have g2:=g1.fin f2
 exact WP.bind (WP.standAt g2.rep (WP.operate (q2.out P s2 v1 v2 g2 (c1.mono f2.ext.stays) c2)))
theorem uO {t a b:Expr} {pos:Pos} (h:TR ρ l env t H m (kE l env a b m Q)):EX ρ l env (.IfExp t a b pos) H m Q:=.mk fun P s g F=>by
 refine WP.bind ((h.out P s g F).mono fun r s1 H1 f1 q1=>?_)
 have g1:=g.fin f1
 cases r with
 | true=>exact q1.out P s1 g1 (F.ext f1.ext)
 | false=>exact q1.out P s1 g1 (F.ext f1.ext)
theorem yO.nil {p:Pos} {Q:List AV→zA→Prop} (q:Q [] H):yO ρ l env p [] H m Q:=.mk fun P s g F A hA=>spliced_nil ⟨H,.refl g.rep,[],rfl,q⟩
theorem yO.cons {p:Pos} {e:Expr} {es:List Expr} {Q:List AV→zA→Prop} (h:EX ρ l env e H m (kL l env p es m Q))
  (he:autoParam (starEach (e :: es) env = (false,eval e env) :: starEach es env) rt):yO ρ l env p (e :: es) H m Q:=.mk fun P s g F=>by
 rw [he]
 show WP _ _ _ _ _ (spliced ((false,_) :: backTo p (starEach es env))) _
 refine WP.bind (show WP _ _ _ _ _ (eval e env) _ from (h.out P s g F).mono fun v1 s1 H1 f1 p1=>p1.rec fun a1 c1 q1=>?_)
 have g1:=g.fin f1
 simp only [Ao,Ap]
 refine WP.bind (WP.pure g1.rep ?_)
 refine WP.bind (WP.holding ((q1.out P s1 g1 (F.ext f1.ext)).mono fun v2 s2 H2 f2 p1=>p1.rec fun a2 c2 q2=>?_))
 exact WP.pure f2.rep ⟨a1 :: a2,⟨v1,v2,rfl,c1.mono f2.ext.stays,c2⟩,q2⟩
theorem zW {P:Addr→Prop} {s:Shared} (g:G ρ P H s):s.heap.get? s.heap.objs.size = none∧H s.heap.objs.size = none:=by
 have e:s.heap.get? s.heap.objs.size = Option.none:=by
  cases q:s.heap.get? s.heap.objs.size with
  | none=>rfl
  | some o=>exact absurd (Aq q) (Ar _)
 exact ⟨e,g.rep.new e⟩
theorem Fin.alloc {P:Addr→Prop} {s:Shared} (rep:vG ρ s.heap H P) (o:Obj) (tk:Nat) (htk:s.toks ≤ tk):Fin ρ P s H { s with heap:=s.heap.push o,toks:=tk } H:=
 ⟨fun a ob e n=>⟨As _ e,n⟩,fun a ob e=>(rep a ob e).at (fun a ob e n=>⟨As _ e,n⟩) (fun ob e=>As _ e) fun U d e=>⟨e,fun ob e=>As _ e⟩,rfl,rfl,htk⟩
theorem WP.run {α:Type} {P:Addr→Prop} {s:Shared} {A:Around} {t:Sem α} {R:α→Shared→zA→Prop} {Q':α→Shared→Prop} (h:WP ρ l P H s t R) (hA:sW l A)
  (k:∀ v s' H',Fin ρ P s H s' H'→R v s' H'→Q' v s'):wpAny ρ.M A t Q' (fun U U=>False) s:=
 Ai (h A hA) (fun v s' p1=>p1.rec fun H' F h'=>k v s' H' F h') fun U U x=>x
theorem rH {P:Addr→Prop} {s:Shared} (g:G ρ P H s):¬ Dm H P s.heap.objs.size:=fun h=>h.elim (fun q=>q (zW g).2) fun q=>by
 obtain ⟨U,o,e⟩:=g.pin _ q
 rw [(zW g).1] at e;cases e
theorem zX.push {D:Addr→Prop} {h:Heap} {o:Obj}:zX D h D (h.push o):=fun a ob e n=>⟨As _ e,n⟩
theorem EX.tup {es:List Expr} {k:Nat} {pos:Pos} (h:yO ρ l env pos es H m (kT Q)):EX ρ l env (.Tuple es k pos) H m Q:=.mk fun P s g F=>by
 refine WP.bind (WP.standAt g.rep (WP.bind ((h.out P s g F).mono fun vs s1 H1 f1 p1=>p1.rec fun as c1 p2=>p2.elim fun hz q1=>?_)))
 have g1:=g.fin f1
 intro A hA
 refine wpAny_newTuple ?_ (by rw [c1.length];exact hz)
 refine ⟨H1,Fin.alloc g1.rep _ _ (Ag _),.tup as,⟨_,vs,0,rfl,rH g1,Au _ rfl,c1.mono zX.push⟩,q1⟩
theorem EX.lst {es:List Expr} {pos:Pos} (h:yO ρ l env pos es H m (kS Q)):EX ρ l env (.List es pos) H m Q:=.mk fun P s g F=>by
 refine WP.bind (WP.standAt g.rep (WP.bind ((h.out P s g F).mono fun vs s1 H1 f1 p1=>p1.rec fun as c1 p2=>p2.elim fun hz q1=>?_)))
 have g1:=g.fin f1
 intro A hA
 refine wpAny_newList ?_ (by rw [c1.length];exact hz)
 refine ⟨H1,Fin.alloc g1.rep _ _ (Ag _),.lst as,⟨_,vs,0,rfl,rH g1,Au _ rfl,c1.mono zX.push⟩,q1⟩
theorem Fin.make {P:Addr→Prop} {s:Shared} (g:G ρ P H s) (o:Obj) (ao:AO) (tk:Nat) (c:ConO ρ (s.heap.push o) (upd H s.heap.objs.size ao) P s.heap.objs.size ao) (htk:s.toks ≤ tk) :
  Fin ρ P s H { s with heap:=s.heap.push o,toks:=tk } (upd H s.heap.objs.size ao):=
 have hs:∀ b ob,b ≠ s.heap.objs.size→s.heap.get? b = some ob→(s.heap.push o).get? b = some ob:=fun b ob U e=>As _ e
 ⟨pX.put hs (.inr (zW g).1),g.rep.put hs (.inr (zW g).1) (by rw [(zW g).2];intro x q;cases q) c,rfl,rfl,htk⟩
theorem stays_make {P:Addr→Prop} {s:Shared} (g:G ρ P H s) (o:Obj) (ao:AO):zX (Dm H P) s.heap (Dm (upd H s.heap.objs.size ao) P) (s.heap.push o):=
 (pX.put (fun b ob U e=>As _ e) (.inr (zW g).1)).stays
theorem xQ {es:List Expr} {pos:Pos} (h:yO ρ l env pos es H m fun vs H1=>vs.length ≤ sizeLine∧∀ a,H1 a = none→Q (.ref a) (upd H1 a (.list vs))):EX ρ l env (.List es pos) H m Q:=.mk fun P s g F=>by
 refine WP.bind (WP.standAt g.rep (WP.bind ((h.out P s g F).mono fun vs s1 H1 f1 p1=>p1.rec fun as c1 p2=>p2.elim fun hz q1=>?_)))
 have g1:=g.fin f1
 intro A hA
 refine wpAny_newList ?_ (by rw [c1.length];exact hz)
 exact ⟨_,Fin.make g1 _ (.list as) _ ⟨vs,0,Au _ rfl,c1.mono (stays_make g1 _ _)⟩ (Ag _),.ref _,rfl,q1 _ (zW g1).2⟩
theorem pZ {a b:Expr} {op:CmpOp} {pos:Pos} (h:EX ρ l env a H m (kC l env op b m (kb Q)))
  (hm:behindInMarks op b = false:=by with_unfolding_all rfl):EX ρ l env (.Compare a [op] [b] pos) H m Q:=.mk fun P s g F A hA=>
 wpAny_Compare1 ((h.out P s g F).run hA fun v1 s1 H1 f1 p1=>p1.rec fun a1 c1 q1=>(q1.out P s1 (g.fin f1) (F.ext f1.ext)).run hA fun v2 s2 H2 f2 p1=>p1.rec fun a2 c2 q2=>
  (q2.out P s2 v1 v2 ((g.fin f1).fin f2) (c1.mono f2.ext.stays) c2).run hA fun v3 s3 H3 f3 p1=>p1.elim fun r p2=>p2.elim fun e q3=>⟨H3,(f1.trans f2).trans f3,.bool r,e,q3⟩) hm
theorem zH {a b:Expr} {op:CmpOp} {pos:Pos} {Q:Bool→zA→Prop} (h:EX ρ l env a H m (kC l env op b m Q))
  (hm:behindInMarks op b = false:=by with_unfolding_all rfl):TR ρ l env (.Compare a [op] [b] pos) H m Q:=.mk fun P s g F A hA=>
 wpAny_isTrue_Compare1 ((h.out P s g F).run hA fun v1 s1 H1 f1 p1=>p1.rec fun a1 c1 q1=>(q1.out P s1 (g.fin f1) (F.ext f1.ext)).run hA fun v2 s2 H2 f2 p1=>p1.rec fun a2 c2 q2=>
  (q2.out P s2 v1 v2 ((g.fin f1).fin f2) (c1.mono f2.ext.stays) c2).run hA fun v3 s3 H3 f3 ⟨r,e,q3⟩=>e ▸ wpAny_truthy_bool ⟨H3,(f1.trans f2).trans f3,q3⟩) hm
theorem TR.not {x:Expr} {pos:Pos} {Q:Bool→zA→Prop} (h:TR ρ l env x H m fun b H'=>Q (!b) H'):TR ρ l env (.UnaryOp .Not x pos) H m Q:=.mk fun P s g F A hA=>
 isTrue_not ((h.out P s g F).run hA fun v s1 H1 f1 q=>⟨H1,f1,q⟩)
structure sC (ρ:Bs) (l:Nat) (env:Env) (op:BoolOp) (es:List Expr) (H:zA) (m:zN) (Q:Bool→zA→Prop):Prop where
 mk ::
 out:∀ P s,G ρ P H s→zG ρ env P H s.heap m→WP ρ l P H s (allTrue op es env) (fun b U H'=>Q b H')
noncomputable abbrev kA (l:Nat) (env:Env) (op:BoolOp) (es:List Expr) (m:zN) (Q:Bool→zA→Prop):Bool→zA→Prop:=fun b H=>match op,b with | .And,false=>Q false H | .Or,true=>Q true H | _,_=>sC ρ l env op es H m Q
theorem sC.nil {op:BoolOp} {Q:Bool→zA→Prop} (q:Q (op == .And) H):sC ρ l env op [] H m Q:=.mk fun P s g F=>WP.pure g.rep q
theorem sC.cons {op:BoolOp} {e:Expr} {es:List Expr} {Q:Bool→zA→Prop}
  (h:TR ρ l env e H m (kA l env op es m Q)):sC ρ l env op (e :: es) H m Q:=.mk fun P s g F=>by
 refine WP.bind ((h.out P s g F).mono fun b s1 H1 f1 q=>?_)
 have g1:=g.fin f1
 cases op <;> cases b <;> first | exact WP.pure g1.rep q | exact sC.out q P s1 g1 (F.ext f1.ext)
theorem TR.bool {op:BoolOp} {es:List Expr} {pos:Pos} {Q:Bool→zA→Prop} (h:sC ρ l env op es H m Q):TR ρ l env (.BoolOp op es pos) H m Q:=.mk fun P s g F=>by
 exact h.out P s g F
theorem TR.val {e:Expr} {Q:Bool→zA→Prop} (h:EX ρ l env e H m (kV l Q))
  (he:autoParam (isTrue e env (eval e env) = (do let v ← eval e env;standAt e.pos;holding [v] (truthy v))) rt):TR ρ l env e H m Q:=.mk fun P s g F=>by
 rw [he]
 refine WP.bind ((h.out P s g F).mono fun v s1 H1 f1 p1=>p1.rec fun a1 c1 q1=>?_)
 have g1:=g.fin f1
 exact WP.bind (WP.standAt g1.rep (WP.holding (q1.out P s1 v g1 c1)))
structure BOO (ρ:Bs) (l:Nat) (env:Env) (p:Pos) (op:BoolOp) (es:List Expr) (H:zA) (m:zN) (Q:AV→zA→Prop):Prop where
 mk ::
 out:∀ P s,G ρ P H s→zG ρ env P H s.heap m→WP ρ l P H s (boolOp p op (evalEach es env)) (tG ρ P Q)
theorem EX.boo {op:BoolOp} {es:List Expr} {pos:Pos} (h:BOO ρ l env pos op es H m Q):EX ρ l env (.BoolOp op es pos) H m Q:=.mk fun P s g F=>by
 exact h.out P s g F
theorem BOO.one {p:Pos} {op:BoolOp} {e:Expr} (h:EX ρ l env e H m Q):BOO ρ l env p op [e] H m Q:=.mk fun P s g F=>by
 exact h.out P s g F
theorem BOO.two {p:Pos} {op:BoolOp} {e e':Expr} {es:List Expr} (h:EX ρ l env e H m fun v H'=>TRU ρ l v H' fun b H''=>match op,b with | .And,false=>Q v H'' | .Or,true=>Q v H'' | _,_=>BOO ρ l env p op (e' :: es) H'' m Q) :
  BOO ρ l env p op (e :: e' :: es) H m Q:=.mk fun P s g F=>by
 have z:∀ x:Sem Value,∀ xs,boolOp p op (x :: eval e' env :: xs) = (do
  let v ← x
  standAt p
  let t ← holding [v] (truthy v)
  match op,t with
  | .And,false | .Or,true=>pure v
  | _,_=>boolOp p op (eval e' env :: xs)):=fun x xs=>rfl
 rw [evalEach,evalEach,z]
 refine WP.bind ((h.out P s g F).mono fun v s1 H1 f1 p1=>p1.rec fun a1 c1 q1=>?_)
 have g1:=g.fin f1
 refine WP.bind (WP.standAt g1.rep (WP.bind (WP.holding ((q1.out P s1 v g1 c1).mono fun b s2 H2 f2 q2=>?_))))
 have g2:=g1.fin f2
 cases op <;> cases b <;> first | exact WP.pure g2.rep ⟨a1,c1.mono f2.ext.stays,q2⟩ | exact BOO.out q2 P s2 g2 (F.ext (f1.trans f2).ext)
theorem EX.neg {i:Int} {k:Nat} {pos pos':Pos} (q:Q (.int (-i)) H):EX ρ l env (.UnaryOp .USub (.Constant (.int i) k pos) pos') H m Q:=.mk fun P s g F A hA=>
 wpAny_UnaryOp (wpAny_Constant_int (neg_int ⟨H,⟨.refl,g.rep,rfl,rfl,Nat.le_succ_of_le (Nat.le_succ _)⟩,.int (-i),⟨_,rfl⟩,q⟩))
theorem EX.sub {a b:Expr} {pos:Pos} (h:EX ρ l env a H m (kU l env b m Q)) (hs:Nat.beq 26 b.ctorIdx = false):EX ρ l env (.Subscript a b pos) H m Q:=have hs:∀ lo hi po,b ≠ .Slice lo hi none po:=fun lo hi po e=>nomatch (e ▸ hs:Nat.beq 26 (Expr.ctorIdx (.Slice lo hi none po)) = false)
 .mk fun P s g F A hA=>
 Subscript_ ((h.out P s g F).run hA fun v1 s1 H1 f1 p1=>p1.rec fun a1 c1 q1=>(q1.out P s1 (g.fin f1) (F.ext f1.ext)).run hA fun v2 s2 H2 f2 p1=>p1.rec fun a2 c2 q2=>
  (q2.out P s2 v1 v2 _ _ ((g.fin f1).fin f2) (c1.mono f2.ext.stays) c2 hs).run hA fun v3 s3 H3 f3 q3=>⟨H3,(f1.trans f2).trans f3,q3⟩)
theorem zQ {a:Expr} {x:Str} {pos:Pos} (h:EX ρ l env a H m (kD l x Q))
  (he:autoParam (eval (a.Attribute x pos) env = (do let o ← eval a env;standAt pos.atName;let r ← holding [o] (getAttr o x true);letTemporaryGo a o r;pure r)) rt):EX ρ l env (.Attribute a x pos) H m Q:=.mk fun P s g F A hA=>
 Attribute_any_ ((h.out P s g F).run hA fun v1 s1 H1 f1 p1=>p1.rec fun a1 c1 q1=>(q1.out P s1 v1 (g.fin f1) c1).run hA fun v3 s3 H3 f3 q3=>⟨H3,f1.trans f3,q3⟩) he
theorem star_no {e:Expr} {es:List Expr} (he:isStarred e = false):starEach (e :: es) env = (false,eval e env) :: starEach es env:=by cases e <;> first | rfl | cases he
theorem wD (p:Pos) (es:List Expr) (he:es.all (fun e=>!isStarred e) = true):(backTo p (starEach es env)).any (fun p=>p.1) = false:=by
 induction es with
 | nil=>rfl
 | cons e es ih=>
  simp only [List.all_cons,Av,Bool.not_eq_true'] at he
  rw [star_no he.1]
  show (false || (backTo p (starEach es env)).any (fun p=>p.1)) = false
  rw [ih he.2];rfl
theorem zU.append {h:Heap} {D:Addr→Prop}:∀ {xs ys:List AV} {vs us:List Value},zU ρ h D xs vs→zU ρ h D ys us→zU ρ h D (xs ++ ys) (vs ++ us)
 | [],_,_,_,a,b=>by simp [zU] at a;subst a;exact b
 | _ :: _,_,_,_,⟨v,vs',e,c,r⟩,b=>by subst e;exact ⟨v,vs' ++ _,rfl,c,r.append b⟩
theorem tM {M:Model} {A:Around} {E:Value→Shared→Prop} {s:Shared} {f:Value} {xs:List (Bool×Sem Value)} {Q:Args→Shared→Prop} (hx:xs.any (fun p=>p.1) = false)
  (h:wpAny M A (spliced xs) (fun vs s'=>Q { pos:=vs } s') E s):wpAny M A (evalArgs f true xs []) Q E s:=by
 cases xs with
 | cons x xs=>
  obtain ⟨b,x⟩:=x
  have:b = false:=by simp only [List.any_cons,Bool.or_eq_false_iff] at hx;exact hx.1
  subst this
  exact evalArgs_plain h
 | nil=>
  unfold evalArgs
  show wpAny M A (spliced [] >>= _) Q E s
  refine Ak (Ai h (fun vs s' h'=>?_) fun U U x=>x)
  refine Am ?_
  exact Ak (Aj (Ak (Aj (Aj h'))))
theorem CALLW {P:Addr→Prop} {s:Shared} {p:Pos} {f:AV} {vf:Value} {fs:List AV} {first:List Value} {es:List Expr} (g:G ρ P H s) (F:zG ρ env P H s.heap m)
  (hf:xM ρ s.heap (Dm H P) f vf) (hfs:zU ρ s.heap (Dm H P) fs first) (hk:tN ρ f)
  (he:es.all (fun e=>!isStarred e) = true)
  (h:yO ρ l env p es H m fun vs H1=>zE ρ l f (fs ++ vs) H1 Q):WP ρ l P H s (callWith p vf first (backTo p (starEach es env)) []) (tG ρ P Q):=fun A hA=>by
 refine callWith_of (P:=fun hp=>∃ s1 H1,s1.heap = hp∧Fin ρ P s H s1 H1) (by rw [wD p es he];rfl) (fun hp p1=>p1.elim fun s1 p2=>p2.elim fun H1 p3=>p3.elim fun e f1=>by subst e;exact hk.out P H1 s1 vf (g.fin f1) (hf.mono f1.ext.stays)) ?_
 have key:wpAny ρ.M A (spliced (backTo p (starEach es env))) (fun vs s1=>(∃ s2 H1,s2.heap = s1.heap∧Fin ρ P s H s2 H1)∧wpAny ρ.M A (call vf (first ++ vs)) (FR ρ P s H (tG ρ P Q)) (fun U U=>False) s1) (fun U U=>False) s:=by
  refine (h.out P s g F).run hA fun vs s1 H1 f1 ⟨as,c1,q1⟩=>⟨⟨s1,H1,rfl,f1⟩,?_⟩
  have cl:zU ρ s1.heap (Dm H1 P) (fs ++ as) (first ++ vs):=by
   have c0:zU ρ s1.heap (Dm H1 P) fs first:=hfs.mono f1.ext.stays
   exact c0.append c1
  exact (q1.out P s1 vf _ (g.fin f1) (hf.mono f1.ext.stays) cl).run hA fun v s2 H2 f2 q2=>⟨H2,f1.trans f2,q2⟩
 exact tM (wD p es he) key
theorem EX.call {x:Str} {np pos:Pos} {es:List Expr}
  (h:EX ρ l env (.Name x np) H m fun f H1=>tN ρ f∧yO ρ l env pos es H1 m (kF l f Q))
  (he:autoParam (es.all (fun e=>!isStarred e) = true) rt):EX ρ l env (.Call (.Name x np) es [] pos) H m Q:=.mk fun P s g F A hA=>
 wpAny_Call_NameR ((h.out P s g F).run hA fun vf s1 H1 f1 p1=>p1.rec fun f cf p2=>p2.elim fun hk q1=>
  (CALLW (fs:=[]) (first:=[]) (g.fin f1) (F.ext f1.ext) cf rfl hk he (by simpa using q1)).run hA fun v s2 H2 f2 q2=>⟨H2,f1.trans f2,q2⟩)
theorem meth_form {pos:Pos} {es:List Expr} (he:es.all (fun e=>!isStarred e) = true) (hn:es.length < 30):methodCallForm (es.length + 0) (backTo pos (starEach es env)) (backToKw pos (keywordEach [] env)) = true:=by
 refine Ac.mpr ⟨Ac.mpr ⟨Aw.mpr fun y hy=>?_,rfl⟩,Dc hn⟩
 rw [Bool.not_eq_true',Bool.eq_false_iff]
 exact List.any_eq_false.mp (wD pos es he) y hy
theorem oZ {o:Expr} {x:Str} {apos pos:Pos} {es:List Expr}
  (h:EX ρ l env o H m fun ov H1=>pU ρ l ov x H1 fun f fs=>tN ρ f∧yO ρ l env pos es H1 m fun vs H2=>zE ρ l f (fs ++ vs) H2 Q)
  (he:autoParam (es.all (fun e=>!isStarred e) = true) rt) (hn:es.length < 30:=by decide) (hb:autoParam (attributeBase o x env (eval o env) = eval o env) rt) (hp:autoParam ((apos.endLine == pos.line) = true) rt) :
  EX ρ l env (.Call (.Attribute o x apos) es [] pos) H m Q:=.mk fun P s g F=>by
 show WP _ _ _ _ _ (attributeBase o x env (eval o env) >>= _) _
 rw [hb]
 refine WP.bind ((h.out P s g F).mono fun v s1 H1 f1 p1=>p1.rec fun a1 c1 q1=>?_)
 have g1:=g.fin f1
 refine WP.bind (WP.standAt g1.rep ?_)
 unfold methodCall
 rw [show methodCallForm (es.length + ([]:List Keyword).length) (backTo pos (starEach es env)) (backToKw pos (keywordEach [] env)) = true from meth_form he hn]
 refine WP.bind (WP.holding ((q1.out P s1 v _ g1 c1).mono fun vf s2 H2 f2 p=>p.elim fun e2 p=>p.elim fun f p=>p.elim fun fs p=>?_))
 subst e2
 have g2:=g1.fin f2
 unfold methodCallPos
 rw [Ab (Bool.or_eq_true_iff.mpr (.inr hp))]
 exact WP.bind (WP.pure g2.rep (CALLW g2 (F.ext (f1.trans f2).ext) p.1 p.2.1 p.2.2.1 he p.2.2.2))
end
end
section
inductive AF where
 | nxt
 | brk
 | cnt
 | ret (v:AV)
noncomputable def ConF (ρ:Bs) (h:Heap) (D:Addr→Prop):AF→Flow→Prop
 | .nxt,f=>f = .next
 | .brk,f=>f = .brk
 | .cnt,f=>f = .cont
 | .ret v,f=>∃ u,f = .ret u∧xM ρ h D v u
noncomputable def rP (env:Env) (a:Addr):Prop:=a = env.locals∨∃ x,env.cells.lookup x = some a
noncomputable def Own (env:Env) (a:Addr):Prop:=a = env.locals∨(env.func.isSome = true∧∃ x,env.cells.lookup x = some a)
theorem Own.use {env:Env} {a:Addr} (h:Own env a):rP env a:=h.elim .inl fun h=>.inr h.2
structure sB (ρ:Bs) (env:Env) (P:Addr→Prop) (s:Shared) (H:zA) (s':Shared) (H':zA):Prop where
 keep:∀ a o,s.heap.get? a = some o→H a = none→¬ Own env a→s'.heap.get? a = some o∧H' a = none
 rep:vG ρ s'.heap H' P
 gens:s'.gens = s.gens
 os:s'.os = s.os
 tk:s.toks ≤ s'.toks
section
variable {l:Nat} {env:Env} {H:zA} {m:zN}
theorem zG.useP {P h m} (F:zG ρ env P H h m) {a:Addr} (o:rP env a):P a∧H a = none∧∃ o,h.get? a = some o:=by
 refine sealG ?_
 intro Gs
 rcases o with rfl | ⟨x,e⟩
 ·refine sealG ?_
  intro Gs
  obtain ⟨mc,⟨o,es,ep,ho,U⟩,U⟩:=F.ns
  exact ⟨F.own.1,F.own.2,o,ho⟩
 ·refine sealG ?_
  intro Gs
  obtain ⟨a,b,v,o,ho,U⟩:=F.ownC x _ e
  exact ⟨a,b,o,ho⟩
theorem zG.ownP {P h m} (F:zG ρ env P H h m) {a:Addr} (o:Own env a):P a∧H a = none∧∃ o,h.get? a = some o:=F.useP o.use
theorem Fin.toS {P s s' H'} (f:Fin ρ P s H s' H'):sB ρ env P s H s' H':=⟨fun a o e n U=>f.ext a o e n,f.rep,f.gens,f.os,f.tk⟩
theorem sB.trans {P s s' H' s'' H''} (a:sB ρ env P s H s' H') (b:sB ρ env P s' H' s'' H''):sB ρ env P s H s'' H'':=
 ⟨fun x o e n q=>b.keep x o (a.keep x o e n q).1 (a.keep x o e n q).2 q,b.rep,b.gens.trans a.gens,b.os.trans a.os,Ah a.tk b.tk⟩
theorem sB.stays {P s s' H'} (f:sB ρ env P s H s' H') (F:zG ρ env P H s.heap m):zX (Dm H P) s.heap (Dm H' P) s'.heap:=fun a o e n=>by
 have n1:H a = none:=Ae fun q=>n (.inl q)
 have n2:¬ P a:=fun q=>n (.inr q)
 have k:=f.keep a o e n1 fun q=>n2 (F.ownP q).1
 exact ⟨k.1,fun q=>q.elim (fun q=>q k.2) n2⟩
theorem G.finS {P s s' H' m'} (g:G ρ P H s) (F:zG ρ env P H s.heap m) (f:sB ρ env P s H s' H') (F':zG ρ env P H' s'.heap m'):G ρ P H' s':=by
 refine ⟨fun b o e=>?_,f.rep,fun a p=>?_,An g.tk f.tk⟩
 ·refine sealG ?_
  intro Gs
  obtain ⟨a,n,p⟩:=g.base b o e
  have k:=f.keep b o a n fun q=>p (F.ownP q).1
  exact ⟨k.1,k.2,p⟩
 ·by_cases q:Own env a
  ·exact (F'.ownP q).2
  ·refine sealG ?_
   intro Gs
   obtain ⟨n,o,e⟩:=g.pin a p
   have k:=f.keep a o e n q
   exact ⟨k.2,o,k.1⟩
inductive FRS {α:Type} (ρ:Bs) (env:Env) (P:Addr→Prop) (s:Shared) (H:zA) (R:α→Shared→zA→zN→Prop) (v:α) (s':Shared):Prop
 | mk:∀ H' m',sB ρ env P s H s' H'→zG ρ env P H' s'.heap m'→R v s' H' m'→FRS ρ env P s H R v s'
inductive PostF (ρ:Bs) (P:Addr→Prop) (Q:AF→zA→zN→Prop) (f:Flow) (s':Shared) (H':zA) (m':zN):Prop
 | mk:∀ af,ConF ρ s'.heap (Dm H' P) af f→Q af H' m'→PostF ρ P Q f s' H' m'
noncomputable def WPS {α:Type} (ρ:Bs) (l:Nat) (env:Env) (P:Addr→Prop) (H:zA) (s:Shared) (t:Sem α) (R:α→Shared→zA→zN→Prop):Prop:=
 ∀ A,sW l A→wpAny ρ.M A t (FRS ρ env P s H R) (fun U U=>False) s
theorem WPS.run {α:Type} {P:Addr→Prop} {s:Shared} {A:Around} {t:Sem α} {R:α→Shared→zA→zN→Prop} {Q':α→Shared→Prop} (h:WPS ρ l env P H s t R) (hA:sW l A)
  (k:∀ v s' H' m',sB ρ env P s H s' H'→zG ρ env P H' s'.heap m'→R v s' H' m'→Q' v s'):wpAny ρ.M A t Q' (fun U U=>False) s:=
 Ai (h A hA) (fun v s' p1=>p1.rec fun H' m' F F' h'=>k v s' H' m' F F' h') fun U U x=>x
structure ST (ρ:Bs) (l:Nat) (env:Env) (ss:List Stmt) (H:zA) (m:zN) (Q:AF→zA→zN→Prop):Prop where
 mk ::
 out:∀ P s,G ρ P H s→zG ρ env P H s.heap m→WPS ρ l env P H s (execs ss env) (PostF ρ P Q)
structure S1 (ρ:Bs) (l:Nat) (env:Env) (s1:Stmt) (H:zA) (m:zN) (Q:AF→zA→zN→Prop):Prop where
 mk ::
 out:∀ P s,G ρ P H s→zG ρ env P H s.heap m→WPS ρ l env P H s (exec s1 env) (PostF ρ P Q)
structure AS (ρ:Bs) (l:Nat) (env:Env) (t:Expr) (v:AV) (H:zA) (m:zN) (Q:zA→zN→Prop):Prop where
 mk ::
 out:∀ P s cv,G ρ P H s→zG ρ env P H s.heap m→xM ρ s.heap (Dm H P) v cv→WPS ρ l env P H s (assign t env cv) fun U U H' m'=>Q H' m'
variable {Q:AF→zA→zN→Prop}
noncomputable abbrev kX (m:zN) (Q:AF→zA→zN→Prop):AV→zA→Prop:=fun U H=>Q .nxt H m
noncomputable abbrev kN (m:zN) (Q:AF→zA→zN→Prop):zA→Prop:=fun H=>Q .nxt H m
noncomputable abbrev kR (m:zN) (Q:AF→zA→zN→Prop):AV→zA→Prop:=fun v H=>Q (.ret v) H m
noncomputable abbrev kI (l:Nat) (env:Env) (b o:List Stmt) (m:zN) (Q:AF→zA→zN→Prop):Bool→zA→Prop:=fun r H=>if r then ST ρ l env b H m Q else ST ρ l env o H m Q
theorem ST.nil (q:Q .nxt H m):ST ρ l env [] H m Q:=.mk fun P s g F A hA=>by
 exact Aj ⟨H,m,(Fin.refl g.rep).toS,F,.nxt,rfl,q⟩
noncomputable abbrev CQ (ρ:Bs) (l:Nat) (env:Env) (ss:List Stmt) (Q:AF→zA→zN→Prop):AF→zA→zN→Prop:=fun af H' m'=>match af with | .nxt=>ST ρ l env ss H' m' Q | af=>Q af H' m'
theorem ST.cons {s1:Stmt} {ss:List Stmt} (h:S1 ρ l env s1 H m (CQ ρ l env ss Q)):ST ρ l env (s1 :: ss) H m Q:=.mk fun P s g F A hA=>by
 refine Ak ((h.out P s g F).run hA fun f s' H' m' f1 F' p1=>p1.rec fun af cf q=>?_)
 cases af with
 | nxt=>
  subst cf
  exact (q.out P s' (g.finS F f1 F') F').run hA fun f s'' H'' m'' f2 F'' r=>⟨H'',m'',f1.trans f2,F'',r⟩
 | brk=>subst cf;exact Aj ⟨H',m',f1,F',.brk,rfl,q⟩
 | cnt=>subst cf;exact Aj ⟨H',m',f1,F',.cnt,rfl,q⟩
 | ret v=>obtain ⟨u,rfl,c⟩:=cf;exact Aj ⟨H',m',f1,F',.ret v,⟨u,rfl,c⟩,q⟩
theorem ST.mono {ss:List Stmt} {Q':AF→zA→zN→Prop} (h:ST ρ l env ss H m Q) (k:∀ af H' m',Q af H' m'→Q' af H' m'):ST ρ l env ss H m Q':=.mk fun P s g F A hA=>
 (h.out P s g F).run hA fun f s' H' m' f1 F' ⟨af,c,q⟩=>⟨H',m',f1,F',af,c,k _ _ _ q⟩
theorem ST.c {s1:Stmt} {ss:List Stmt} (h:let Q':=CQ ρ l env ss Q;S1 ρ l env s1 H m Q'):ST ρ l env (s1 :: ss) H m Q:=ST.cons h
theorem ST.c0 {s1:Stmt} {ss:List Stmt} (h:let Qs:=Q;let Q':=CQ ρ l env ss Qs;S1 ρ l env s1 H m Q'):ST ρ l env (s1 :: ss) H m Q:=ST.cons h
theorem zG.store {P:Addr→Prop} {h h':Heap} {x:Str} {av:AV} {v:Value} {mc:Str→Option Value} (F:zG ρ env P H h m) (hk:env.kindOf x = some .local) (c:xM ρ h (Dm H P) av v)
  (hmc:∀ x av,m x = some av→env.kindOf x = some .local→∃ v,mc x = some v∧xM ρ h (Dm H P) av v)
  (hn:h'.Ns env.locals fun y=>if y = x then some v else mc y) (hs:Heap.SameBut env.locals h h'):zG ρ env P H h' (wA m x av):=by
 have st:zX (Dm H P) h (Dm H P) h':=fun a o e n=>⟨(hs.2 a fun q=>n (.inr (q ▸ F.own.1))).trans e,n⟩
 have kc:∀ c v,h.IsCell c v→h'.IsCell c v:=fun c v p1=>p1.elim fun o p2=>p2.elim fun ho hd=>⟨o,(hs.2 c fun q=>by
  obtain ⟨mc',⟨o',es,ep,ho',hd',U⟩,U⟩:=F.ns
  subst q;rw [ho] at ho';cases ho';rw [hd] at hd';cases hd').trans ho,hd⟩
 refine ⟨F.fn,F.gl,F.bi,⟨_,hn,fun y u e k=>?_⟩,fun y u e k=>?_,F.own,fun y c e=>?_,F.apart⟩
 ·unfold wA at e
  by_cases q:y = x
  ·subst q;simp only [Ay] at e ⊢;cases e;exact ⟨v,rfl,c.mono st⟩
  ·simp only [Aa q] at e ⊢
   obtain ⟨v,a,b⟩:=hmc y u e k
   exact ⟨v,a,b.mono st⟩
 ·unfold wA at e
  by_cases q:y = x
  ·subst q;exact absurd hk k
  ·simp only [Aa q] at e
   obtain ⟨cc,v,a,b,d⟩:=F.cl y u e k
   exact ⟨cc,v,a,kc _ _ b,d.mono st⟩
 ·obtain ⟨a,b,v,d⟩:=F.ownC y c e
  exact ⟨a,b,v,kc _ _ d⟩
theorem zG.storeC {P:Addr→Prop} {h h':Heap} {x:Str} {av:AV} {v:Value} {cc:Addr} (F:zG ρ env P H h m) (hk:env.kindOf x ≠ some .local) (c:xM ρ h (Dm H P) av v)
  (hc:env.cells.lookup x = some cc) (hn:h'.IsCell cc (some v)) (hs:Heap.SameBut cc h h'):zG ρ env P H h' (wA m x av):=by
 have st:zX (Dm H P) h (Dm H P) h':=fun a o e n=>⟨(hs.2 a fun q=>n (.inr (q ▸ (F.ownC x cc hc).1))).trans e,n⟩
 have kL:∀ mc,h.Ns env.locals mc→h'.Ns env.locals mc:=fun mc n=>Ns_ext n fun o ho=>(hs.2 _ fun q=>by
  refine sealG ?_
  intro Gs
  obtain ⟨o',es,ep,ho',hd',U⟩:=n
  obtain ⟨U,U,v,ob,hob,hd⟩:=F.ownC x cc hc
  rw [q] at ho';rw [ho'] at hob;cases hob;rw [hd'] at hd;cases hd).trans ho
 refine sealG ?_
 intro Gs
 obtain ⟨mc,n,r⟩:=F.ns
 refine ⟨F.fn,F.gl,F.bi,⟨mc,kL mc n,fun y u e k=>?_⟩,fun y u e k=>?_,F.own,fun y c e=>?_,F.apart⟩
 ·unfold wA at e
  by_cases q:y = x
  ·subst q;exact absurd k hk
  ·simp only [Aa q] at e
   refine sealG ?_
   intro Gs
   obtain ⟨v,a,b⟩:=r y u e k
   exact ⟨v,a,b.mono st⟩
 ·unfold wA at e
  by_cases q:y = x
  ·subst q;simp only [Ay] at e;cases e;exact ⟨cc,v,hc,hn,c.mono st⟩
  ·simp only [Aa q] at e
   refine sealG ?_
   intro Gs
   obtain ⟨c2,v,a,⟨o,ho,hd⟩,d⟩:=F.cl y u e k
   have:c2 ≠ cc:=fun q'=>q (F.apart y x c2 a (q' ▸ hc))
   exact ⟨c2,v,a,⟨o,(hs.2 c2 this).trans ho,hd⟩,d.mono st⟩
 ·refine sealG ?_
  intro Gs
  obtain ⟨a,b,v,o,ho,hd⟩:=F.ownC y c e
  by_cases q:c = cc
  ·subst q;exact ⟨a,b,_,hn⟩
  ·exact ⟨a,b,v,o,(hs.2 c q).trans ho,hd⟩
theorem store_fin {P:Addr→Prop} {s:Shared} {h':Heap} {tk:Nat} {a:Addr} (g:G ρ P H s) (F:zG ρ env P H s.heap m) (ha:Own env a) (hs:Heap.SameBut a s.heap h') (htk:s.toks ≤ tk) :
  sB ρ env P s H { s with heap:=h',toks:=tk } H:=by
 have st:zX (Dm H P) s.heap (Dm H P) h':=fun b o e n=>⟨(hs.2 b fun q=>n (.inr (q ▸ (F.ownP ha).1))).trans e,n⟩
 have k:∀ b o,H b = some o→∀ ob,s.heap.get? b = some ob→h'.get? b = some ob:=fun b o e ob ho=>(hs.2 b fun q=>by subst q;rw [(F.ownP ha).2.1] at e;cases e).trans ho
 exact ⟨fun b o e n no=>⟨(hs.2 b fun q=>no (q ▸ ha)).trans e,n⟩,fun b o e=>(g.rep b o e).at st (k b o e) fun U d hd=>⟨hd,k d _ hd⟩,rfl,rfl,htk⟩
theorem STN {P:Addr→Prop} {s:Shared} {x:Str} {av:AV} {v:Value} (g:G ρ P H s) (F:zG ρ env P H s.heap m) (c:xM ρ s.heap (Dm H P) av v)
  (hk:env.kindOf x = some .local∨(env.kindOf x = some .cell∧(env.cells.lookup x).isSome = true∧env.func.isSome = true)):WPS ρ l env P H s (storeName env x v) fun U U H' m'=>H' = H∧m' = wA m x av:=fun A hA=>by
 refine sealG ?_
 intro Gs
 rcases hk with hk | ⟨hk,hc,hfn⟩
 ·refine sealG ?_
  intro Gs
  obtain ⟨mc,n,r⟩:=F.ns
  exact wpAny_storeName_local hk n (fun h' hn hs=>⟨H,_,store_fin g F (.inl rfl) hs (Nat.le_succ _),F.store hk c r hn hs,rfl,rfl⟩) (by rw [F.fn];rfl)
 ·refine sealG ?_
  intro Gs
  obtain ⟨cc,hc⟩:=Az.mp hc
  obtain ⟨U,U,v0,hv⟩:=F.ownC x cc hc
  exact wpAny_storeName_cell F.fn hk hc hv (fun h' hn hs=>⟨H,_,store_fin (tk:=s.toks) g F (.inr ⟨hfn,x,hc⟩) hs (Ag _),F.storeC (by rw [hk];decide) c hc hn hs,rfl,rfl⟩)
noncomputable def SK (env:Env) (x:Str):Prop:=env.kindOf x = some .local∨(env.kindOf x = some .cell∧(env.cells.lookup x).isSome = true∧env.func.isSome = true)
theorem S1.name {x:Str} {p pos:Pos} {e:Expr} (h:let R:AV→zA→Prop:=fun av H'=>Q .nxt H' (wA m x av);EX ρ l env e H m R) (hk:SK env x:=by first | exact .inl (by rfl) | exact .inr ⟨by rfl,by rfl,by rfl⟩) (hs:autoParam (swapsWith e (some (.Name x p)) pos.line env = pure false) rt) :
  S1 ρ l env (.Assign [.Name x p] e pos) H m Q:=.mk fun P s g F A hA=>
 wpAny_Assign_Name ((h.out P s g F).run hA fun v s1 H1 f1 p1=>p1.rec fun av c q=>(STN (g.fin f1) (F.ext f1.ext) c hk).run hA fun U s2 H2 m2 f2 F2 p1=>p1.rec fun e1 e2=>by
  subst e1;subst e2;exact ⟨H2,_,f1.toS.trans f2,F2,.nxt,rfl,q⟩) hs
theorem AS.name {x:Str} {p:Pos} {v:AV} {Q:zA→zN→Prop} (q:Q H (wA m x v)) (hk:SK env x:=by first | exact .inl (by rfl) | exact .inr ⟨by rfl,by rfl,by rfl⟩):AS ρ l env (.Name x p) v H m Q:=.mk fun P s cv g F c A hA=>by
 refine Ak (Al ?_)
 unfold bindName
 refine Ak (Am (wpAny_point ?_))
 refine Ak ((STN g F c hk).run hA fun U s2 H2 m2 f2 F2 p1=>p1.rec fun e1 e2=>?_)
 subst e1;subst e2
 exact wpAny_point ⟨H2,_,f2,F2,q⟩
structure xN (ρ:Bs) (l:Nat) (env:Env) (ts:List Expr) (vs:List AV) (H:zA) (m:zN) (Q:zA→zN→Prop):Prop where
 mk ::
 out:∀ P s cvs,G ρ P H s→zG ρ env P H s.heap m→zU ρ s.heap (Dm H P) vs cvs→WPS ρ l env P H s (assignInOrder ((assignEach ts env).map (fun p=>p.2)) cvs) fun U U H' m'=>Q H' m'
noncomputable abbrev kJ (l:Nat) (env:Env) (ts:List Expr) (vs:List AV) (Q:zA→zN→Prop):zA→zN→Prop:=fun H m=>xN ρ l env ts vs H m Q
noncomputable abbrev kNn (Q:AF→zA→zN→Prop):zA→zN→Prop:=fun H m=>Q .nxt H m
noncomputable abbrev kO (l:Nat) (env:Env) (t:Expr) (m:zN) (Q:zA→zN→Prop):AV→zA→Prop:=fun av H=>AS ρ l env t av H m Q
noncomputable abbrev kH (l:Nat) (env:Env) (body:List Stmt) (Q:AF→zA→zN→Prop):zA→zN→Prop:=fun H m=>ST ρ l env body H m Q
theorem xN.nil {Q:zA→zN→Prop} (q:Q H m):xN ρ l env [] [] H m Q:=.mk fun P s cvs g F c A hA=>by
 simp [zU] at c;subst c
 exact Aj ⟨H,m,(Fin.refl g.rep).toS,F,q⟩
theorem xN.cons {t:Expr} {ts:List Expr} {v:AV} {vs:List AV} {Q:zA→zN→Prop} (h:AS ρ l env t v H m (kJ l env ts vs Q)) (he:autoParam (assignEach (t :: ts) env = (false,assign t env) :: assignEach ts env) rt) :
  xN ρ l env (t :: ts) (v :: vs) H m Q:=.mk fun P s cvs g F c A hA=>by
 obtain ⟨cv,cvs',rfl,c1,c2⟩:=c
 rw [he,Ba]
 refine wpAny_assignInOrder_more ((h.out P s cv g F c1).run hA fun U s1 H1 m1 f1 F1 q=>?_)
 exact (q.out P s1 cvs' (g.finS F f1 F1) F1 (c2.mono (f1.stays F))).run hA fun U s2 H2 m2 f2 F2 q=>⟨H2,m2,f1.trans f2,F2,q⟩
theorem AS.tup {ts:List Expr} {k:Nat} {p:Pos} {vs:List AV} {Q:zA→zN→Prop} (h:xN ρ l env ts vs H m Q) (hl:autoParam (ts.length = vs.length) rt)
  (he:autoParam ((assignEach ts env).length = ts.length) rt) (hf:autoParam (List.findIdx? (fun x=>x.fst) (assignEach ts env) = none) rt):AS ρ l env (.Tuple ts k p) (.tup vs) H m Q:=.mk fun P s cv g F c A hA=>by
 obtain ⟨a,cvs,n,rfl,na,ho,cl⟩:=c
 refine wpAny_assign_Tuple hA.1 ⟨_,ho,rfl,n,rfl⟩ (by rw [he,hl,← cl.length];simp) hf fun h' hx=>?_
 have f0:Fin ρ P s H { s with heap:=h' } H:=by
  have ex:∀ b o,s.heap.get? b = some o→h'.get? b = some o:=fun b o e=>hx b o (Bb (Aq e)) e
  exact ⟨fun b o e nn=>⟨ex b o e,nn⟩,fun b o e=>(g.rep b o e).at (fun a o e n=>⟨ex a o e,n⟩) (ex b) fun U d hd=>⟨hd,ex d⟩,rfl,rfl,Ag _⟩
 rw [show cvs.toArray.toList = cvs from by simp]
 exact (h.out P { s with heap:=h' } cvs (g.fin f0) (F.ext f0.ext) (cl.mono f0.ext.stays)).run hA fun U s2 H2 m2 f2 F2 q=>⟨H2,m2,f0.toS.trans f2,F2,q⟩
theorem S1.tup {ts:List Expr} {k:Nat} {p pos:Pos} {e:Expr} (h:EX ρ l env e H m (kO l env (.Tuple ts k p) m (kNn Q)))
  (h1:autoParam (swapsWithSole [.Tuple ts k p] e pos.line env = pure false) rt) (h2:autoParam (swappedStores [.Tuple ts k p] e env = pure none) rt):S1 ρ l env (.Assign [.Tuple ts k p] e pos) H m Q:=.mk fun P s g F A hA=>
 Assign_Tuple ((h.out P s g F).run hA fun v s1 H1 f1 p1=>p1.rec fun av c q=>(q.out P s1 v (g.fin f1) (F.ext f1.ext) c).run hA fun U s2 H2 m2 f2 F2 q=>⟨H2,m2,f1.toS.trans f2,F2,.nxt,rfl,q⟩) h1 h2
structure wT (ρ:Bs) (l:Nat) (a i v:AV) (H:zA) (Q:zA→Prop):Prop where
 mk ::
 out:∀ P s va vi vv,G ρ P H s→xM ρ s.heap (Dm H P) a va→xM ρ s.heap (Dm H P) i vi→xM ρ s.heap (Dm H P) v vv→WP ρ l P H s (setItem va vi vv) fun U U H'=>Q H'
structure pR (ρ:Bs) (l:Nat) (a:AV) (x:Str) (v:AV) (H:zA) (Q:zA→Prop):Prop where
 mk ::
 out:∀ P s va vv,G ρ P H s→xM ρ s.heap (Dm H P) a va→xM ρ s.heap (Dm H P) v vv→WP ρ l P H s (setAttr va x vv) fun U U H'=>Q H'
structure INP (ρ:Bs) (l:Nat) (op:Operator) (a b:AV) (H:zA) (Q:AV→zA→Prop):Prop where
 mk ::
 out:∀ P s va vb,G ρ P H s→xM ρ s.heap (Dm H P) a va→xM ρ s.heap (Dm H P) b vb→WP ρ l P H s (inplaceOp op va vb) (tG ρ P Q)
structure qA (ρ:Bs) (l:Nat) (a i:AV) (H:zA) (Q:AV→zA→Prop):Prop where
 mk ::
 out:∀ P s va vi,G ρ P H s→xM ρ s.heap (Dm H P) a va→xM ρ s.heap (Dm H P) i vi→WP ρ l P H s (getItem va vi) (tG ρ P Q)
noncomputable abbrev kZ3 (l:Nat) (v a:AV) (Q:zA→Prop):AV→zA→Prop:=fun b H=>wT ρ l a b v H Q
noncomputable abbrev kZ2 (l:Nat) (env:Env) (v:AV) (i:Expr) (m:zN) (Q:zA→Prop):AV→zA→Prop:=fun a H=>EX ρ l env i H m (kZ3 l v a Q)
noncomputable abbrev kZ (l:Nat) (env:Env) (o i:Expr) (m:zN) (Q:zA→Prop):AV→zA→Prop:=fun v H=>EX ρ l env o H m (kZ2 l env v i m Q)
theorem S1.sub {o i:Expr} {p pos:Pos} {e:Expr} (h:EX ρ l env e H m (kZ l env o i m (kN m Q)))
  (hs:autoParam (swapsWith e (some (o.Subscript i p)) pos.line env = pure false) rt):S1 ρ l env (.Assign [.Subscript o i p] e pos) H m Q:=.mk fun P s g F A hA=>
 wpAny_Assign_Subscript ((h.out P s g F).run hA fun v s1 H1 f1 p1=>p1.rec fun av c1 q1=>(q1.out P s1 (g.fin f1) (F.ext f1.ext)).run hA fun v2 s2 H2 f2 p1=>p1.rec fun a2 c2 q2=>
  have g2:=(g.fin f1).fin f2
  (q2.out P s2 g2 (F.ext (f1.trans f2).ext)).run hA fun v3 s3 H3 f3 p1=>p1.rec fun a3 c3 q3=>
   (q3.out P s3 v2 v3 v (g2.fin f3) (c2.mono f3.ext.stays) c3 (c1.mono (f2.trans f3).ext.stays)).run hA fun U s4 H4 f4 q4=>
    have f:=((f1.trans f2).trans f3).trans f4
    ⟨H4,m,f.toS,F.ext f.ext,.nxt,rfl,q4⟩) hs
noncomputable abbrev kA2 (l:Nat) (x:Str) (v:AV) (Q:zA→Prop):AV→zA→Prop:=fun a H=>pR ρ l a x v H Q
noncomputable abbrev kA1 (l:Nat) (env:Env) (o:Expr) (x:Str) (m:zN) (Q:zA→Prop):AV→zA→Prop:=fun v H=>EX ρ l env o H m (kA2 l x v Q)
theorem uY {o:Expr} {x:Str} {p pos:Pos} {e:Expr} (h:EX ρ l env e H m (kA1 l env o x m (kN m Q)))
  (hs:autoParam (swapsWith e (some (o.Attribute x p)) pos.line env = pure false) rt):S1 ρ l env (.Assign [.Attribute o x p] e pos) H m Q:=.mk fun P s g F A hA=>
 plainObj_wpAny_Assign_Attribute ((h.out P s g F).run hA fun v s1 H1 f1 p1=>p1.rec fun av c1 q1=>(q1.out P s1 (g.fin f1) (F.ext f1.ext)).run hA fun v2 s2 H2 f2 p1=>p1.rec fun a2 c2 q2=>
  (q2.out P s2 v2 v ((g.fin f1).fin f2) c2 (c1.mono f2.ext.stays)).run hA fun U s4 H4 f4 q4=>
    have f:=(f1.trans f2).trans f4;
    ⟨H4,m,f.toS,F.ext f.ext,.nxt,rfl,q4⟩) hs
noncomputable abbrev kM2 (x:Str) (m:zN) (Q:AF→zA→zN→Prop):AV→zA→Prop:=fun v H=>Q .nxt H (wA m x v)
noncomputable abbrev kM1 (l:Nat) (op:Operator) (a:AV) (Q:AV→zA→Prop):AV→zA→Prop:=fun b H=>INP ρ l op a b H Q
theorem S1.aug {x:Str} {p pos:Pos} {op:Operator} {e:Expr} {a:AV} (hm:m x = some a) (hl:env.kindOf x = some .local) (h:EX ρ l env e H m (kM1 l op a (kM2 x m Q))) :
  S1 ρ l env (.AugAssign (.Name x p) op e pos) H m Q:=.mk fun P s g F A hA=>by
 refine sealG ?_
 intro Gs
 obtain ⟨mc,n,r⟩:=F.ns
 obtain ⟨v,hv,c1⟩:=r x a hm hl
 refine wpAny_AugAssign_Name (wpAny_loadName_local F.fn hl n hv ((h.out P s g F).run hA fun v2 s2 H2 f2 p1=>p1.rec fun a2 c2 q2=>?_))
 refine (q2.out P s2 v v2 (g.fin f2) (c1.mono f2.ext.stays) c2).run hA fun v3 s3 H3 f3 p1=>p1.rec fun a3 c3 q3=>?_
 have f:=f2.trans f3
 refine (STN (g.fin f) (F.ext f.ext) c3 (.inl hl)).run hA fun U s4 H4 m4 f4 F4 p1=>p1.rec fun e1 e2=>?_
 subst e1;subst e2
 exact ⟨H4,_,f.toS.trans f4,F4,.nxt,rfl,q3⟩
theorem S1.augsub {o i:Expr} {p pos:Pos} {op:Operator} {e:Expr} (h:EX ρ l env o H m fun a H1=>EX ρ l env i H1 m fun b H2=>qA ρ l a b H2 fun old H3=>EX ρ l env e H3 m fun v H4=>INP ρ l op old v H4 fun nw H5=>wT ρ l a b nw H5 fun H6=>Q .nxt H6 m)
  (hg:∀ (ov iv new:Value),augStore i ov iv new = ((PySem.holding [new,ov,iv] (setItem ov iv new) >>= fun U=>PySem.release [new,ov,iv] [] >>= fun U=>Pure.pure Flow.next)):=by intros;rfl):S1 ρ l env (.AugAssign (.Subscript o i p) op e pos) H m Q:=.mk fun P s g F A hA=>by
 refine wpAny_AugAssign_SubscriptAny ((h.out P s g F).run hA fun v1 s1 H1 f1 p1=>p1.rec fun a1 c1 q1=>(q1.out P s1 (g.fin f1) (F.ext f1.ext)).run hA fun v2 s2 H2 f2 p1=>p1.rec fun a2 c2 q2=>?_) hg
 have f12:=f1.trans f2
 refine (q2.out P s2 v1 v2 (g.fin f12) (c1.mono f2.ext.stays) c2).run hA fun v3 s3 H3 f3 p1=>p1.rec fun a3 c3 q3=>?_
 have f13:=f12.trans f3
 refine (q3.out P s3 (g.fin f13) (F.ext f13.ext)).run hA fun v4 s4 H4 f4 p1=>p1.rec fun a4 c4 q4=>?_
 have f14:=f13.trans f4
 refine (q4.out P s4 v3 v4 (g.fin f14) (c3.mono f4.ext.stays) c4).run hA fun v5 s5 H5 f5 p1=>p1.rec fun a5 c5 q5=>?_
 have f15:=f14.trans f5
 refine (q5.out P s5 v1 v2 v5 (g.fin f15) (c1.mono (((f2.trans f3).trans f4).trans f5).ext.stays) (c2.mono ((f3.trans f4).trans f5).ext.stays) c5).run hA fun U s6 H6 f6 q6=>?_
 have f16:=f15.trans f6
 exact ⟨H6,m,f16.toS,F.ext f16.ext,.nxt,rfl,q6⟩
theorem zV {e:Expr} {pos:Pos} (h:EX ρ l env e H m (kX m Q)) (h1:autoParam (interactive env = false) rt) (h2:autoParam (swapsWith e none pos.line env = pure false) rt):S1 ρ l env (.Expr e pos) H m Q:=.mk fun P s g F A hA=>
 wpAny_Expr_any ((h.out P s g F).run hA fun v s1 H1 f1 p1=>p1.rec fun av c1 q1=>⟨H1,m,f1.toS,F.ext f1.ext,.nxt,rfl,q1⟩) h1 h2
theorem S1.ret {e:Expr} {pos:Pos} (h:EX ρ l env e H m (kR m Q)):S1 ρ l env (.Return (some e) pos) H m Q:=.mk fun P s g F A hA=>
 wpAny_Return_some ((h.out P s g F).run hA fun v s1 H1 f1 p1=>p1.rec fun av c1 q1=>⟨H1,m,f1.toS,F.ext f1.ext,.ret av,⟨v,rfl,c1⟩,q1⟩)
theorem S1.brk {pos:Pos} (q:Q .brk H m):S1 ρ l env (.Break pos) H m Q:=.mk fun P s g F A hA=>
 wpAny_Break ⟨H,m,(Fin.refl g.rep).toS,F,.brk,rfl,q⟩
theorem S1.cnt {pos:Pos} (q:Q .cnt H m):S1 ρ l env (.Continue pos) H m Q:=.mk fun P s g F A hA=>
 wpAny_Continue ⟨H,m,(Fin.refl g.rep).toS,F,.cnt,rfl,q⟩
theorem zK {t:Expr} {b o:List Stmt} {pos:Pos} (h:TR ρ l env t H m (kI l env b o m Q)):S1 ρ l env (.If t b o pos) H m Q:=.mk fun P s g F A hA=>
 wpAny_If ((h.out P s g F).run hA fun r s1 H1 f1 q1=>by
  cases r <;> simp only [Ao,Ap,Ay] at q1 ⊢
  all_goals exact (q1.out P s1 (g.fin f1) (F.ext f1.ext)).run hA fun f s' H' m' f2 F2 r=>⟨H',m',f1.toS.trans f2,F2,r⟩)
end
end
section
structure sA (ρ:Bs) (l:Nat) (P:Addr→Prop) (wr kp:List Addr) (I:Addr) (xs:List AV) (tg:Expr) (St:Nat→Heap→zA→Prop):Prop where
 frame:∀ i h H h' H',St i h H→(∀ b∈kp,H b = none)→(∀ a o,h.get? a = some o→H a = none→(¬ P a∨a∈kp)→h'.get? a = some o∧H' a = none)→St i h' H'
 item:∀ i x A s H,xs[i]? = some x→sW l A→G ρ P H s→St i s.heap H→∀ Q':Value→Shared→Prop,
  (∀ v h' tk,St (i + 1) h' H→xM ρ h' (Dm H P) x v→(∀ b o,b ∉ wr→s.heap.get? b = some o→h'.get? b = some o)→(∀ b∈wr,∃ o,h'.get? b = some o)→Q' v { s with heap:=h',toks:=tk }) →
  wpAny ρ.M A (pyNext (.ref I)) (fun r s1=>∃ v,r = some v∧wpAny ρ.M A (letOwnedTupleGo tg (.ref I) v) (fun U s2=>Q' v s2) (fun U U=>False) s1) (fun U U=>False) s
 done:∀ A s H,sW l A→G ρ P H s→St xs.length s.heap H→∀ Q':Option Value→Shared→Prop,
  (∀ h' tk,(∀ b o,b ∉ wr→s.heap.get? b = some o→h'.get? b = some o)→Q' none { s with heap:=h',toks:=tk })→wpAny ρ.M A (pyNext (.ref I)) Q' (fun U U=>False) s
 self:∀ i A s H (Q':Value→Shared→Prop) E,St i s.heap H→Q' (.ref I) s→wpAny ρ.M A (pyIter (.ref I)) Q' E s
section
variable {l:Nat} {env:Env} {H:zA} {m:zN}
theorem zG.move {P P':Addr→Prop} {h h' H'} (F:zG ρ env P H h m) (st:zX (Dm H P) h (Dm H' P') h')
  (ko:∀ a,rP env a→∀ o,h.get? a = some o→h'.get? a = some o∧H' a = none∧P' a):zG ρ env P' H' h' m:=by
 refine ⟨F.fn,F.gl,F.bi,?_,?_,?_,?_,F.apart⟩
 ·refine sealG ?_
  intro Gs
  obtain ⟨mc,n,r⟩:=F.ns
  exact ⟨mc,Ns_ext n fun o e=>(ko _ (.inl rfl) o e).1,fun y av e k=>let ⟨v,a,b⟩:=r y av e k;⟨v,a,b.mono st⟩⟩
 ·intro y av e k
  refine sealG ?_
  intro Gs
  obtain ⟨c,v,a,b,d⟩:=F.cl y av e k
  exact ⟨c,v,a,qV b fun o e=>(ko c (.inr ⟨y,a⟩) o e).1,d.mono st⟩
 ·refine sealG ?_
  intro Gs
  obtain ⟨U,U,o,ho⟩:=F.useP (.inl rfl)
  have z:=ko _ (.inl rfl) o ho
  exact ⟨z.2.2,z.2.1⟩
 ·intro y c e
  refine sealG ?_
  intro Gs
  obtain ⟨a,b,v,o,ho,r⟩:=F.ownC y c e
  have z:=ko c (.inr ⟨y,e⟩) o ho
  exact ⟨z.2.2,z.2.1,v,o,z.1,r⟩
structure tO (ρ:Bs) (env:Env) (wr:List Addr) (P:Addr→Prop) (s:Shared) (H:zA) (s':Shared) (H':zA):Prop where
 keep:∀ a o,s.heap.get? a = some o→H a = none→¬ Own env a→a ∉ wr→s'.heap.get? a = some o∧H' a = none
 gens:s'.gens = s.gens
 os:s'.os = s.os
 tk:s.toks ≤ s'.toks
theorem vG.but {P:Addr→Prop} {wr:List Addr} {s:Shared} {h':Heap} (g:G ρ P H s) (hw:∀ b∈wr,P b) (hk:∀ b o,b ∉ wr→s.heap.get? b = some o→h'.get? b = some o):vG ρ h' H P:=fun b o e=>by
 have nw:∀ d od,H d = some od→d ∉ wr:=fun d od e q=>nomatch e.symm.trans (g.pin d (hw d q)).1
 exact (g.rep b o e).at (fun a ob ea n=>⟨hk a ob (fun q=>n (.inr (hw a q))) ea,n⟩) (fun ob=>hk b ob (nw b o e)) fun U d hd=>⟨hd,fun ob=>hk d ob (nw d _ hd)⟩
theorem G.but {P:Addr→Prop} {wr:List Addr} {s:Shared} {h':Heap} {tk:Nat} (htk:s.toks ≤ tk) (g:G ρ P H s) (hw:∀ b∈wr,P b) (hk:∀ b o,b ∉ wr→s.heap.get? b = some o→h'.get? b = some o) (hx:∀ b∈wr,∃ o,h'.get? b = some o) :
  G ρ P H { s with heap:=h',toks:=tk }:=by
 refine ⟨fun b o e=>?_,.but g hw hk,fun b p=>⟨(g.pin b p).1,?_⟩,An g.tk htk⟩
 ·have z:=g.base b o e
  exact ⟨hk b o (fun q=>z.2.2 (hw b q)) z.1,z.2⟩
 ·by_cases q:b∈wr
  ·exact hx b q
  ·exact (g.pin b p).2.elim fun o e=>⟨o,hk b o q e⟩
theorem zG.but {P:Addr→Prop} {wr:List Addr} {h h':Heap} (F:zG ρ env P H h m) (hw:∀ b∈wr,P b∧¬ rP env b) (hk:∀ b o,b ∉ wr→h.get? b = some o→h'.get? b = some o):zG ρ env P H h' m:=
 F.move (fun a o e n=>⟨hk a o (fun q=>n (.inr (hw a q).1)) e,n⟩) fun a oa o e=>⟨hk a o (fun q=>(hw a q).2 oa) e,(F.useP oa).2.1,(F.useP oa).1⟩
theorem tO.refl {wr:List Addr} {P:Addr→Prop} {s:Shared}:tO ρ env wr P s H s H:=⟨fun a o e n U U=>⟨e,n⟩,rfl,rfl,Ag _⟩
theorem tO.trans {wr:List Addr} {P:Addr→Prop} {s s' s'':Shared} {H' H'':zA} (a:tO ρ env wr P s H s' H') (b:tO ρ env wr P s' H' s'' H''):tO ρ env wr P s H s'' H'':=
 ⟨fun x o e n q nw=>b.keep x o (a.keep x o e n q nw).1 (a.keep x o e n q nw).2 q nw,b.gens.trans a.gens,b.os.trans a.os,Ah a.tk b.tk⟩
theorem sB.toW {wr:List Addr} {P:Addr→Prop} {s s':Shared} {H':zA} (f:sB ρ env P s H s' H'):tO ρ env wr P s H s' H':=⟨fun x o e n q U=>f.keep x o e n q,f.gens,f.os,f.tk⟩
theorem tO.more {wr wr':List Addr} {P:Addr→Prop} {s s':Shared} {H':zA} (f:tO ρ env wr P s H s' H') (h:∀ b∈wr,b∈wr'):tO ρ env wr' P s H s' H':=⟨fun x o e n q nw=>f.keep x o e n q fun y=>nw (h x y),f.gens,f.os,f.tk⟩
noncomputable abbrev LQ (Inv:Nat→zA→zN→Prop) (i:Nat) (Q:AF→zA→zN→Prop):AF→zA→zN→Prop:=fun af H m=>match af with | .nxt=>Inv (i + 1) H m | .cnt=>Inv (i + 1) H m | .brk=>Q .nxt H m | .ret v=>Q (.ret v) H m
noncomputable abbrev WQ (Inv:Nat→zA→zN→Prop) (n:Nat) (Q:AF→zA→zN→Prop):AF→zA→zN→Prop:=fun af H m=>match af with | .nxt=>∃ k,k < n∧Inv k H m | .cnt=>∃ k,k < n∧Inv k H m | .brk=>Q .nxt H m | .ret v=>Q (.ret v) H m
noncomputable abbrev kBk (a:Addr) (o:AO) (Q:AF→zA→zN→Prop):AF→zA→zN→Prop:=fun af H m=>Q af (upd H a o) m
noncomputable abbrev kWh (l:Nat) (env:Env) (body:List Stmt) (Inv:Nat→zA→zN→Prop) (n:Nat) (m:zN) (Q:AF→zA→zN→Prop):Bool→zA→Prop:=fun b H=>if b then ST ρ l env body H m (WQ Inv n Q) else Q .nxt H m
structure NX (ρ:Bs) (env:Env) (P:Addr→Prop) (wr:List Addr) (s:Shared) (H:zA) (m:zN) (s':Shared):Prop where
 r:vG ρ s'.heap H P
 F:zG ρ env P H s'.heap m
 keep:∀ b o,b ∉ wr→s.heap.get? b = some o→s'.heap.get? b = some o
 W:tO ρ env wr P s H s' H
theorem NX.make {P:Addr→Prop} {wr:List Addr} {s s':Shared} (g:G ρ P H s) (F:zG ρ env P H s.heap m) (hw:∀ b∈wr,P b∧¬ rP env b) (hk:∀ b o,b ∉ wr→s.heap.get? b = some o→s'.heap.get? b = some o) (gn:s'.gens = s.gens) (os:s'.os = s.os) (tk:s.toks ≤ s'.toks):NX ρ env P wr s H m s':=
 ⟨.but g (fun b q=>(hw b q).1) hk,F.but hw hk,hk,fun a o e n U nw=>⟨hk a o nw e,n⟩,gn,os,tk⟩
inductive NV (ρ:Bs) (env:Env) (P:Addr→Prop) (wr:List Addr) (s:Shared) (H:zA) (m:zN) (St:Heap→zA→Prop) (x:AV) (v:Value) (s':Shared):Prop
 | mk:G ρ P H s'→NX ρ env P wr s H m s'→St s'.heap H→xM ρ s'.heap (Dm H P) x v→NV ρ env P wr s H m St x v s'
section
variable {P:Addr→Prop} {wr kp:List Addr} {I:Addr} {xs:List AV} {tg:Expr} {St:Nat→Heap→zA→Prop} {s:Shared} {A:Around}
theorem sA.stop {R:Option Value→Shared→Prop} {E:Value→Shared→Prop} (it:sA ρ l P wr kp I xs tg St) (hw:∀ b∈wr,P b∧¬ rP env b) (hA:sW l A) (g:G ρ P H s) (F:zG ρ env P H s.heap m) (st:St xs.length s.heap H) (h:∀ s',NX ρ env P wr s H m s'→R none s') :
  wpAny ρ.M A (pyNext (.ref I)) R E s:=
 Ai (qZ <| it.done A s H hA g st (fun r s'=>s.toks ≤ s'.toks→R r s') fun h' tk hk t=>h _ (.make g F hw hk rfl rfl t)) (fun U U p=>p.2 p.1) fun U U x=>x.elim
theorem sA.next {R:Option Value→Shared→Prop} {E:Value→Shared→Prop} {i:Nat} {x:AV} (it:sA ρ l P wr kp I xs tg St) (hw:∀ b∈wr,P b∧¬ rP env b) (hA:sW l A) (g:G ρ P H s) (F:zG ρ env P H s.heap m) (st:St i s.heap H) (hx:xs[i]? = some x)
  (h:∀ v s2,wpAny ρ.M A (letOwnedTupleGo tg (.ref I) v) (fun U s3=>NV ρ env P wr s H m (St (i + 1)) x v s3) (fun U U=>False) s2→R (some v) s2) :
  wpAny ρ.M A (pyNext (.ref I)) R E s:=by
 refine Ai (qZ <| it.item i x A s H hx hA g st (fun v s'=>s.toks ≤ s'.toks→NV ρ env P wr s H m (St (i + 1)) x v s') fun v h' tk a c hk hx t=>⟨g.but t (fun b q=>(hw b q).1) hk hx,.make g F hw hk rfl rfl t,a,c⟩)
  (fun r s2 p=>p.2.elim fun v q=>by rw [q.1];exact h v s2 (Ai (qZ q.2) (fun U U z=>z.2 (Ah p.1 z.1)) fun U U x=>x)) fun U U x=>x.elim
theorem sA.keeps {i:Nat} {w:List Addr} {s':Shared} {H':zA} (it:sA ρ l P wr kp I xs tg St) (hkp:∀ b∈kp,P b∧¬ Own env b∧b ∉ w) (hw:∀ b∈w,P b) (g:G ρ P H s) (F:zG ρ env P H s.heap m) (f:tO ρ env w P s H s' H') (st:St i s.heap H):St i s'.heap H':=
 it.frame _ _ _ _ _ st (fun b q=>(g.pin b (hkp b q).1).1) fun a o e n q=>f.keep a o e n (fun oa=>q.elim (fun q=>q (F.ownP oa).1) fun q=>(hkp a q).2.1 oa) fun z=>q.elim (fun q=>q (hw a z)) fun q=>(hkp a q).2.2 z
end
inductive FJ (ρ:Bs) (env:Env) (P:Addr→Prop) (wr:List Addr) (s0:Shared) (H0:zA) (St:Nat→Heap→zA→Prop) (Inv:Nat→zA→zN→Prop) (n k:Nat) (s:Shared):Prop
 | mk:∀ i H m,k + i = n→Inv i H m→St i s.heap H→G ρ P H s→zG ρ env P H s.heap m→tO ρ env wr P s0 H0 s H→FJ ρ env P wr s0 H0 St Inv n k s
inductive FEd (ρ:Bs) (env:Env) (P:Addr→Prop) (wr:List Addr) (s0:Shared) (H0:zA) (Q:AF→zA→zN→Prop) (f:Flow) (s:Shared):Prop
 | mk:∀ H m af,tO ρ env wr P s0 H0 s H→vG ρ s.heap H P→zG ρ env P H s.heap m→ConF ρ s.heap (Dm H P) af f→Q af H m→FEd ρ env P wr s0 H0 Q f s
theorem forC {P:Addr→Prop} {wr kp:List Addr} {I:Addr} {xs:List AV} {tg:Expr} {St:Nat→Heap→zA→Prop} {body:List Stmt} {s:Shared} {A:Around} (it:sA ρ l P wr kp I xs tg St)
  (hw:∀ b∈wr,P b∧¬ rP env b) (hkp:∀ b∈kp,P b∧¬ Own env b) (hA:sW l A) (Inv:Nat→zA→zN→Prop) (Q:AF→zA→zN→Prop)
  (turn:∀ i x H m,xs[i]? = some x→Inv i H m→AS ρ l env tg x H m (kH l env body (LQ Inv i Q)))
  (done:∀ H m,Inv xs.length H m→Q .nxt H m)
  (g:G ρ P H s) (F:zG ρ env P H s.heap m) (st:St 0 s.heap H) (i0:Inv 0 H m) :
  codeAny ρ.M A (.forLoop tg (.ref I) body [] env) (fun r s'=>match r with
   | .ok f=>FEd ρ env P wr s H Q f s'
   | .error _=>False) s:=by
 refine codeAny_forLoop_any (FJ ρ env P wr s H St Inv xs.length) ?_ xs.length ⟨0,H,m,(wM 81923474738 rfl),i0,st,g,F,.refl⟩
 intro k s1 hJ
 refine sealG ?_
 intro Gs
 obtain ⟨i,H1,m1,hk,hi,st1,g1,F1,f1⟩:=hJ
 cases hx:xs[i]? with
 | none=>
  cases show i = xs.length from ω8 hk (List.getElem?_eq_none_iff.mp hx)
  exact it.stop hw hA g1 F1 st1 fun s' n=>wpAny_execs_nil ⟨H1,m1,.nxt,f1.trans n.W,n.r,n.F,rfl,done H1 m1 hi⟩
 | some x=>
  have hlt:i < xs.length:=(Bc.mp hx).1
  refine it.next hw hA g1 F1 st1 hx ?_
  intro v s2 hv
  refine Ai hv (fun U s3 p=>?_) fun U U x=>x.elim
  refine sealG ?_
  intro Gs
  obtain ⟨g3,n,st3,cx⟩:=p
  refine Ai ((turn i x H1 m1 hx hi).out P s3 v g3 n.F cx A hA) (fun U s4 p=>?_) fun U U x=>x.elim
  refine sealG ?_
  intro Gs
  obtain ⟨H4,m4,f4,F4,q4⟩:=p
  have g4:=g3.finS n.F f4 F4
  refine Ai (q4.out P s4 g4 F4 A hA) (fun f s5 p=>?_) fun U U x=>x.elim
  obtain ⟨H5,m5,f5,F5,af,cf,q5⟩:=p
  have f45:=(f4.trans f5).toW (wr:=wr)
  have W5:=f1.trans (n.W.trans f45)
  have g5:=g4.finS F4 f5 F5
  have next:∀ {k},k + (i + 1) = xs.length→Inv (i + 1) H5 m5→FJ ρ env P wr s H St Inv xs.length k s5:=fun e q=>⟨i + 1,H5,m5,e,q,it.keeps (fun b q=>⟨(hkp b q).1,(hkp b q).2,Dk⟩) (fun U z=>absurd z Dk) g3 n.F ((f4.trans f5).toW (wr:=[])) st3,g5,F5,W5⟩
  cases af with
  | nxt=>subst cf;exact ⟨k - 1,ω9 hk hlt,next (ω10 hk hlt) q5⟩
  | cnt=>subst cf;exact ⟨k - 1,ω9 hk hlt,next (ω10 hk hlt) q5⟩
  | brk=>subst cf;exact ⟨H5,m5,.nxt,W5,g5.rep,F5,rfl,q5⟩
  | ret u=>exact cf.elim fun u' p=>by cases p.1;exact ⟨H5,m5,.ret u,W5,g5.rep,F5,⟨u',rfl,p.2⟩,q5⟩
structure yM (ρ:Bs) (v:AV) (xs:List AV) (tg:Expr):Prop where
 mk ::
 out:∀ l P H s cv A (Q':Value→Shared→Prop),sW l A→G ρ P H s→xM ρ s.heap (Dm H P) v cv →
  (∀ I wr h1,(∀ P':Addr→Prop,(∀ a,P a∨a∈wr→P' a)→(∀ a,P' a→P a∨s.heap.get? a = none)→∃ St,sA ρ l P' wr wr I xs tg St∧∀ h2,(∀ b o,h1.get? b = some o→h2.get? b = some o)→St 0 h2 H) →
   (∀ b o,s.heap.get? b = some o→h1.get? b = some o)→(∀ b∈wr,s.heap.get? b = none∧∃ o,h1.get? b = some o)→Q' (.ref I) { s with heap:=h1 }) →
  wpAny ρ.M A (pyIter cv) Q' (fun U U=>False) s
structure sQ (ρ:Bs) (a:Addr) (o:AO) (xs:List AV) (tg:Expr):Prop where
 mk ::
 out:∀ l P H s A (Q':Value→Shared→Prop),sW l A→G ρ P H s→H a = some o →
  (∀ I wr h1,(∀ P':Addr→Prop,(∀ b,P b∨b = a∨b∈wr→P' b)→(∀ b,P' b→P b∨b = a∨s.heap.get? b = none)→∃ St,sA ρ l P' wr (a :: wr) I xs tg St∧∀ h2,(∀ b o,h1.get? b = some o→h2.get? b = some o)→St 0 h2 (del H a))→a ∉ wr →
   (∀ b o,s.heap.get? b = some o→h1.get? b = some o)→(∀ b∈wr,s.heap.get? b = none∧∃ o,h1.get? b = some o)→Q' (.ref I) { s with heap:=h1 }) →
  wpAny ρ.M A (pyIter (.ref a)) Q' (fun U U=>False) s
theorem G.more {P P':Addr→Prop} {wr:List Addr} {s:Shared} {h1:Heap} (g:G ρ P H s) (hP:∀ a,P' a↔P a∨a∈wr) (hk:∀ b o,s.heap.get? b = some o→h1.get? b = some o) (hw:∀ b∈wr,s.heap.get? b = none∧∃ o,h1.get? b = some o) :
  G ρ P' H { s with heap:=h1 }:=by
 have st:zX (Dm H P) s.heap (Dm H P') h1:=fun a o e n=>⟨hk a o e,fun q=>q.elim (fun q=>n (.inl q)) fun q=>by
  rcases (hP a).mp q with q | q
  ·exact n (.inr q)
  ·rw [(hw a q).1] at e;cases e⟩
 refine ⟨fun b o e=>?_,fun b o e=>(g.rep b o e).at st (hk b) fun U d hd=>⟨hd,hk d⟩,fun a p=>?_,g.tk⟩
 ·obtain ⟨x,n,p⟩:=g.base b o e
  exact ⟨hk b o x,n,fun q=>by
   rcases (hP b).mp q with q | q
   ·exact p q
   ·rw [(hw b q).1] at x;cases x⟩
 ·rcases (hP a).mp p with q | q
  ·obtain ⟨n,o,e⟩:=g.pin a q;exact ⟨n,o,hk a o e⟩
  ·exact ⟨g.rep.new (hw a q).1,(hw a q).2⟩
theorem ConF.mono {D D':Addr→Prop} {h h':Heap} (st:zX D h D' h') {f:Flow}:∀ {af:AF},ConF ρ h D af f→ConF ρ h' D' af f
 | .nxt,c=>c
 | .brk,c=>c
 | .cnt,c=>c
 | .ret _,c=>c.elim fun u p=>⟨u,p.1,p.2.mono st⟩
variable {Q:AF→zA→zN→Prop}
theorem forCore {tg:Expr} {body:List Stmt} {P:Addr→Prop} {s s1:Shared} {H1:zA} {A:Around} {I:Addr} {wr kp:List Addr} {h1:Heap} {xs:List AV} (Inv:Nat→zA→zN→Prop)
  (hA:sW l A) (g:G ρ P H s) (F:zG ρ env P H s.heap m) (f1:Fin ρ P s H s1 H1)
  (hI:∀ P':Addr→Prop,(∀ a,P a∨a∈wr→P' a)→(∀ a,P' a→P a∨s1.heap.get? a = none)→∃ St,sA ρ l P' wr kp I xs tg St∧∀ h2,(∀ b o,h1.get? b = some o→h2.get? b = some o)→St 0 h2 H1) (hkp:∀ b∈kp,b∈wr∨P b∧¬ Own env b) (hk:∀ b o,s1.heap.get? b = some o→h1.get? b = some o) (hw:∀ b∈wr,s1.heap.get? b = none∧∃ o,h1.get? b = some o)
  (i0:Inv 0 H1 m)
  (turn:∀ i x H m,xs[i]? = some x→Inv i H m→AS ρ l env tg x H m (kH l env body (LQ Inv i Q)))
  (done:∀ H m,Inv xs.length H m→Q .nxt H m) :
  codeAny ρ.M A (.forLoop tg (.ref I) body [] env) (fun r s'=>match r with
   | .ok f=>FRS ρ env P s H (PostF ρ P Q) f s'
   | .error _=>False) { s1 with heap:=h1 }:=by
 have g1:=g.fin f1
 have F1:=F.ext f1.ext
 let P':Addr→Prop:=fun a=>P a∨a∈wr
 refine sealG ?_
 intro Gs
 obtain ⟨St,it,st0⟩:=hI P' (fun U x=>x) fun a q=>q.elim .inl fun q=>.inr (hw a q).1
 have st0:=st0 h1 fun U U x=>x
 have g2:=g1.more (P':=P') (fun U=>Iff.rfl) hk hw
 have no:∀ a,rP env a→a ∉ wr:=fun a oa q=>by obtain ⟨U,U,o,e⟩:=F1.useP oa;rw [(hw a q).1] at e;cases e
 have F2:zG ρ env P' H1 h1 m:=F1.move (fun a o e n=>⟨hk a o e,fun q=>q.elim (fun q=>n (.inl q)) fun q=>q.elim (fun q=>n (.inr q)) fun q=>by rw [(hw a q).1] at e;cases e⟩) fun a oa o e=>⟨hk a o e,(F1.useP oa).2.1,.inl (F1.useP oa).1⟩
 refine Bd (forC it (fun b q=>⟨.inr q,fun oa=>no b oa q⟩) (fun b q=>(hkp b q).elim (fun q=>⟨.inr q,fun oa=>no b oa.use q⟩) fun p=>⟨.inl p.1,p.2⟩) hA Inv Q turn done g2 F2 st0 i0) fun r s' hr=>?_
 cases r with
 | error e=>exact hr.elim
 | ok f=>
  refine sealG ?_
  intro Gs
  obtain ⟨H',m',af,W,rep,F',cf,q⟩:=hr
  have st':zX (Dm H' P') s'.heap (Dm H' P) s'.heap:=fun a o e n=>⟨e,fun q=>n (q.elim .inl fun q=>.inr (.inl q))⟩
  refine ⟨H',m',⟨fun a o e n no'=>?_,fun b o e=>(rep b o e).at st' (fun U x=>x) fun U d hd=>⟨hd,fun U x=>x⟩,W.gens.trans f1.gens,W.os.trans f1.os,Ah f1.tk W.tk⟩,F'.move st' fun a oa o e=>⟨e,(F'.useP oa).2.1,(F.useP oa).1⟩,af,cf.mono st',q⟩
  have z:=f1.ext a o e n
  exact W.keep a o (hk a o z.1) z.2 no' fun q=>by rw [(hw a q).1] at z;cases z.1
inductive FP (ρ:Bs) (l:Nat) (env:Env) (tg:Expr) (body:List Stmt) (m:zN) (Inv:Nat→zA→zN→Prop) (Q:AF→zA→zN→Prop) (v:AV) (H1:zA):Prop
 | mk:∀ xs,yM ρ v xs tg→Inv 0 H1 m→(∀ i x H m,xs[i]? = some x→Inv i H m→AS ρ l env tg x H m (kH l env body (LQ Inv i Q)))→(∀ H m,Inv xs.length H m→Q .nxt H m)→FP ρ l env tg body m Inv Q v H1
theorem yB {tg iter:Expr} {body:List Stmt} {pos:Pos} (Inv:Nat→zA→zN→Prop)
  (h:EX ρ l env iter H m (FP ρ l env tg body m Inv Q))
  (hf:∀ (x:Value),foldedSetIterable iter env x = pure x:=by intro U;rfl):S1 ρ l env (.For tg iter body [] pos) H m Q:=.mk fun P s g F A hA=>by
 refine wpAny_For ((h.out P s g F).run hA fun v s1 H1 f1 hq=>?_) hf
 obtain ⟨av,c1,xs,hit,i0,turn,done⟩:=hq
 refine hit.out l P H1 s1 v A _ hA (g.fin f1) c1 fun I wr h1 hI hk hw=>?_
 exact Bd (forCore Inv hA g F f1 hI (fun U=>.inl) hk hw i0 turn done) fun r s' hr=>by
  cases r with
  | error e=>exact hr.elim
  | ok f=>exact hr
theorem xB {H:zA} {a:Addr}:del H a a = none:=by simp [del]
theorem zR {H:zA} {a b:Addr} (h:b ≠ a):del H a b = H b:=by simp [del,h]
theorem zA.ne {a b:Addr} {o:AO} (x:H a = some o) (y:H b = none):b ≠ a:=fun q=>by rw [q,x] at y;cases y
theorem Dm.lend {P:Addr→Prop} {a:Addr} {o:AO} (ho:H a = some o) (b:Addr) (q:Dm (del H a) (fun b=>P b∨b = a) b):Dm H P b:=by
 by_cases hb:b = a
 ·subst hb;exact .inl fun e=>zA.ne ho e rfl
 ·exact q.elim (fun q=>.inl fun e=>q ((zR hb).trans e)) fun q=>.inr (q.resolve_right hb)
theorem G.noP {P:Addr→Prop} {s:Shared} {a:Addr} {o:AO} (g:G ρ P H s) (ho:H a = some o):¬ P a:=fun q=>zA.ne ho (g.pin a q).1 rfl
theorem G.lend {P:Addr→Prop} {s:Shared} {a:Addr} {o:AO} (g:G ρ P H s) (ho:H a = some o) (hat:∀ x,o ≠ .attrs x):G ρ (fun b=>P b∨b = a) (del H a) s:=by
 refine ⟨fun b ob e=>?_,fun b ob e=>?_,fun b p=>?_,g.tk⟩
 ·have z:=g.base b ob e
  have hb:b ≠ a:=zA.ne ho z.2.1
  exact ⟨z.1,(zR hb).trans z.2.1,fun q=>q.elim z.2.2 hb⟩
 ·have hb:b ≠ a:=fun q=>zA.ne (q ▸ e) xB rfl
  refine (g.rep b ob ((zR hb).symm.trans e)).at (fun c o e n=>⟨e,fun q=>n (Dm.lend ho c q)⟩) (fun U x=>x) fun U d hd=>⟨(zR fun q=>?_).trans hd,fun U x=>x⟩
  subst q;exact hat b (Option.some.inj (ho.symm.trans hd))
 ·by_cases hb:b = a
  ·subst hb;exact ⟨xB,g.rep.there ho⟩
  ·have z:=g.pin b (p.resolve_right hb)
   exact ⟨(zR hb).trans z.1,z.2⟩
theorem zG.lend {P:Addr→Prop} {h:Heap} {a:Addr} {o:AO} (F:zG ρ env P H h m) (ho:H a = some o) (nP:¬ P a):zG ρ env (fun b=>P b∨b = a) (del H a) h m:=
 F.move (fun c U e n=>⟨e,fun q=>n (Dm.lend ho c q)⟩) fun b ub U e=>⟨e,(zR fun (q:b = a)=>nP (q ▸ (F.useP ub).1)).trans (F.useP ub).2.1,.inl (F.useP ub).1⟩
theorem Dm.back {R R':Addr→Prop} {a:Addr} {o:AO} (h:∀ b,R b→R' b) (ha:R' a) (b:Addr) (q:Dm (upd H a o) R b):Dm H R' b:=by
 by_cases hb:b = a
 ·subst hb;exact .inr ha
 ·exact q.elim (fun q=>.inl fun e=>q ((zB hb).trans e)) fun q=>.inr (h b q)
theorem vG.back {P R R':Addr→Prop} {h h':Heap} {H':zA} {a:Addr} {o:AO} (r:vG ρ h H P) (ho:H a = some o) (hin:∀ C dx fs,o ≠ .inst C dx fs) (r':vG ρ h' H' R') (hR:∀ b,R b→R' b) (ha:R' a) (n:H' a = none)
  (st:zX (Dm H P) h (Dm (upd H' a o) R) h') (ka:∀ ob,h.get? a = some ob→h'.get? a = some ob):vG ρ h' (upd H' a o) R:=fun b ob e=>by
 by_cases hb:b = a
 ·subst hb
  cases Option.some.inj (zC.symm.trans e)
  exact (r b o ho).at st ka fun p1=>p1.elim fun C p2=>p2.elim fun dx p3=>p3.elim fun fs q=>absurd q (hin C dx fs)
 ·refine (r' b ob ((zB hb).symm.trans e)).at (fun c U e n=>⟨e,fun q=>n (Dm.back hR ha c q)⟩) (fun U x=>x) fun U d hd=>⟨(zB fun q=>?_).trans hd,fun U x=>x⟩
  subst q;exact zA.ne hd n rfl
theorem zG.back {R R':Addr→Prop} {h:Heap} {a:Addr} {o:AO} (F:zG ρ env R' H h m) (hR:∀ b,R b→R' b) (ha:R' a) (no:¬ rP env a) (hu:∀ b,rP env b→R b):zG ρ env R (upd H a o) h m:=
 F.move (fun c U e n=>⟨e,fun q=>n (Dm.back hR ha c q)⟩) fun b ub U e=>⟨e,(zB fun (q:b = a)=>no (q ▸ ub)).trans (F.useP ub).2.1,hu b ub⟩
inductive FPL (ρ:Bs) (l:Nat) (env:Env) (tg:Expr) (body:List Stmt) (m:zN) (Inv:Nat→zA→zN→Prop) (Q:AF→zA→zN→Prop) (v:AV) (H1:zA):Prop
 | mk:∀ a o xs,v = .ref a→H1 a = some o→(∀ x,o ≠ .attrs x)→(∀ C dx fs,o ≠ .inst C dx fs)→sQ ρ a o xs tg→Inv 0 (del H1 a) m→(∀ i x H m,xs[i]? = some x→Inv i H m→AS ρ l env tg x H m (kH l env body (LQ Inv i (kBk a o Q))))→(∀ H m,Inv xs.length H m→Q .nxt (upd H a o) m)→FPL ρ l env tg body m Inv Q v H1
theorem S1.forL {tg iter:Expr} {body:List Stmt} {pos:Pos} (Inv:Nat→zA→zN→Prop)
  (h:EX ρ l env iter H m (FPL ρ l env tg body m Inv Q))
  (hf:∀ (x:Value),foldedSetIterable iter env x = pure x:=by intro U;rfl):S1 ρ l env (.For tg iter body [] pos) H m Q:=.mk fun P s g F A hA=>by
 refine wpAny_For ((h.out P s g F).run hA fun v s1 H1 f1 hq=>?_) hf
 refine sealG ?_
 intro Gs
 obtain ⟨av,c1,a,o,xs,e0,ho,hat,hin,hit,i0,turn,done⟩:=hq
 subst e0;cases c1
 have g1:=g.fin f1
 have F1:=F.ext f1.ext
 have nPa:=g1.noP ho
 have noa:¬ rP env a:=fun q=>nPa (F1.useP q).1
 have gd:=g1.lend ho hat
 refine hit.out l P H1 s1 A _ hA g1 ho fun I wr h1 hI haw hk hw=>?_
 refine Bd (forCore (kp:=a :: wr) Inv hA gd (F1.lend ho nPa) (Fin.refl gd.rep) (fun P' x y=>hI P' (fun b q=>x b (q.elim (fun q=>.inl (.inl q)) fun q=>q.elim (fun q=>.inl (.inr q)) .inr)) fun b q=>(y b q).elim (fun q=>q.elim .inl fun q=>.inr (.inl q)) fun q=>.inr (.inr q))
  (fun b q=>(Be.mp q).elim (fun q=>.inr ⟨.inr q,q ▸ fun o=>noa o.use⟩) .inl) hk hw i0 turn done) fun r s' hr=>?_
 cases r with
 | error e=>exact hr.elim
 | ok f=>
  refine sealG ?_
  intro Gs
  obtain ⟨H',m',W,F',af,cf,q⟩:=hr
  have kp:∀ b ob,s1.heap.get? b = some ob→H1 b = none→¬ Own env b→s'.heap.get? b = some ob∧upd H' a o b = none:=fun b ob e n no=>by
   have hb:b ≠ a:=zA.ne ho n
   have z:=W.keep b ob e ((zR hb).trans n) no
   exact ⟨z.1,(zB hb).trans z.2⟩
  refine ⟨upd H' a o,m',⟨fun b ob e n no=>let z:=f1.ext b ob e n;kp b ob z.1 z.2 no,?_,W.gens.trans f1.gens,W.os.trans f1.os,Ah f1.tk W.tk⟩,F'.back (fun U=>.inl) (.inr rfl) noa fun b ub=>(F1.useP ub).1,af,cf.mono fun b ob e n=>⟨e,fun q=>n (Dm.back (fun U=>.inl) (.inr rfl) b q)⟩,q⟩
  obtain ⟨oa,hoa⟩:=g1.rep.there ho
  refine g1.rep.back ho hin W.rep (fun U=>.inl) (.inr rfl) (W.keep a oa hoa xB fun o=>noa o.use).2 (fun b ob e n=>?_) fun ob e=>(W.keep a ob e xB fun o=>noa o.use).1
  have z:=kp b ob e (Ae fun q=>n (.inl q)) fun q=>n (.inr (F1.ownP q).1)
  exact ⟨z.1,fun q=>q.elim (fun q=>q z.2) fun q=>n (.inr q)⟩
inductive WJ (ρ:Bs) (env:Env) (P:Addr→Prop) (s0:Shared) (H0:zA) (Inv:Nat→zA→zN→Prop) (n:Nat) (s:Shared):Prop
 | mk:∀ H m,Inv n H m→G ρ P H s→zG ρ env P H s.heap m→sB ρ env P s0 H0 s H→WJ ρ env P s0 H0 Inv n s
theorem uE {test:Expr} {body:List Stmt} {pos:Pos} (Inv:Nat→zA→zN→Prop) (n0:Nat) (i0:Inv n0 H m)
  (turn:∀ n H m,Inv n H m→TR ρ l env test H m (kWh l env body Inv n m Q)) :
  S1 ρ l env (.While test body [] pos) H m Q:=.mk fun P s g F A hA=>by
 refine wpAny_While (codeAny_whileLoop (WJ ρ env P s H Inv) ?_ n0 ⟨H,m,i0,g,F,(Fin.refl g.rep).toS⟩)
 intro n s1 hJ
 refine sealG ?_
 intro Gs
 obtain ⟨H1,m1,hi,g1,F1,f1⟩:=hJ
 refine Ai ((turn n H1 m1 hi).out P s1 g1 F1 A hA) (fun b s2 p=>?_) fun U U x=>x.elim
 refine sealG ?_
 intro Gs
 obtain ⟨H2,f2,q2⟩:=p
 have f12:=f1.trans f2.toS
 have F2:=F1.ext f2.ext
 cases b with
 | false=>exact wpAny_execs_nil ⟨H2,m1,f12,F2,.nxt,rfl,q2⟩
 | true=>
  have g2:=g1.fin f2
  refine Ai (ST.out q2 P s2 g2 F2 A hA) (fun f s3 p=>?_) fun U U x=>x.elim
  obtain ⟨H3,m3,f3,F3,af,cf,q3⟩:=p
  have next:∀ {k},Inv k H3 m3→WJ ρ env P s H Inv k s3:=fun q=>⟨H3,m3,q,g2.finS F2 f3 F3,F3,f12.trans f3⟩
  cases af with
  | nxt=>subst cf;exact q3.elim fun k p=>⟨k,p.1,next p.2⟩
  | cnt=>subst cf;exact q3.elim fun k p=>⟨k,p.1,next p.2⟩
  | brk=>subst cf;exact ⟨H3,m3,f12.trans f3,F3,.nxt,rfl,q3⟩
  | ret u=>exact cf.elim fun u' p=>by cases p.1;exact ⟨H3,m3,f12.trans f3,F3,.ret u,⟨u',rfl,p.2⟩,q3⟩
theorem zU.get {h:Heap} {D:Addr→Prop} {xs:List AV} {vs:List Value} (c:zU ρ h D xs vs) {i:Nat} {x:AV} (hx:xs[i]? = some x):∃ v,vs[i]? = some v∧xM ρ h D x v:=by
 induction xs generalizing vs i with
 | nil=>cases hx
 | cons y ys ih=>
  obtain ⟨v,vs',e,c,r⟩:=c
  subst e
  cases i with
  | zero=>cases hx;exact ⟨v,rfl,c⟩
  | succ i=>exact ih r hx
noncomputable def noTup (n:String):Prop:=["enumerate","zip","dict_itemiterator","dict_reverseitemiterator","odict_iterator","itertools.zip_longest","itertools.pairwise"].contains n = false
theorem letOwned_tup {M:Model} {A:Around} {E:Value→Shared→Prop} {s:Shared} {es:List Expr} {x1:Nat} {tp:Pos} {I:Addr} {v:Value} {o:Obj} {Q':Unit→Shared→Prop} {n:String} {fs:Array Value} (ho:s.heap.get? I = some o)
  (hc:o.cls = .type n) (hd:o.data = .fields fs) (hn:noTup n) (h:Q' () s):wpAny M A (letOwnedTupleGo (.Tuple es x1 tp) (.ref I) v) Q' E s:=by
 cases v with
 | ref a=>
  refine Ak (wpAny_load ho ?_)
  rw [hc,hd]
  show wpAny M A (if (_ && _) = true then _ else pure ()) Q' E s
  rw [hn]
  exact Aj h
 | _=>exact Aj h
theorem letOwned_or {i v:Value} (tg:Expr):letOwnedTupleGo tg i v = pure ()∨letOwnedTupleGo tg i v = letOwnedTupleGo (.Tuple [] 0 default) i v:=by
 cases tg with
 | Tuple=>exact .inr rfl
 | List=>exact .inr rfl
 | _=>exact .inl rfl
theorem uW {M:Model} {A:Around} {E:Value→Shared→Prop} {s:Shared} {tg:Expr} {I:Addr} {v:Value} {o:Obj} {Q':Unit→Shared→Prop} {n:String} {fs:Array Value} (ho:s.heap.get? I = some o)
  (hc:o.cls = .type n) (hd:o.data = .fields fs) (hn:noTup n) (h:Q' () s):wpAny M A (letOwnedTupleGo tg (.ref I) v) Q' E s:=
 (letOwned_or tg).elim (fun e=>e ▸ Aj h) fun e=>e ▸ letOwned_tup ho hc hd hn h
theorem wX {h:Heap} {a b:Addr} {o:Obj} (x:h.get? a = some o) (y:h.get? b = none):a ≠ b:=fun q=>by rw [q,y] at x;cases x
theorem xK {h:Heap} {o:Obj}:∀ b ob,h.get? b = some ob→(h.push o).get? b = some ob:=fun b ob e=>As _ e
theorem sF {P:Addr→Prop} {s:Shared} (g:G ρ P H s) {o:Obj} (hf:autoParam (o.isFreed = false) rt):∀ b∈[s.heap.objs.size],s.heap.get? b = Option.none∧∃ ob,(s.heap.push o).get? b = some ob:=fun b hb=>by
 rw [Bf.mp hb];exact ⟨(zW g).1,o,Au _ hf⟩
theorem zX.but {D:Addr→Prop} {h h':Heap} {I:Addr} (hI:D I) (hs:Heap.SameBut I h h'):zX D h D h':=fun a o e n=>⟨(hs.2 a fun q=>n (q ▸ hI)).trans e,n⟩
theorem frame_stays {P:Addr→Prop} {wr:List Addr} {h h':Heap} {H H':zA} (hk:∀ a o,h.get? a = some o→H a = Option.none→(¬ P a∨a∈wr)→h'.get? a = some o∧H' a = Option.none):zX (Dm H P) h (Dm H' P) h':=fun b o e n=>by
 have n1:H b = Option.none:=Ae fun q=>n (.inl q)
 have:=hk b o e n1 (.inl fun q=>n (.inr q))
 exact ⟨this.1,fun q=>q.elim (fun q=>q this.2) fun q=>n (.inr q)⟩
structure SL (ρ:Bs) (P:Addr→Prop) (I a:Addr) (xs:List AV) (vs:List Value) (n:Nat) (i:Nat) (h:Heap) (H:zA):Prop where
 it:h.IsListIter I a i
 o:h.get? a = some (tV vs n)
 n:H a = none
 c:zU ρ h (Dm H P) xs vs
theorem SL.iter {P:Addr→Prop} {I a:Addr} {xs:List AV} {vs:List Value} {n:Nat} {kp:List Addr} {tg:Expr} (pI:P I) (hI:I∈kp) (ha:¬ P a∨a∈kp) (ne:a ≠ I):sA ρ l P [I] kp I xs tg (SL ρ P I a xs vs n):=by
 refine ⟨fun i h H h' H' st hw hk=>?_,fun i x A s H hx hA g st Q' k=>?_,fun A s H hA g st Q' k=>?_,fun i A s H Q' E st q=>wpAny_pyIter_listiter st.it q⟩
 ·have z:=hk a _ st.o st.n ha
  exact ⟨st.it.elim fun oi p=>⟨oi,(hk I oi p.1 (hw I hI) (.inr hI)).1,p.2⟩,z.1,z.2,st.c.mono (frame_stays hk)⟩
 ·refine (st.c.get hx).elim fun v p=>?_
  refine wpAny_pyNext_list_item st.it ⟨_,st.o,rfl,n,rfl⟩ ((List.getElem?_toArray ..).trans p.1) fun h' hit hs=>⟨v,rfl,hit.elim fun oi q=>?_⟩
  have sy:=zX.but (D:=Dm H P) (.inr pI) hs
  exact uW q.1 q.2.1 q.2.2 (by rfl) (k v h' s.toks ⟨hit,(hs.2 a ne).trans st.o,st.n,st.c.mono sy⟩ (p.2.mono sy) (fun b o hb e=>(hs.2 b fun q=>hb (q ▸ .head _)).trans e) fun b hb=>Bf.mp hb ▸ ⟨oi,q.1⟩)
 ·exact wpAny_pyNext_list_end hA.1 st.it ⟨_,st.o,rfl,n,rfl⟩ ((List.getElem?_toArray ..).trans (List.getElem?_eq_none (Nat.le_of_eq st.c.length))) fun h' hs=>k h' s.toks fun b o hb e=>hs b o (fun q=>hb (q ▸ .head _)) e
theorem fz_not {P P':Addr→Prop} {h:Heap} {a:Addr} {o:Obj} (ho:h.get? a = some o) (na:¬ Dm H P a) (hP:∀ a,P' a→P a∨h.get? a = none):¬ P' a:=fun q=>(hP a q).elim (fun q=>na (.inr q)) fun e=>nomatch ho.symm.trans e
theorem fz_none {P:Addr→Prop} {a:Addr} (na:¬ Dm H P a):H a = none:=Ae fun q=>na (.inl q)
theorem fz_stays {P P':Addr→Prop} {h h':Heap} (hk:∀ b o,h.get? b = some o→h'.get? b = some o) (hP:∀ a,P' a→P a∨h.get? a = none):zX (Dm H P) h (Dm H P') h':=fun b o e n=>⟨hk b o e,fun q=>q.elim (fun q=>n (.inl q)) (fz_not e n hP)⟩
theorem yM.lst {xs:List AV} {tg:Expr}:yM ρ (.lst xs) xs tg:=.mk fun l P H s cv A Q' hA g c k=>by
 refine sealG ?_
 intro Gs
 obtain ⟨a,vs,n,rfl,na,ho,cl⟩:=c
 have ne:=Bb (Aq ho)
 exact wpAny_pyIter_list ⟨_,ho,rfl,n,rfl⟩ (k _ [s.heap.objs.size] _ (fun P' hP1 hP2=>⟨_,SL.iter (vs:=vs) (n:=n) (hP1 _ (.inr (.head _))) (.head _) (.inl (fz_not ho na hP2)) ne,fun h2 hk2=>⟨⟨_,hk2 _ _ (Au _ rfl),rfl,rfl⟩,hk2 _ _ (xK _ _ ho),fz_none na,cl.mono (fz_stays (fun b o e=>hk2 b o (xK b o e)) hP2)⟩⟩) xK (sF g))
theorem sQ.list {a:Addr} {xs:List AV} {tg:Expr}:sQ ρ a (.list xs) xs tg:=.mk fun l P H s A Q' hA g hHa k=>by
 refine sealG ?_
 intro Gs
 obtain ⟨vs,n,ho,cl⟩:=g.rep a _ hHa
 have ne:=Bb (Aq ho)
 refine wpAny_pyIter_list ⟨_,ho,rfl,n,rfl⟩ (k _ [s.heap.objs.size] _ (fun P' hP1 hP2=>⟨_,SL.iter (vs:=vs) (n:=n) (hP1 _ (.inr (.inr (.head _)))) (.tail _ (.head _)) (.inr (.head _)) ne,fun h2 hk2=>⟨⟨_,hk2 _ _ (Au _ rfl),rfl,rfl⟩,hk2 _ _ (xK _ _ ho),xB,cl.mono fun b o e n=>⟨hk2 _ _ (xK _ _ e),fun q=>n ?_⟩⟩⟩) (fun q=>ne (Bf.mp q)) xK (sF g))
 by_cases hb:b = a
 ·subst hb;exact .inl fun e=>zA.ne hHa e rfl
 ·exact q.elim (fun q=>.inl fun e=>q ((zR hb).trans e)) fun q=>(hP2 b q).elim .inr fun q=>q.elim (fun q=>absurd q hb) fun q=>nomatch e.symm.trans q
noncomputable def wC (lo hi:Int):List AV:=(List.range (hi - lo).toNat).map fun (i:Nat)=>.int (lo + (i:Int))
theorem rngL_get {lo hi:Int} {i:Nat} {x:AV} (h:(wC lo hi)[i]? = some x):i < (hi - lo).toNat∧x = .int (lo + (i:Int)):=by
 refine (Bi.mp ((Bg ..).symm.trans h)).elim fun j p=>(Bc.mp p.1).elim fun a b=>?_
 cases (List.getElem_range ..).symm.trans b
 exact ⟨Nat.lt_of_lt_of_eq a Bh,p.2.symm⟩
theorem rngL_size {lo hi:Int}:Builtin.Range.rangeSize lo hi 1 = ((hi - lo).toNat:Int):=by
 refine (Ab (by decide)).trans ?_
 by_cases h:lo < hi
 ·exact (Ab h).trans (((congrArg (· + 1) (Int.ediv_one _)).trans (Int.sub_add_cancel ..)).trans (Int.toNat_of_nonneg (Int.sub_nonneg_of_le (Int.le_of_lt h))).symm)
 ·exact (Aa h).trans (congrArg Nat.cast (Int.toNat_of_nonpos (Int.sub_nonpos_of_le (Int.not_lt.mp h))).symm)
theorem RG.iter {P:Addr→Prop} {I:Addr} {lo hi:Int} {tg:Expr}:sA ρ l P [I] [I] I (wC lo hi) tg (fun i h H=>IsRangeIter h I (lo + (i:Int)) (((hi - lo).toNat:Int) - i) 1):=by
 refine ⟨fun i h H h' H' st hw hk=>(hk _ _ st (hw _ (.head _)) (.inr (.head _))).1,fun i x A s H hx hA g st Q' k=>?_,fun A s H hA g st Q' k=>?_,fun i A s H Q' E st q=>wpAny_pyIter_rangeiter st q⟩
 ·have z:=rngL_get hx
  refine wpAny_pyNext_range_item st (Int.sub_pos_of_lt (Int.ofNat_lt.mpr z.1)) fun h' it hs=>⟨_,rfl,uW it rfl rfl (by rfl) (k _ h' (s.toks + 1) ?_ (z.2 ▸ ⟨_,rfl⟩) (fun b o hb e=>(hs.2 b fun q=>hb (q ▸ .head _)).trans e) fun b hb=>Bf.mp hb ▸ ⟨_,it⟩)⟩
  rw [Int.add_assoc,Int.sub_sub] at it
  exact it
 ·have hl:(wC lo hi).length = (hi - lo).toNat:=(Cp ..).trans Bh
  exact wpAny_pyNext_range_end hA.1 st (Int.sub_nonpos_of_le (Int.ofNat_le.mpr (Nat.le_of_eq hl.symm))) fun h' hs=>k h' s.toks fun b o hb e=>hs b o (fun q=>hb (q ▸ .head _)) e
theorem yM.rng {lo hi:Int} {tg:Expr} (hs:Builtin.Range.small lo hi 1 = true):yM ρ (.rng lo hi) (wC lo hi) tg:=.mk fun l P H s cv A Q' hA g c k=>by
 obtain ⟨a,t,u,t',rfl,na,ho⟩:=c
 refine wpAny_pyIter_range ho hs (k _ [s.heap.objs.size] _ (fun P' U U=>⟨_,RG.iter,fun h2 hk2=>hk2 _ _ ?_⟩) xK (sF g))
 rw [rngL_size,Int.natCast_zero,Int.add_zero,Int.sub_zero]
 exact Au _ rfl
structure SD (a:Addr) (I:Addr) (od:Obj) (k ep:Nat) (i:Nat) (h:Heap) (H:zA):Prop where
 it:h.IsKeyIter I a i k ep
 o:h.get? a = some od
 n:H a = none
theorem SD.iter {P:Addr→Prop} {I a:Addr} {kvs:List (Int×Value)} {ep:Nat} {kp:List Addr} {tg:Expr} {h0:Heap} {od:Obj} (ho:h0.get? a = some od) (hat:∀ h:Heap,h.get? a = some od→h.DictAt ρ.iK a kvs ep) (hI:I∈kp) (ha:¬ P a∨a∈kp) (ne:a ≠ I):sA ρ l P [I] kp I (kvs.map fun p=>.int p.1) tg (SD a I od kvs.length ep):=by
 refine ⟨fun i h H h' H' st hw hk=>?_,fun i x A s H hx hA g st Q' k=>?_,fun A s H hA g st Q' k=>?_,fun i A s H Q' E st q=>wpAny_pyIter_keyiter st.it q⟩
 ·have z:=hk a _ st.o st.n ha
  exact ⟨st.it.elim fun oi p=>⟨oi,(hk I oi p.1 (hw I hI) (.inr hI)).1,p.2⟩,z.1,z.2⟩
 ·refine (Bi.mp ((Bg ..).symm.trans hx)).elim fun kv p=>?_
  refine wpAny_pyNext_dict_item (knd:=ρ.iK) (k:=kv.1) (v:=kv.2) st.it (hat _ st.o) p.1 fun key h' hkey hit hs=>⟨_,rfl,hit.elim fun oi q=>?_⟩
  exact uW q.1 q.2.1 q.2.2 (by rfl) (k key h' s.toks ⟨hit,(hs.2 a ne).trans st.o,st.n⟩ (p.2 ▸ Value.isInt_shape hkey) (fun b o hb e=>(hs.2 b fun q=>hb (q ▸ .head _)).trans e) fun b hb=>Bf.mp hb ▸ ⟨oi,q.1⟩)
 ·exact wpAny_pyNext_dict_end (knd:=ρ.iK) hA.1 st.it (hat _ st.o) (List.getElem?_eq_none (Nat.le_of_eq (Cp ..).symm)) fun h' hs=>k h' s.toks fun b o hb e=>hs b o (fun q=>hb (q ▸ .head _)) e
theorem yM.idct {ks:List Int} {xs:List AV} {tg:Expr}:yM ρ (.idct ks xs) (ks.map .int) tg:=.mk fun l P H s cv A Q' hA g c k=>by
 refine sealG ?_
 intro Gs
 obtain ⟨a,kvs,rfl,na,hsy,⟨od,es,ep,ho,r⟩,hks,cl⟩:=c
 subst hks
 rw [Bj] at k
 have ne:=Bb (Aq ho)
 exact wpAny_pyIter_dict hsy (ep:=ep) ⟨od,es,ho,r⟩ (k _ [s.heap.objs.size] _ (fun P' hP1 hP2=>⟨_,SD.iter ho (fun h e=>⟨od,es,e,r⟩) (.head _) (.inl (fz_not ho na hP2)) ne,fun h2 hk2=>⟨⟨_,hk2 _ _ (Au _ rfl),rfl,rfl⟩,hk2 _ _ (xK _ _ ho),fz_none na⟩⟩) xK (sF g))
theorem sQ.idict {a:Addr} {kvs0:List (Int×AV)} {tg:Expr}:sQ ρ a (.idict kvs0) (kvs0.map fun p=>.int p.1) tg:=.mk fun l P H s A Q' hA g hHa k=>by
 refine sealG ?_
 intro Gs
 obtain ⟨kvs,hsy,⟨od,es,ep,ho,r⟩,hks,cl⟩:=g.rep a _ hHa
 have e:=congrArg (List.map AV.int) hks
 rw [Bj,Bj] at e
 have ne:=Bb (Aq ho)
 refine wpAny_pyIter_dict hsy (ep:=ep) ⟨od,es,ho,r⟩ (k _ [s.heap.objs.size] _ (fun P' hP1 hP2=>⟨SD a _ od kvs.length ep,?_,fun h2 hk2=>⟨⟨_,hk2 _ _ (Au _ rfl),rfl,rfl⟩,hk2 _ _ (xK _ _ ho),xB⟩⟩) (fun q=>ne (Bf.mp q)) xK (sF g))
 exact e ▸ SD.iter ho (fun h e=>⟨od,es,e,r⟩) (.tail _ (.head _)) (.inr (.head _)) ne
theorem oI {M:Model} {h:Heap} {T:String}:Looks M h (keeperOf (.type T)) .machine:=fun A Q E s U q=>Aj q
noncomputable def enuL (xs:List AV):List AV:=xs.zipIdx.map fun p=>.tup [.int (p.2:Int),p.1]
theorem sL {xs:List AV} {i:Nat} {y:AV} (h:(enuL xs)[i]? = some y):∃ x,xs[i]? = some x∧y = .tup [.int (i:Int),x]:=by
 unfold enuL at h
 simp only [Bg,List.getElem?_zipIdx,Option.map_map,Bi] at h
 refine sealG ?_
 intro Gs
 obtain ⟨x,h1,h2⟩:=h
 exact ⟨x,h1,by simpa using h2.symm⟩
inductive FPE (ρ:Bs) (l:Nat) (env:Env) (elts:List Expr) (x1:Nat) (tp:Pos) (body:List Stmt) (m:zN) (Inv:Nat→zA→zN→Prop) (Q:AF→zA→zN→Prop) (v:AV) (H1:zA):Prop
 | mk:∀ xs,v = .lst xs→Inv 0 H1 m→(∀ i y H m,(enuL xs)[i]? = some y→Inv i H m→AS ρ l env (.Tuple elts x1 tp) y H m (kH l env body (LQ Inv i Q)))→(∀ H m,Inv xs.length H m→Q .nxt H m)→FPE ρ l env elts x1 tp body m Inv Q v H1
structure SE (ρ:Bs) (P:Addr→Prop) (E I a:Addr) (xs:List AV) (vs:List Value) (n:Nat) (i:Nat) (h:Heap) (H:zA):Prop where
 en:∃ old,IsEnum h E I (i:Int) old
 l:SL ρ P I a xs vs n i h H
theorem SE.iter {P:Addr→Prop} {E I a:Addr} {xs:List AV} {vs:List Value} {n:Nat} {es:List Expr} {x1:Nat} {tp:Pos} (pE:P E) (pI:P I) (ne:E ≠ I) (np:¬ P a):sA ρ l P [E,I] [E,I] E (enuL xs) (.Tuple es x1 tp) (SE ρ P E I a xs vs n):=by
 refine ⟨fun i h H h' H' st hw hk=>⟨st.en.elim fun old e=>⟨old,(hk E _ e (hw E (.head _)) (.inr (.head _))).1⟩,(SL.iter (tg:=.Tuple es x1 tp) (l:=l) pI (.tail _ (.head _)) (.inl np) fun q=>np (q ▸ pI)).frame i h H h' H' st.l hw hk⟩,fun i y A s H hy hA g st Q' k=>?_,fun A s H hA g st Q' k=>st.en.elim fun old e=>?_,fun i A s H Q' E st q=>st.en.elim fun old e=>wpAny_pyIter_enum e q⟩
 ·refine (sL hy).elim fun x p=>(st.l.c.get p.1).elim fun v p2=>st.en.elim fun old e=>?_
  refine wpAny_pyNext_enum_item e st.l.it ⟨_,st.l.o,rfl,n,rfl⟩ ((List.getElem?_toArray ..).trans p2.1) ne fun h3 e3 it3 tup sz3 k3=>⟨_,rfl,wpAny_letOwnedTupleGo_enum e3 fun h4 e4 s4=>?_⟩
  have kp:∀ b o,b ∉ [E,I]→s.heap.get? b = some o→h4.get? b = some o:=fun b o hb e=>
   have b1:b ≠ E:=fun q=>hb (q ▸ .head _)
   (s4.2 b b1).trans (k3 b o b1 (fun q=>hb (q ▸ .tail _ (.head _))) e)
  have sy:zX (Dm H P) s.heap (Dm H P) h4:=fun b o e n=>⟨kp b o (fun q=>n (.inr ((Be.mp q).elim (fun q=>q ▸ pE) fun q=>Bf.mp q ▸ pI))) e,n⟩
  have np2:a ∉ [E,I]:=fun q=>np ((Be.mp q).elim (fun q=>q ▸ pE) fun q=>Bf.mp q ▸ pI)
  refine it3.elim fun oi q=>k _ h4 (s.toks + 1) ⟨⟨v,e4⟩,⟨oi,(s4.2 _ (Ne.symm ne)).trans q.1,q.2⟩,kp a _ np2 st.l.o,st.l.n,st.l.c.mono sy⟩ (p.2 ▸ ?_) kp fun b hb=>(Be.mp hb).elim (fun z=>z ▸ ⟨_,e4⟩) fun z=>Bf.mp z ▸ ⟨oi,(s4.2 _ (Ne.symm ne)).trans q.1⟩
  exact ⟨_,[.int (i:Int) s.toks,v],0,rfl,rH g,(s4.2 _ (Ne.symm (wX e (zW g).1))).trans tup,_,_,rfl,⟨_,rfl⟩,v,[],rfl,p2.2.mono sy,rfl⟩
 ·have hl:(enuL xs).length = xs.length:=(Cp ..).trans List.length_zipIdx
  exact wpAny_pyNext_enum_end hA.1 e st.l.it ⟨_,st.l.o,rfl,n,rfl⟩ ((List.getElem?_toArray ..).trans (List.getElem?_eq_none (Nat.le_of_eq (st.l.c.length.trans hl.symm)))) fun h' hs=>k h' s.toks fun b o hb e=>hs b o (fun q=>hb (q ▸ .tail _ (.head _))) e
theorem oV (S:SF K ρ.base) {elts:List Expr} {x1:Nat} {tp np cp:Pos} {x:Str} {e:Expr} {body:List Stmt} {pos:Pos} (Inv:Nat→zA→zN→Prop)
  (hg:oX K x (.type "enumerate")) (hk:env.kindOf x = some .globalImplicit) (hd:(x == ("__debug__":Str)) = false) (he:isStarred e = false)
  (h:EX ρ l env e H m (FPE ρ l env elts x1 tp body m Inv Q))
  (hf:∀ (v:Value),foldedSetIterable (.Call (.Name x np) [e] [] cp) env v = pure v:=by intro U;rfl):S1 ρ l env (.For (.Tuple elts x1 tp) (.Call (.Name x np) [e] [] cp) body [] pos) H m Q:=.mk fun P s g F A hA=>by
 refine wpAny_For (wpAny_Call_NameR (((tQ (l:=l) (m:=m) (pos:=np) S (av:=.con (.type "enumerate")) hg hk hd (fun U U U U=>rfl) (Q:=fun v H1=>v = .con (.type "enumerate")∧H1 = H) ⟨rfl,rfl⟩).out P s g F).run hA fun vf s0 H0 f0 hq=>?_)) hf
 obtain ⟨f,cf,e1,e2⟩:=hq
 subst e1;subst e2;cases cf
 have he':([e]:List Expr).all (fun e=>!isStarred e) = true:=by rw [List.all_cons,he];rfl
 refine callWith_of (P:=fun U=>True) (by rw [wD cp [e] he'];rfl) (fun U U=>⟨.machine,.inr (.inl rfl),oI⟩) (tM (wD cp [e] he') ?_)
 refine ((yO.cons (Q:=fun vs H1=>∃ v,vs = [v]∧FPE ρ l env elts x1 tp body m Inv Q v H1) (h.mono fun v H1 q=>yO.nil ⟨v,rfl,q⟩) (star_no he)).out P s0 (g.fin f0) (F.ext f0.ext)).run hA fun vs s1 H1 f1 p=>⟨trivial,?_⟩
 refine sealG ?_
 intro Gs
 obtain ⟨as,c1,v,e1,xs,e2,i0,turn,done⟩:=p
 subst e1;subst e2
 obtain ⟨cv,vs',rfl,⟨a,us,n,rfl,na,ho,cl⟩,rfl⟩:=c1
 have g1:=g.fin (f0.trans f1)
 refine call_enumerate_1 ho fun h' hen hit hsz hk=>wpAny_pyIter_enum hen ?_
 have en:s1.heap.get? (s1.heap.objs.size + 1) = none:=by
  cases q:s1.heap.get? (s1.heap.objs.size + 1) with
  | none=>rfl
  | some o=>exact absurd (Aq q) (Nat.not_lt.mpr (Nat.le_succ _))
 have il:=(zW g1).1
 have ne:s1.heap.objs.size + 1 ≠ s1.heap.objs.size:=Nat.succ_ne_self _
 generalize s1.heap.objs.size + 1 = E at *
 generalize s1.heap.objs.size = I at *
 refine Bd (forCore (xs:=enuL xs) (wr:=[E,I]) Inv hA g F (f0.trans f1) (fun P' hP1 hP2=>⟨_,SE.iter (xs:=xs) (vs:=us) (n:=n) (hP1 _ (.inr (.head _))) (hP1 _ (.inr (.tail _ (.head _)))) ne (fz_not ho na hP2),fun h2 hk2=>⟨⟨_,hk2 _ _ hen⟩,hit.elim fun oi p=>⟨oi,hk2 _ _ p.1,p.2⟩,hk2 _ _ (hk _ _ ho),fz_none na,cl.mono (fz_stays (fun b o e=>hk2 b o (hk b o e)) hP2)⟩⟩) (fun U=>.inl) hk
  (fun b hb=>(Be.mp hb).elim (fun z=>z ▸ ⟨en,_,hen⟩) fun z=>Bf.mp z ▸ ⟨il,hit.elim fun oi p=>⟨oi,p.1⟩⟩) i0 turn (((Cp ..).trans List.length_zipIdx:(enuL xs).length = xs.length) ▸ done)) fun r s' hr=>by
  cases r with
  | error e=>exact hr.elim
  | ok f=>exact hr
end
end
section
inductive FnAt (base:Heap) (a:Addr) (ps:List Str) (body:List Stmt) (sc:Scope):Prop
 | mk:∀ o fd,base.get? a = some o→o.data = .func fd→fd.body = .stmts body→fd.scope = sc→fd.closure = []→fd.globals = mainGlobals→fd.builtins = builtinsNs→base.CodeRec fd.code fd.qualname →
  (∀ vs s,vs.length = ps.length→BindsTo s fd ⟨vs,[]⟩ (ps.zip vs))→FnAt base a ps body sc
noncomputable def CodeIn (base:Heap) (code:Value):Prop:=∃ c o vs,code = .ref c∧base.get? c = some o∧o.data = .fields vs
noncomputable def nJ (ps:List Str) (vs:List AV):zN:=fun x=>(ps.zip vs).lookup x
theorem bindL_not {kindOf:Str→Option NameKind} {x:Str} {bs:List (Str×Value)} (h:x ∉ bs.map (fun p=>p.1)):∀ {m:Str→Option Value},bindL kindOf bs m x = m x:=by
 induction bs with
 | nil=>exact rfl
 | cons p r ih=>
  intro m
  refine (ih fun q=>h (.tail _ q)).trans ?_
  by_cases k:kindOf p.1 = some .local
  ·rw [Ab k];exact Aa fun (q:x = p.1)=>h (q ▸ .head _)
  ·rw [Aa k]
theorem bindC_not {kindOf:Str→Option NameKind} {x:Str} {bs:List (Str×Value)} (h:x ∉ bs.map (fun p=>p.1)):∀ {m:Str→Option Value},bindC kindOf bs m x = m x:=by
 induction bs with
 | nil=>exact rfl
 | cons p r ih=>
  intro m
  refine (ih fun q=>h (.tail _ q)).trans ?_
  by_cases k:kindOf p.1 = some .local
  ·rw [Ab k]
  ·rw [Aa k];exact Aa fun (q:x = p.1)=>h (q ▸ .head _)
theorem bind_get {h:Heap} {D:Addr→Prop} {kindOf:Str→Option NameKind} {x:Str} {av:AV} {ps:List Str}:∀ {vs:List AV} {us:List Value} {m m':Str→Option Value},ps.Nodup→zU ρ h D vs us→(ps.zip vs).lookup x = some av →
  ∃ v,xM ρ h D av v∧(kindOf x = some .local→bindL kindOf (ps.zip us) m x = some v)∧(kindOf x ≠ some .local→bindC kindOf (ps.zip us) m' x = some v):=by
 induction ps with
 | nil=>exact fun U U e=>nomatch e
 | cons p ps ih=>
  intro vs us m m' nd cl e
  cases vs with
  | nil=>exact nomatch e
  | cons v vs=>
   obtain ⟨u,us,hu,c,cl⟩:=cl
   subst hu
   have nd:=Bl.mp nd
   by_cases q:x = p
   ·subst q
    have e:v = av:=Option.some.inj ((show List.lookup x ((x,v) :: ps.zip vs) = some v from by rw [Bk,beq_self_eq_true]).symm.trans e)
    have hn:x ∉ (ps.zip us).map (fun p=>p.1):=fun hm=>nd.1 ((Bm.mp hm).elim fun y p=>p.2 ▸ (List.of_mem_zip p.1).1)
    exact ⟨u,e ▸ c,fun k=>(bindL_not hn).trans ((congrFun (Ab k) x).trans (Ab rfl)),fun k=>(bindC_not hn).trans ((congrFun (Aa k) x).trans (Ab rfl))⟩
   ·rw [List.zip_cons_cons,Bk,beq_eq_false_iff_ne.mpr q] at e
    exact ih nd.2 cl e
theorem wE {β:Type} {z:Str} {c:β} {cs:List (Str×β)} (e:cs.lookup z = some c):(z,c)∈cs:=by
 induction cs with
 | nil=>exact nomatch e
 | cons p cs ih=>
  rw [Bk] at e
  by_cases h:z = p.1
  ·rw [h,beq_self_eq_true] at e
   cases e
   exact h ▸ .head _
  ·rw [beq_eq_false_iff_ne.mpr h] at e
   exact .tail _ (ih e)
section
variable {l:Nat} {H:zA} {Q:AV→zA→Prop}
theorem tN.fn {a:Addr} {ps:List Str} {body:List Stmt} {sc:Scope} (hf:FnAt ρ.base a ps body sc):tN ρ (.ref a):=.mk fun P H s vf g c=>by
 cases c
 refine sealG ?_
 intro Gs
 obtain ⟨o,fd,ho,hd,U⟩:=hf
 refine ⟨.frame,.inl rfl,fun A Q' E s' hk q=>?_⟩
 unfold keeperOf
 refine Ak (wpAny_load (hk _ _ (g.base _ _ ho).1) ?_)
 rw [hd]
 exact Aj q
theorem tN.type {T:String}:tN ρ (.con (.type T)):=.mk fun P H s vf g c=>by cases c;exact ⟨.machine,.inr (.inl rfl),oI⟩
theorem tN.builtin {T:String}:tN ρ (.con (.builtin T)):=.mk fun P H s vf g c=>by cases c;exact ⟨.machine,.inr (.inl rfl),fun A Q E s U q=>Aj q⟩
theorem cells_apart {cs:List (Str×Addr)} (h:List.Pairwise (fun x y=>x.2 ≠ y.2) cs) {x y:Str} {c:Addr} (hx:cs.lookup x = some c) (hy:cs.lookup y = some c):x = y:=by
 induction cs with
 | nil=>exact nomatch hx
 | cons p cs ih=>
  have h:=Bn.mp h
  rw [Bk] at hx hy
  by_cases h1:x = p.1
  ·rw [beq_iff_eq.mpr h1] at hx
   by_cases h2:y = p.1
   ·exact h1.trans h2.symm
   ·rw [beq_eq_false_iff_ne.mpr h2] at hy
    exact absurd (Option.some.inj hx) (h.1 (y,_) (wE hy))
  ·rw [beq_eq_false_iff_ne.mpr h1] at hx
   by_cases h2:y = p.1
   ·rw [beq_iff_eq.mpr h2] at hy
    exact absurd (Option.some.inj hy) (h.1 (x,_) (wE hx))
   ·rw [beq_eq_false_iff_ne.mpr h2] at hy
    exact ih h.2 hx hy
noncomputable abbrev RQ (Q:AV→zA→Prop):AF→zA→zN→Prop:=fun af H' U=>match af with | .ret v=>Q v H' | _=>Q .none H'
theorem G.pins {P X:Addr→Prop} {s:Shared} {h1:Heap} {tk:Nat} (g:G ρ P H s) (hk:∀ b o,s.heap.get? b = some o→h1.get? b = some o) (hX:∀ b,X b→s.heap.get? b = none) (ex:∀ b,X b→∃ o,h1.get? b = some o) (htk:s.toks ≤ tk):G ρ (fun b=>P b∨X b) H { s with heap:=h1,toks:=tk }:=by
 have no:∀ b o,s.heap.get? b = some o→¬ X b:=fun b o e q=>nomatch e.symm.trans (hX b q)
 refine ⟨fun b o e=>?_,fun b o e=>(g.rep b o e).at (fun c o e n=>⟨hk c o e,fun q=>q.elim (fun q=>n (.inl q)) fun q=>q.elim (fun q=>n (.inr q)) (no c o e)⟩) (hk b) fun U d hd=>⟨hd,hk d⟩,fun b p=>p.elim (fun p=>?_) fun p=>⟨g.rep.new (hX b p),ex b p⟩,An g.tk htk⟩
 ·have z:=g.base b o e
  exact ⟨hk b o z.1,z.2.1,fun q=>q.elim z.2.2 (no b o z.1)⟩
 ·have z:=g.pin b p
  exact ⟨z.1,z.2.elim fun o e=>⟨o,hk b o e⟩⟩
theorem mE {P:Addr→Prop} {s:Shared} {h1:Heap} {tk:Nat} {ps:List Str} {vs:List AV} {us:List Value} {sc:Scope} {qual:Str} {a:Addr} {code:Value} (g:G ρ P H s) (cl:zU ρ s.heap (Dm H P) vs us) (nd:ps.Nodup) (hkd:sc.kind = .function)
  (hin:InCallC s (wN sc s.heap.objs.size qual a code).locals (bindL (wN sc s.heap.objs.size qual a code).kindOf (ps.zip us) fun U=>none) (wN sc s.heap.objs.size qual a code).cells (bindC (wN sc s.heap.objs.size qual a code).kindOf (ps.zip us) fun U=>none) { s with heap:=h1,toks:=tk })
  (hk:∀ x∈ps,sc.names.lookup x = some .local∨(sc.names.lookup x = some .cell∧∀ n,(List.lookup x (cellsFrom n sc.names [])).isSome = true)) (hX:∀ b,rP (wN sc s.heap.objs.size qual a code) b→s.heap.get? b = none) :
  zG ρ (wN sc s.heap.objs.size qual a code) (fun b=>P b∨rP (wN sc s.heap.objs.size qual a code) b) H h1 (nJ ps vs):=by
 have hN:∀ b,rP (wN sc s.heap.objs.size qual a code) b→H b = none:=fun b ob=>g.rep.new (hX b ob)
 have st:zX (Dm H P) s.heap (Dm H fun b=>P b∨rP (wN sc s.heap.objs.size qual a code) b) h1:=fun b ob e n=>⟨hin.toInCall.keep b ob e,fun q=>q.elim (fun q=>n (.inl q)) fun q=>q.elim (fun q=>n (.inr q)) fun q=>nomatch e.symm.trans (hX b q)⟩
 refine ⟨hkd,rfl,rfl,⟨_,hin.toInCall.ns,fun x av e k=>?_⟩,fun x av e k=>?_,⟨.inr (.inl rfl),hN _ (.inl rfl)⟩,fun x c e=>⟨.inr (.inr ⟨x,e⟩),hN _ (.inr ⟨x,e⟩),_,hin.cell x c e⟩,fun x y c e e'=>cells_apart hin.apart e e'⟩
 ·exact (bind_get (kindOf:=(wN sc s.heap.objs.size qual a code).kindOf) (m:=fun U=>none) (m':=fun U=>none) nd cl e).elim fun v p=>⟨v,p.2.1 k,p.1.mono st⟩
 ·refine (bind_get (kindOf:=(wN sc s.heap.objs.size qual a code).kindOf) (m:=fun U=>none) (m':=fun U=>none) nd cl e).elim fun v p=>(hk x (List.of_mem_zip (wE e)).1).elim (fun q=>absurd q k) fun q=>?_
  refine (Az.mp (q.2 (s.heap.objs.size + 1))).elim fun cc hc=>⟨cc,v,hc,?_,p.1.mono st⟩
  exact p.2.2 k ▸ hin.cell x cc hc
theorem zE.fn {a:Addr} {ps:List Str} {body:List Stmt} {sc:Scope} {vs:List AV} (S:SF K ρ.base) (hl:l ≤ 40) (hf:FnAt ρ.base a ps body sc) (hn:vs.length = ps.length) (nd:ps.Nodup)
  (hb:∀ L qual code,CodeIn ρ.base code→ST ρ (l + 1) (wN sc L qual a code) body H (nJ ps vs) (RQ Q))
  (hk:∀ x∈ps,sc.names.lookup x = some .local∨(sc.names.lookup x = some .cell∧∀ n,(List.lookup x (cellsFrom n sc.names [])).isSome = true))
  (hco:autoParam (sc.isCoroutine = false) rt) (hge:autoParam (sc.isGenerator = false) rt) (hkd:autoParam (sc.kind = .function) rt):zE ρ l (.ref a) vs H Q:=.mk fun P s vf us g cf cl A hA=>by
 cases cf
 refine sealG ?_
 intro Gs
 obtain ⟨o,fd,ho,hd,hbody,hsc,hcl,hgl,hbi,hcr,hbind⟩:=hf
 subst hsc
 have k0:∀ b ob,ρ.base.get? b = some ob→s.heap.get? b = some ob:=fun b ob e=>(g.base b ob e).1
 obtain ⟨c,oc,xs,t,e1,e2,e3,e4⟩:=hcr
 refine wpAny_call (codeAny_call_function (hA.depth (zy 1 1 77742212232257872 rfl hl)) (k0 _ _ ho) hd hco hge hbody ⟨c,oc,xs,t,e1,k0 _ _ e2,e3,e4⟩ (hbind us s (cl.length.trans hn) _ _ _ _ ?_))
 rw [hcl,hgl,hbi]
 refine vB (wpAny_newFunctionEnv_cells hkd (fun x hx=>(hk x.1 (List.of_mem_zip (show (x.1,x.2)∈ps.zip us from hx)).1).imp_right fun q=>⟨q.1,q.2 _⟩) fun env he s' hin htk=>?_)
 subst he
 refine sealG ?_
 intro Gs
 obtain ⟨h1,tk,e⟩:=hin.toInCall.same
 subst e
 refine ⟨(S.nl.keeps k0).keeps hin.toInCall.keep,codeAny_func ?_⟩
 have hX:∀ b,rP (wN fd.scope s.heap.objs.size (fd.qualname ++ ".<locals>.") a fd.code) b→s.heap.get? b = none:=fun b ob=>by
  have:s.heap.objs.size ≤ b:=ob.elim (fun q=>Nat.le_of_eq q.symm) fun p=>p.elim fun x q=>Nat.le_of_lt (hin.above x b (wE q))
  cases q:s.heap.get? b with
  | none=>rfl
  | some ob=>exact absurd (Aq q) (Nat.not_lt.mpr this)
 have F1:=mE g cl nd hkd hin hk hX
 have keep:=hin.toInCall.keep
 refine Ai (((hb s.heap.objs.size (fd.qualname ++ ".<locals>.") fd.code ⟨c,oc,_,e1,e2,e3⟩).out _ _ (g.pins keep hX (fun b q=>(F1.useP q).2.2) htk) F1).run (hA.deeper _) fun f s3 H3 m3 f3 F3 p=>?_) (fun U U x=>x) fun U U x=>x.elim
 refine sealG ?_
 intro Gs
 obtain ⟨af,cf,q⟩:=p
 have st3:zX (Dm H3 fun b=>P b∨rP (wN fd.scope s.heap.objs.size (fd.qualname ++ ".<locals>.") a fd.code) b) s3.heap (Dm H3 P) s3.heap:=fun b ob e n=>⟨e,fun q=>n (q.imp_right .inl)⟩
 have fin:Fin ρ P s H s3 H3:=⟨fun b ob e n=>f3.keep b ob (keep b ob e) n fun q=>(nomatch e.symm.trans (hX b q.use)),fun b ob e=>(f3.rep b ob e).at st3 (fun U x=>x) fun U d hd=>⟨hd,fun U x=>x⟩,f3.gens,f3.os,Ah htk f3.tk⟩
 cases af with
 | nxt=>subst cf;exact ⟨H3,fin,.none,rfl,q⟩
 | brk=>subst cf;exact ⟨H3,fin,.none,rfl,q⟩
 | cnt=>subst cf;exact ⟨H3,fin,.none,rfl,q⟩
 | ret v=>exact cf.elim fun u p=>by cases p.1;exact ⟨H3,fin,v,p.2.mono st3,q⟩
end
end
section
noncomputable def pB (c:Code) (target iter:Expr) (ifs:List Expr) (it:Value) (env:Env) (BT:Sem PySem.Fin):Sem PySem.Fin:=do
   standAt iter.pos
   match ← pyNext it with
   | none=>pure (.done .next)
   | some v=>
    letOwnedTupleGo target it v
    assign target env v
    let mut ok:=true
    for c in ifs do
     if ok then ok ← isTrue c env (eval c env)
    if ok then BT else again c
theorem turn1 (elt target iter:Expr) (ifs:List Expr) (scope:Scope) (pos:Pos) (it acc:Value) (env:Env) :
  compTurn (.ListComp elt [⟨target,iter,ifs,0⟩] scope pos) 0 it acc env = pB (.compLoop (.ListComp elt [⟨target,iter,ifs,0⟩] scope pos) 0 it acc env) target iter ifs it env
  ((do let _ ← call (.builtin "list.append") [acc,← eval elt env]) >>= fun U=>again (.compLoop (.ListComp elt [⟨target,iter,ifs,0⟩] scope pos) 0 it acc env)):=by rfl
theorem turn20 (elt target iter t2 i2:Expr) (ifs ifs2: List Expr) (scope:Scope) (pos:Pos) (it acc:Value) (env:Env) :
  compTurn (.ListComp elt [⟨target,iter,ifs,0⟩,⟨t2,i2,ifs2,0⟩] scope pos) 0 it acc env = pB (.compLoop (.ListComp elt [⟨target,iter,ifs,0⟩,⟨t2,i2,ifs2,0⟩] scope pos) 0 it acc env) target iter ifs it env
  (eval i2 env >>= fun x=>standAt i2.pos >>= fun U=>foldedSetIterable i2 env x >>= fun x=>holding [x] (pyIter x) >>= fun it2=>runOwn (.compStart (.ListComp elt [⟨target,iter,ifs,0⟩,⟨t2,i2,ifs2,0⟩] scope pos) 1 it2 acc env) env >>= fun U=>again (.compLoop (.ListComp elt [⟨target,iter,ifs,0⟩,⟨t2,i2,ifs2,0⟩] scope pos) 0 it acc env)):=by rfl
theorem turn21 (elt target iter t2 i2:Expr) (ifs ifs2: List Expr) (scope:Scope) (pos:Pos) (it acc:Value) (env:Env) :
  compTurn (.ListComp elt [⟨target,iter,ifs,0⟩,⟨t2,i2,ifs2,0⟩] scope pos) 1 it acc env = pB (.compLoop (.ListComp elt [⟨target,iter,ifs,0⟩,⟨t2,i2,ifs2,0⟩] scope pos) 1 it acc env) t2 i2 ifs2 it env
  ((do let _ ← call (.builtin "list.append") [acc,← eval elt env]) >>= fun U=>again (.compLoop (.ListComp elt [⟨target,iter,ifs,0⟩,⟨t2,i2,ifs2,0⟩] scope pos) 1 it acc env)):=by rfl
theorem turnD (k v target iter:Expr) (ifs:List Expr) (scope:Scope) (pos:Pos) (it:Value) (D:Addr) (env:Env) :
    compTurn (.DictComp k v [⟨target,iter,ifs,0⟩] scope pos) 0 it (.ref D) env = pB (.compLoop (.DictComp k v [⟨target,iter,ifs,0⟩] scope pos) 0 it (.ref D) env) target iter ifs it env
     ((do let kv ← eval k env
          let vv ← holding [kv] (eval v env)
          standAt { k.pos with endLine:=v.pos.endLine,endCol:=v.pos.endCol }
          holding [kv,vv] (dictSet D kv vv)) >>= fun U=>again (.compLoop (.DictComp k v [⟨target,iter,ifs,0⟩] scope pos) 0 it (.ref D) env)):=by rfl
noncomputable def TS (ρ:Bs) (l:Nat) (env:Env) (ifs:List Expr) (H:zA) (m:zN) (Q:Bool→zA→Prop):Prop:=
 match ifs with
 | []=>Q true H
 | [c]=>TR ρ l env c H m Q
 | _=>False
section
variable {l:Nat} {env:Env} {H:zA} {m:zN}
theorem TS.run {ifs:List Expr} {Q:Bool→zA→Prop} {P:Addr→Prop} {s:Shared} {A:Around} {Q':Bool→Shared→Prop} (h:TS ρ l env ifs H m Q) (hA:sW l A) (g:G ρ P H s) (F:zG ρ env P H s.heap m)
  (k:∀ b s' H',Fin ρ P s H s' H'→Q b H'→Q' b s') :
  wpAny ρ.M A (forIn ifs true fun c r=>if r = true then do let ok ← isTrue c env (eval c env);pure (ForInStep.yield ok) else pure (ForInStep.yield r)) Q' (fun U U=>False) s:=by
 match ifs,h with
 | [],h=>exact wpAny_tests_nil (k true s H (Fin.refl g.rep) h)
 | [c],h=>exact wpAny_tests_one ((h.out P s g F).run hA fun b s' H' f q=>k b s' H' f q)
structure Acc (D:Addr) (γ:Type) where
 at_:γ→Heap→(Addr→Prop)→Prop
 keep:∀ g h Dd h' Dd',at_ g h Dd→(∀ o,h.get? D = some o→h'.get? D = some o)→zX Dd h Dd' h'→at_ g h' Dd'
inductive BD {γ:Type} (ρ:Bs) (env:Env) (P:Addr→Prop) (D:Addr) (ac:Acc D γ) (s:Shared) (H:zA) (Q:γ→zA→zN→Prop) (s':Shared):Prop
 | mk:∀ g H' m',tO ρ env [D] P s H s' H'→G ρ P H' s'→zG ρ env P H' s'.heap m'→ac.at_ g s'.heap (Dm H' P)→Q g H' m'→BD ρ env P D ac s H Q s'
noncomputable def oR {γ:Type} (ρ:Bs) (l:Nat) (env:Env) (P:Addr→Prop) (D:Addr) (ac:Acc D γ) (c:Code) (BT:Sem PySem.Fin) (g0:γ) (H:zA) (m:zN) (Q:γ→zA→zN→Prop):Prop:=
 ∀ A s,sW l A→G ρ P H s→zG ρ env P H s.heap m→ac.at_ g0 s.heap (Dm H P) →
  wpAny ρ.M A BT (fun fin s'=>fin = .again c∧BD ρ env P D ac s H Q s') (fun U U=>False) s
structure CJ {γ:Type} (ρ:Bs) (env:Env) (P:Addr→Prop) (D:Addr) (ac:Acc D γ) (wr:List Addr) (s0:Shared) (H0:zA) (y:γ) (s:Shared) (H:zA) (m:zN):Prop where
 g:G ρ P H s
 F:zG ρ env P H s.heap m
 acc:ac.at_ y s.heap (Dm H P)
 W:tO ρ env (D :: wr) P s0 H0 s H
inductive CJJ {γ:Type} (ρ:Bs) (env:Env) (P:Addr→Prop) (D:Addr) (ac:Acc D γ) (wr:List Addr) (s0:Shared) (H0:zA) (St:Nat→Heap→zA→Prop) (Inv:Nat→γ→zA→zN→Prop) (n k:Nat) (s:Shared):Prop
 | mk:∀ i g H m,k + i = n→Inv i g H m→St i s.heap H→CJ ρ env P D ac wr s0 H0 g s H m→CJJ ρ env P D ac wr s0 H0 St Inv n k s
inductive CEd {γ:Type} (ρ:Bs) (env:Env) (P:Addr→Prop) (D:Addr) (ac:Acc D γ) (wr:List Addr) (s0:Shared) (H0:zA) (Q:γ→zA→zN→Prop) (s:Shared):Prop
 | mk:∀ g H m,Q g H m→vG ρ s.heap H P→zG ρ env P H s.heap m→ac.at_ g s.heap (Dm H P)→tO ρ env (D :: wr) P s0 H0 s H→(∀ a,P a→H a = none)→CEd ρ env P D ac wr s0 H0 Q s
theorem turnC {γ:Type} {c:Code} {itx:Expr} {ifs:List Expr} {BT:Sem PySem.Fin} {P:Addr→Prop} {D:Addr} {ac:Acc D γ} {wr kp:List Addr} {I:Addr} {xs:List AV} {tg:Expr} {St:Nat→Heap→zA→Prop} {s0:Shared} {H0:zA} {A:Around}
  (it:sA ρ l P wr kp I xs tg St) (hw:∀ b∈wr,P b∧¬ rP env b∧b ≠ D) (hkp:∀ b∈kp,P b∧¬ Own env b∧b ≠ D) (hD:P D∧¬ rP env D) (hA:sW l A) (Inv:Nat→γ→zA→zN→Prop)
  (turn:∀ i x g H m,xs[i]? = some x→Inv i g H m→AS ρ l env tg x H m fun H1 m1=>TS ρ l env ifs H1 m1 fun b H2=>if b then oR ρ l env P D ac c BT g H2 m1 fun g' H3 m3=>Inv (i + 1) g' H3 m3 else Inv (i + 1) g H2 m1)
  {k:Nat} {s1:Shared} (hJ:CJJ ρ env P D ac wr s0 H0 St Inv xs.length k s1) :
  wpAny ρ.M A (pB c tg itx ifs (.ref I) env BT) (fun fin s'=>match fin with
   | .done f=>f = .next∧CEd ρ env P D ac wr s0 H0 (Inv xs.length) s'
   | .again c'=>c' = c∧∃ k',k' < k∧CJJ ρ env P D ac wr s0 H0 St Inv xs.length k' s') (fun U U=>False) s1:=by
 refine Ak (Al (Ak ?_))
 refine sealG ?_
 intro Gs
 obtain ⟨i,g0,H1,m1,hk,hi,st1,J⟩:=hJ
 have hw':∀ b∈wr,P b∧¬ rP env b:=fun b q=>⟨(hw b q).1,(hw b q).2.1⟩
 have stepA:∀ {s'},NX ρ env P wr s1 H1 m1 s'→ac.at_ g0 s'.heap (Dm H1 P):=fun n=>
  ac.keep _ _ _ _ _ J.acc (fun o=>n.keep D o fun q=>(hw D q).2.2 rfl) fun a o e z=>⟨n.keep a o (fun q=>z (.inr (hw a q).1)) e,z⟩
 cases hx:xs[i]? with
 | none=>
  cases show i = xs.length from ω8 hk (List.getElem?_eq_none_iff.mp hx)
  exact it.stop hw' hA J.g J.F st1 fun s' n=>Aj ⟨rfl,g0,H1,m1,hi,n.r,n.F,stepA n,J.W.trans (n.W.more fun b=>.tail _),fun a p=>(J.g.pin a p).1⟩
 | some x=>
  have hlt:i < xs.length:=(Bc.mp hx).1
  refine it.next hw' hA J.g J.F st1 hx ?_
  intro v s2 hv
  refine Ak (Ai hv (fun U s3 p=>?_) fun U U x=>x.elim)
  refine sealG ?_
  intro Gs
  obtain ⟨g3,n,st3,cx⟩:=p
  have kD:∀ {sa sb:Shared} {Ha Hb:zA} {ma:zN},G ρ P Ha sa→zG ρ env P Ha sa.heap ma→sB ρ env P sa Ha sb Hb→ac.at_ g0 sa.heap (Dm Ha P)→ac.at_ g0 sb.heap (Dm Hb P):=fun ga Fa f a=>ac.keep _ _ _ _ _ a (fun o e=>(f.keep D o e (ga.pin D hD.1).1 fun q=>hD.2 q.use).1) (f.stays Fa)
  have kS:∀ {sa sb:Shared} {Ha Hb:zA} {ma:zN},G ρ P Ha sa→zG ρ env P Ha sa.heap ma→tO ρ env [D] P sa Ha sb Hb→St (i + 1) sa.heap Ha→St (i + 1) sb.heap Hb:=it.keeps (fun b q=>⟨(hkp b q).1,(hkp b q).2.1,fun z=>(hkp b q).2.2 (Bf.mp z)⟩) fun b z=>Bf.mp z ▸ hD.1
  refine Ak (((turn i x g0 H1 m1 hx hi).out P _ v g3 n.F cx).run hA fun U s4 H4 m4 f4 F4 q4=>?_)
  have g4:=g3.finS n.F f4 F4
  refine Ak (q4.run hA g4 F4 fun b s5 H5 f5 q5=>?_)
  have g5:=g4.fin f5
  have F5:=F4.ext f5.ext
  have a5:=kD g4 F4 f5.toS (kD g3 n.F f4 (stepA n))
  have st5:=kS g3 n.F (f4.trans f5.toS).toW st3
  have W5:=J.W.trans ((n.W.more fun b=>.tail _).trans (f4.trans f5.toS).toW)
  cases b with
  | false=>exact Aj ⟨rfl,k - 1,ω9 hk hlt,i + 1,g0,H5,m4,ω10 hk hlt,q5,st5,g5,F5,a5,W5⟩
  | true=>
   refine Ai (q5 A s5 hA g5 F5 a5) (fun fin s6 p=>?_) fun U U x=>x
   refine p.1 ▸ ⟨rfl,k - 1,ω9 hk hlt,?_⟩
   refine sealG ?_
   intro Gs
   obtain ⟨g',H6,m6,f6,g6,F6,a6,q6⟩:=p.2
   exact ⟨i + 1,g',H6,m6,ω10 hk hlt,q6,kS g5 F5 f6 st5,g6,F6,a6,W5.trans (f6.more fun b q=>Bf.mp q ▸ .head _)⟩
noncomputable def CRes {γ:Type} (ρ:Bs) (env:Env) (P:Addr→Prop) (D:Addr) (ac:Acc D γ) (wr:List Addr) (s0:Shared) (H0:zA) (Q:γ→zA→zN→Prop) (r:Result) (s':Shared):Prop:=
 match r with
 | .ok f=>f = .next∧CEd ρ env P D ac wr s0 H0 Q s'
 | .error _=>False
theorem CRes.mono {γ:Type} {P:Addr→Prop} {D:Addr} {ac:Acc D γ} {wr:List Addr} {s0 s:Shared} {H0:zA} {Q Q':γ→zA→zN→Prop} (h:∀ g H m,Q g H m→Q' g H m) {r:Result} (c:CRes ρ env P D ac wr s0 H0 Q r s):CRes ρ env P D ac wr s0 H0 Q' r s:=by
 cases r with
 | error e=>exact c
 | ok f=>exact ⟨c.1,c.2.rec fun g H m q r F a W p=>⟨g,H,m,h g H m q,r,F,a,W,p⟩⟩
theorem loopG {γ:Type} {c:Code} {itx:Expr} {ifs:List Expr} {BT:Sem PySem.Fin} {P:Addr→Prop} {D:Addr} {ac:Acc D γ} {wr kp:List Addr} {I:Addr} {xs:List AV} {tg:Expr} {St:Nat→Heap→zA→Prop} {s0:Shared} {A:Around} {g0:γ}
  (hq:c.quiet = true) (hden:∀ (Q':PySem.Fin→Shared→Prop) E s,wpAny ρ.M A (pB c tg itx ifs (.ref I) env BT) Q' (notedBy ρ.M A env E) s→wpAny ρ.M (A.under c) (ρ.M.den c) Q' E s)
  (it:sA ρ l P wr kp I xs tg St) (hw:∀ b∈wr,P b∧¬ rP env b∧b ≠ D) (hkp:∀ b∈kp,P b∧¬ Own env b∧b ≠ D) (hD:P D∧¬ rP env D) (hA:sW l A) (Inv:Nat→γ→zA→zN→Prop)
  (turn:∀ i x g H m,xs[i]? = some x→Inv i g H m→AS ρ l env tg x H m fun H1 m1=>TS ρ l env ifs H1 m1 fun b H2=>if b then oR ρ l env P D ac c BT g H2 m1 fun g' H3 m3=>Inv (i + 1) g' H3 m3 else Inv (i + 1) g H2 m1)
  (i0:Inv 0 g0 H m) (st0:St 0 s0.heap H) (g:G ρ P H s0) (F:zG ρ env P H s0.heap m) (a0:ac.at_ g0 s0.heap (Dm H P)) :
  codeAny ρ.M A c (CRes ρ env P D ac wr s0 H (Inv xs.length)) s0:=by
 refine codeAny_loop hq (CJJ ρ env P D ac wr s0 H St Inv xs.length) (fun k s1 hJ=>hden _ _ _ (Ai (turnC it hw hkp hD hA Inv turn hJ) (fun fin s' h=>?_) fun U U x=>x.elim)) xs.length ⟨0,g0,H,m,(wM 81923474738 rfl),i0,st0,⟨g,F,a0,tO.refl⟩⟩
 cases fin with
 | done f=>exact h
 | again c'=>exact h
noncomputable def qR (D:Addr):Acc D (List AV) where
 at_ ys h Dd:=∃ us n,h.get? D = some (tV us n)∧zU ρ h Dd ys us
 keep:=fun ys h Dd h' Dd' p1 k st=>p1.elim fun us p2=>p2.elim fun n p3=>p3.elim fun e c=>⟨us,n,k _ e,c.mono st⟩
noncomputable def accD (D:Addr):Acc D (List (Int×AV)) where
 at_ kvs h Dd:=∃ cv:List (Int×Value),(D == sysModules) = false∧h.DictOf ρ.iK D cv∧cv.map (fun p=>p.1) = kvs.map (fun p=>p.1)∧zU ρ h Dd (kvs.map (fun p=>p.2)) (cv.map (fun p=>p.2))
 keep:=fun ys h Dd h' Dd' x k st=>by
  refine sealG ?_
  intro Gs
  obtain ⟨cv,a,⟨o,es,ep,e,r⟩,b,c⟩:=x
  exact ⟨cv,a,⟨o,es,ep,k _ e,r⟩,b,c.mono st⟩
theorem zU.snoc {h:Heap} {Dd:Addr→Prop} {xs:List AV} {x:AV} {vs:List Value} {v:Value} (a:zU ρ h Dd xs vs) (b:xM ρ h Dd x v):zU ρ h Dd (xs ++ [x]) (vs ++ [v]):=a.append ⟨v,[],rfl,b,rfl⟩
theorem G.sameBut {P:Addr→Prop} {s:Shared} {h':Heap} {D:Addr} {tk:Nat} (g:G ρ P H s) (hD:P D) (hs:Heap.SameBut D s.heap h') (hx:∃ o,h'.get? D = some o) (htk:s.toks ≤ tk):G ρ P H { s with heap:=h',toks:=tk }:=
 g.but (wr:=[D]) htk (fun b q=>(Bf.mp q) ▸ hD) (fun b o hb e=>(hs.2 b fun q=>hb (q ▸ .head _)).trans e) fun b q=>(Bf.mp q) ▸ hx
theorem oR.list {P:Addr→Prop} {D:Addr} {c:Code} {elt:Expr} {ys:List AV} {Q:List AV→zA→zN→Prop} (hD:P D∧¬ rP env D) (h:EX ρ l env elt H m fun y H'=>ys.length ≤ sizeLine∧Q (ys ++ [y]) H' m) :
  oR ρ l env P D (qR D) c ((do let _ ← PySem.call (.builtin "list.append") [.ref D,← eval elt env]) >>= fun U=>again c) ys H m Q:=fun A s hA g F a0=>by
 refine Ak (Ak ((h.out P s g F).run hA fun v s1 H1 f1 p1=>p1.rec fun y cy p2=>p2.elim fun hz q=>?_))
 have g1:=g.fin f1
 have F1:=F.ext f1.ext
 refine sealG ?_
 intro Gs
 obtain ⟨us,n,hd,cl⟩:=a0
 have nD:H D = none:=(g.pin D hD.1).1
 have hd1:=(f1.ext D _ hd nD).1
 have cl1:zU ρ s1.heap (Dm H1 P) ys us:=cl.mono f1.ext.stays
 refine Ak (wpAny_list_append_plain (items:=us.toArray) ⟨n,hd1⟩ (fun h' ⟨n',hp⟩ hs=>?_) (by rw [Bo,cl.length];exact hz))
 have st:zX (Dm H1 P) s1.heap (Dm H1 P) h':=zX.but (.inr hD.1) hs
 refine Aj (Aj ⟨rfl,ys ++ [y],H1,m,?_,g1.sameBut hD.1 hs ⟨_,hp⟩ (Ag _),F1.move st fun a ua o e=>?_,⟨us ++ [v],n',by simpa using hp,(cl1.snoc cy).mono st⟩,q⟩)
 ·refine (f1.toS.toW (env:=env)).trans ⟨fun a o e n no nw=>⟨(hs.2 a fun q=>nw (q ▸ .head _)).trans e,n⟩,rfl,rfl,Ag _⟩
 ·exact ⟨(hs.2 a fun q=>hD.2 (q ▸ ua)).trans e,(F1.useP ua).2.1,(F1.useP ua).1⟩
theorem stored_new {cv:List (Int×Value)} {k:Int} {v:Value} (h:k ∉ cv.map (fun p=>p.1)):stored cv k v = cv ++ [(k,v)]:=by
 unfold stored
 rw [Aa]
 intro q
 simp only [Bp,Bq] at q
 obtain ⟨p,hp,e⟩:=q
 exact h (Bm.mpr ⟨p,hp,by first | exact e | exact e.symm | simpa using e⟩)
theorem oR.dict {P:Addr→Prop} {D:Addr} {c:Code} {ke ve:Expr} {kvs:List (Int×AV)} {Q:List (Int×AV)→zA→zN→Prop} (hD:P D∧¬ rP env D)
  (h:EX ρ l env ke H m fun k H1=>EX ρ l env ve H1 m fun y H2=>∃ i,k = .int i∧kvs.length ≤ sizeLine∧i ∉ kvs.map (fun p=>p.1)∧Q (kvs ++ [(i,y)]) H2 m) :
  oR ρ l env P D (accD D) c ((do
     let kv ← eval ke env
     let vv ← PySem.holding [kv] (eval ve env)
     PySem.standAt { ke.pos with endLine:=ve.pos.endLine,endCol:=ve.pos.endCol }
     PySem.holding [kv,vv] (dictSet D kv vv)) >>= fun U=>again c) kvs H m Q:=fun A s hA g F a0=>by
 refine Ak (Ak ((h.out P s g F).run hA fun kv s1 H1 f1 p1=>p1.rec fun k ck q1=>?_))
 refine Ak (Am ((q1.out P s1 (g.fin f1) (F.ext f1.ext)).run hA fun vv s2 H2 f2 p1=>p1.rec fun y cy p2=>p2.elim fun i p3=>p3.elim fun ei p4=>p4.elim fun hz p5=>p5.elim fun hni q=>Ak (Al (Am ?_))))
 have f12:=f1.trans f2
 have g2:=g.fin f12
 have F2:=F.ext f12.ext
 subst ei
 refine sealG ?_
 intro Gs
 obtain ⟨t,rfl⟩:=ck
 obtain ⟨cv,hsy,⟨o,es,ep,hd,r⟩,hks,cl⟩:=a0
 have nD:H D = none:=(g.pin D hD.1).1
 have hd2:=(f12.ext D _ hd nD).1
 have cl2:zU ρ s2.heap (Dm H2 P) (kvs.map (fun p=>p.2)) (cv.map (fun p=>p.2)):=cl.mono f12.ext.stays
 have hl:cv.length = kvs.length:=by have:=congrArg List.length hks;simpa using this
 refine wpAny_dictSet_pairs (knd:=ρ.iK) (k:=i) (Br _ _ _ _) ⟨o,es,ep,hd2,r⟩ (fun h' hdo hs=>?_) (by rw [hl];exact hz)
 rw [stored_new (by rw [hks];exact hni)] at hdo
 have st:zX (Dm H2 P) s2.heap (Dm H2 P) h':=zX.but (.inr hD.1) hs
 have hx:∃ o,h'.get? D = some o:=by obtain ⟨o,U,U,e,U⟩:=id hdo;exact ⟨o,e⟩
 refine Aj ⟨rfl,kvs ++ [(i,y)],H2,m,?_,g2.sameBut hD.1 hs hx (Nat.le_succ _),F2.move st fun a ua o e=>?_,⟨cv ++ [(i,vv)],hsy,hdo,by simp [hks],?_⟩,q⟩
 ·refine (f12.toS.toW (env:=env)).trans ⟨fun a o e n no nw=>⟨(hs.2 a fun q=>nw (q ▸ .head _)).trans e,n⟩,rfl,rfl,Nat.le_succ _⟩
 ·exact ⟨(hs.2 a fun q=>hD.2 (q ▸ ua)).trans e,(F2.useP ua).2.1,(F2.useP ua).1⟩
 ·rw [Bt,Bt];exact (cl2.snoc cy).mono st
noncomputable def capt (cap:List Str) (m:zN):zN:=fun x=>if x∈cap then m x else none
structure vV (scope:Scope) (env:Env) (cl:List (Str×Addr)) (cap:List Str):Prop where
 kind:scope.kind = .function
 names:∀ x∈scope.names,x.2 = .local→scope.names.lookup x.1 = some .local
 nocell:∀ x∈scope.names,x.2 ≠ .cell
 clos:closureFor scope env = pure cl
 sub:∀ n c,cl.lookup n = some c→env.cells.lookup n = some c
 cap:∀ x∈cap,(cl.lookup x).isSome = true∧env.kindOf x ≠ some .local∧(relabel scope env).names.lookup x ≠ some .local
noncomputable def compN (scope:Scope) (x:Str×NameKind):Bool:=decide (x.2 = .local→scope.names.lookup x.1 = some .local)
noncomputable def compC (x:Str×NameKind):Bool:=decide (x.2 ≠ .cell)
noncomputable def compX (scope:Scope) (env:Env) (cl:List (Str×Addr)) (x:Str):Bool:=(cl.lookup x).isSome && (decide (env.kindOf x ≠ some .local) && decide ((relabel scope env).names.lookup x ≠ some .local))
noncomputable def compB (scope:Scope) (env:Env) (cl:List (Str×Addr)) (cap:List Str):Bool:=scope.names.all (compN scope) && (scope.names.all compC && cap.all (compX scope env cl))
theorem vV.of {scope:Scope} {env:Env} {cl:List (Str×Addr)} {cap:List Str} (k:scope.kind = .function) (c:closureFor scope env = pure cl) (s:cl.map (fun p=>env.cells.lookup p.1) = cl.map fun p=>some p.2) (h:compB scope env cl cap = true):vV scope env cl cap:=by
 have h:=Ac.mp h
 have h1:=Ac.mp h.2
 refine ⟨k,fun x hx=>Ad (Aw.mp h.1 x hx),fun x hx=>Ad (Aw.mp h1.1 x hx),c,fun n c e=>List.map_inj_left.mp s (n,c) (wE e),fun x hx=>?_⟩
 have z:=Ac.mp (Aw.mp h1.2 x hx)
 have y:=Ac.mp z.2
 exact ⟨z.1,Ad y.1,Ad y.2⟩
structure wV (ρ:Bs) (env:Env) (P X:Addr→Prop) (s:Shared) (H:zA) (m:zN) (D C:Addr) (s2:Shared) (H2:zA):Prop where
 ext:∀ a o,s.heap.get? a = some o→H a = none→s2.heap.get? a = some o∧H2 a = none
 g:G ρ (fun b=>P b∨b = C∨X b) H2 s2
 F:zG ρ env (fun b=>P b∨b = C∨X b) H2 s2.heap m
 newD:(∀ o,s.heap.get? D = some o→H D ≠ none)∧¬ P D∧D ≠ C
 newC:∀ o,s.heap.get? C = some o→H C ≠ none
 noU:¬ rP env D
 gens:s2.gens = s.gens
 os:s2.os = s.os
 tk:s.toks ≤ s2.toks
 nsC:∃ mm,s2.heap.Ns C mm
noncomputable def CLoop {γ:Type} (ρ:Bs) (l:Nat) (env:Env) (e:Expr) (scope:Scope) (cl:List (Str×Addr)) (cap:List Str) (tg:Expr) (ac:∀ D,Acc D γ) (g00:γ) (xs:List AV) (H1:zA) (m:zN) (Fi:γ→zA→Prop):Prop:=
 ∀ (P:Addr→Prop) D C A wr kp I St s1,sW l A→sA ρ l P wr kp I xs tg St→(∀ b∈wr,P b∧¬ rP (compEnvC scope cl C env) b∧b ≠ D)→(∀ b∈kp,P b∧¬ Own (compEnvC scope cl C env) b∧b ≠ D)→P D∧¬ rP (compEnvC scope cl C env) D→G ρ P H1 s1→zG ρ (compEnvC scope cl C env) P H1 s1.heap (capt cap m) →
  (ac D).at_ g00 s1.heap (Dm H1 P)→St 0 s1.heap H1→codeAny ρ.M A (.compLoop e 0 (.ref I) (.ref D) (compEnvC scope cl C env)) (CRes ρ (compEnvC scope cl C env) P D (ac D) wr s1 H1 (fun g H U=>Fi g H)) s1
theorem none_back {h h':Heap} {b:Addr} (k:∀ o,h.get? b = some o→h'.get? b = some o) (n:h'.get? b = none):h.get? b = none:=by
 cases q:h.get? b with
 | none=>rfl
 | some o=>rw [k o q] at n;cases n
theorem zG.comp {P P':Addr→Prop} {h h':Heap} {scope:Scope} {cl:List (Str×Addr)} {cap:List Str} {C:Addr} {mc:Str→Option Value} (F:zG ρ env P H h m) (ok:vV scope env cl cap) (hns:h'.Ns C mc) (hC:P' C∧H C = none) (hP:∀ b,P b→P' b)
  (hk:∀ b o,h.get? b = some o→h'.get? b = some o) (st:zX (Dm H P) h (Dm H P') h'):zG ρ (compEnvC scope cl C env) P' H h' (capt cap m):=by
 refine ⟨ok.kind,F.gl,F.bi,⟨_,hns,fun x av e k=>?_⟩,fun x av e k=>?_,hC,fun x c e=>?_,fun x y c e e'=>F.apart x y c (ok.sub x c e) (ok.sub y c e')⟩
 ·by_cases hx:x∈cap
  ·exact absurd k (ok.cap x hx).2.2
  ·exact nomatch (Aa hx).symm.trans e
 ·by_cases hx:x∈cap
  ·have z:=ok.cap x hx
   refine (Az.mp z.1).elim fun c hc=>(F.cl x av ((Ab hx).symm.trans e) z.2.1).elim fun c' p=>p.elim fun v p=>?_
   cases Option.some.inj (p.1.symm.trans (ok.sub x c hc))
   exact ⟨_,v,hc,qV p.2.1 fun o=>hk _ o,p.2.2.mono st⟩
  ·exact nomatch (Aa hx).symm.trans e
 ·have z:=F.ownC x c (ok.sub x c e)
  exact ⟨hP c z.1,z.2.1,z.2.2.elim fun v d=>⟨v,qV d fun o=>hk _ o⟩⟩
theorem wV.make {P P':Addr→Prop} {s s5:Shared} {C D:Addr} {H5:zA} (g:G ρ P H s) (F:zG ρ env P H s.heap m) (k:∀ b o,s.heap.get? b = some o→H b = none→s5.heap.get? b = some o∧H5 b = none) (r:vG ρ s5.heap H5 P') (hP:∀ b,P b∨b = C∨b = D→P' b)
  (nC:s.heap.get? C = none) (nD:s.heap.get? D = none) (hCD:D ≠ C) (pn:∀ b,P' b→H5 b = none) (kD:∃ o,s5.heap.get? D = some o) (nsC:∃ mm,s5.heap.Ns C mm) (gn:s5.gens = s.gens) (os:s5.os = s.os) (tk:s.toks ≤ s5.toks):wV ρ env P (fun p=>p=D) s H m D C s5 H5:=by
 have nn:∀ b o,s.heap.get? b = some o→¬ P b→¬ (P b∨b = C∨b = D):=fun b o e p q=>q.elim p fun q=>q.elim (wX e nC) (wX e nD)
 refine ⟨k,⟨fun b o e=>?_,fun b o e=>(r b o e).at (fun c U e n=>⟨e,fun q=>n (q.elim .inl fun q=>.inr (hP c q))⟩) (fun U x=>x) fun U d hd=>⟨hd,fun U x=>x⟩,fun b p=>⟨pn b (hP b p),?_⟩,An g.tk tk⟩,F.move (fun b o e n=>?_) fun b ub o e=>?_,⟨fun o e=>(nomatch nD.symm.trans e),fun q=>(g.pin D q).2.elim fun o e=>(nomatch nD.symm.trans e),hCD⟩,fun o e=>(nomatch nC.symm.trans e),fun u=>(F.useP u).2.2.elim fun o e=>(nomatch nD.symm.trans e),gn,os,tk,nsC⟩
 ·have z:=g.base b o e
  have y:=k b o z.1 z.2.1
  exact ⟨y.1,y.2,nn b o z.1 z.2.2⟩
 ·rcases p with p | p | p
  ·have z:=g.pin b p
   exact z.2.elim fun o e=>⟨o,(k b o e z.1).1⟩
  ·subst p;exact nsC.elim fun mm p=>p.elim fun o p=>p.elim fun U p=>p.elim fun U p=>⟨o,p.1⟩
  ·subst p;exact kD
 ·have z:=k b o e (Ae fun q=>n (.inl q))
  exact ⟨z.1,fun q=>q.elim (fun q=>q z.2) (nn b o e fun q=>n (.inr q))⟩
 ·have z:=F.useP ub
  have y:=k b o e z.2.1
  exact ⟨y.1,y.2,.inl z.1⟩
theorem wV.from {P X:Addr→Prop} {s s1 s2:Shared} {C D:Addr} {H1 H2:zA} (f:Fin ρ P s H s1 H1) (c:wV ρ env P X s1 H1 m D C s2 H2):wV ρ env P X s H m D C s2 H2:=
 ⟨fun a o e n=>let z:=f.ext a o e n;c.ext a o z.1 z.2,c.g,c.F,⟨fun o e n=>let z:=f.ext D o e n;c.newD.1 o z.1 z.2,c.newD.2⟩,fun o e n=>let z:=f.ext C o e n;c.newC o z.1 z.2,c.noU,c.gens.trans f.gens,c.os.trans f.os,Ah f.tk c.tk,c.nsC⟩
noncomputable def CUse (ρ:Bs) (A:Around) (use:Option (Value→Sem Unit)) (Q':Value→Shared→Prop) (D C:Addr) (s2:Shared):Prop:=match use with
 | none=>∀ h',Heap.SameBut C s2.heap h'→Q' (.ref D) { s2 with heap:=h' }
 | some u=>wpAny ρ.M A (u (.ref D)) (fun U s3=>(∃ mm,s3.heap.Ns C mm)∧∀ h',Heap.SameBut C s3.heap h'→Q' .none { s3 with heap:=h' }) (fun U U=>False) s2
structure CStart {γ:Type} (ρ:Bs) (e:Expr) (newAcc:Sem Value) (ac:∀ D,Acc D γ) (g00:γ):Prop where
 start:∀ {A R s it acc env'},codeAny ρ.M A (.compLoop e 0 it acc env') R s→wpAny ρ.M A (pyIter it) (fun it' s'=>codeAny ρ.M A (.compLoop e 0 it' acc env') R s') (notedBy ρ.M A env' fun x s'=>R (.error x) s') s→codeAny ρ.M A (.compStart e 0 it acc env') R s
 new:∀ A s (Q':Value→Shared→Prop),1 < s.heap.objs.size→(∀ D h',s.heap.get? D = none→(∃ o,h'.get? D = some o)→(∀ b o,s.heap.get? b = some o→h'.get? b = some o)→(∀ Dd,(ac D).at_ g00 h' Dd)→Q' (.ref D) { s with heap:=h' })→wpAny ρ.M A newAcc Q' (fun U U=>False) s
 pDx:∀ {D} g h Dd,(ac D).at_ g h Dd→∃ o,h.get? D = some o
theorem compCore (S:SF K ρ.base) {γ:Type} {e:Expr} {scope:Scope} {cl:List (Str×Addr)} {cap:List Str} {tg:Expr} {newAcc:Sem Value} {g00:γ} {ac:∀ D,Acc D γ} {use:Option (Value→Sem Unit)} {Q':Value→Shared→Prop} {P:Addr→Prop} {s:Shared} {A:Around} {I:Addr} {wr kp:List Addr} {h1:Heap} {xs:List AV} {Fi:γ→zA→Prop}
  (ok:vV scope env cl cap) (cs:CStart ρ e newAcc ac g00) (hA:sW l A) (g:G ρ P H s) (F:zG ρ env P H s.heap m)
  (hI:∀ P':Addr→Prop,(∀ a,P a∨a∈wr→P' a)→(∀ a,P' a→P a∨s.heap.get? a = none)→∃ St,sA ρ l P' wr kp I xs tg St∧∀ h2,(∀ b o,h1.get? b = some o→h2.get? b = some o)→St 0 h2 H) (hkp:∀ b∈kp,b∈wr∨P b) (hk:∀ b o,s.heap.get? b = some o→h1.get? b = some o) (hw:∀ b∈wr,s.heap.get? b = none∧∃ o,h1.get? b = some o)
  (hloop:CLoop ρ l env e scope cl cap tg ac g00 xs H m Fi)
  (hend:∀ y H2 D C s2,Fi y H2→wV ρ env P (fun p=>p=D) s H m D C s2 H2→(ac D).at_ y s2.heap (Dm H2 fun b=>P b∨b = C∨b = D)→CUse ρ A use Q' D C s2) :
  wpAny ρ.M A newAcc (fun acc s₃=>wpAny ρ.M A (newFunctionEnv scope env.globals cl [] env.qual none .none (some env)) (fun cenv s₄=>codeAny ρ.M A (.compStart e 0 (.ref I) acc { cenv with scope:=relabel scope env }) (compPost ρ.M A (fun U U=>False) use Q' acc cenv.locals) s₄) (fun U U=>False) s₃) (fun U U=>False) { s with heap:=h1 }:=by
 refine cs.new A { s with heap:=h1 } _ (S.nl.elim fun mc p=>p.1.elim fun o p=>p.elim fun es p=>p.elim fun ep p=>Nat.lt_of_succ_lt (Aq (hk _ _ (g.base _ _ p.1).1))) fun D h2 hD hDx hk2 ha=>?_
 have hDs:s.heap.get? D = none:=none_back (hk D) hD
 refine wpAny_newFunctionEnv ok.nocell (fun U x=>nomatch x) (fun h3 hns hsb=>?_) ok.kind
 have hC2:h2.get? h2.objs.size = none:=by
  cases q:h2.get? h2.objs.size with
  | none=>rfl
  | some o=>exact absurd (Aq q) (Ar _)
 have hk3:∀ b o,h2.get? b = some o→h3.get? b = some o:=fun b o e=>(hsb.2 b (wX e hC2)).trans (As _ e)
 generalize h2.objs.size = C at hns hsb hC2
 have hk12:=fun b o e=>hk2 b o (hk b o e)
 have hCs:s.heap.get? C = none:=none_back (hk12 C) hC2
 have hCD:D ≠ C:=hDx.elim fun o e=>wX e hC2
 have hnew:∀ b∈C :: D :: wr,s.heap.get? b = none∧∃ o,h3.get? b = some o:=fun b hb=>by
  cases hb with
  | head=>exact ⟨hCs,hns.elim fun o p=>p.elim fun U p=>p.elim fun U p=>⟨o,p.1⟩⟩
  | tail U hb=>
   cases hb with
   | head=>exact ⟨hDs,hDx.elim fun o e=>⟨o,hk3 _ _ e⟩⟩
   | tail U hb=>exact ⟨(hw b hb).1,(hw b hb).2.elim fun o e=>⟨o,hk3 _ _ (hk2 _ _ e)⟩⟩
 have hk13:=fun b o e=>hk3 b o (hk12 b o e)
 have nw:∀ b o,s.heap.get? b = some o→b ∉ C :: D :: wr:=fun b o e q=>wX e (hnew b q).1 rfl
 have isn:∀ b,P b→b ∉ C :: D :: wr:=fun b p=>(g.pin b p).2.elim (nw b)
 have inD:∀ b∈wr,b ≠ D:=fun b q z=>(hw b q).2.elim fun o e=>wX e hD z
 have inw:∀ b∈wr,b∈C :: D :: wr:=fun b q=>.tail _ (.tail _ q)
 have st13:zX (Dm H P) s.heap (Dm H fun b=>P b∨b∈C :: D :: wr) h3:=fun b o e n=>⟨hk13 b o e,fun q=>q.elim (fun q=>n (.inl q)) fun q=>q.elim (fun q=>n (.inr q)) (nw b o e)⟩
 have FC:=F.comp (P':=fun b=>P b∨b∈C :: D :: wr) ok hns ⟨.inr (.head _),g.rep.new hCs⟩ (fun U=>.inl) hk13 st13
 have noU:∀ b∈D :: wr,¬ rP (compEnvC scope cl C env) b:=fun b hb ub=>ub.elim (fun (q:b = C)=>by
  cases hb with
  | head=>exact hCD q
  | tail U hb=>exact (hw b hb).2.elim fun o e=>wX (hk2 _ _ e) hC2 q) fun p=>p.elim fun x q=>isn b (F.useP (.inr ⟨x,ok.sub x b q⟩)).1 (.tail _ hb)
 have g3:=g.more (P':=fun b=>P b∨b∈C :: D :: wr) (fun U=>Iff.rfl) hk13 hnew
 refine (hI (fun b=>P b∨b∈C :: D :: wr) (fun b q=>q.imp_right (inw b)) fun b q=>q.imp_right fun q=>(hnew b q).1).elim fun St p=>?_
 have st3:=p.2 h3 fun b o e=>hk3 b o (hk2 b o e)
 have loop:codeAny ρ.M A (.compLoop e 0 (.ref I) (.ref D) (compEnvC scope cl C env)) (compPost ρ.M A (fun U U=>False) use Q' (.ref D) C) { s with heap:=h3 }:=by
  refine Bd (hloop _ D C A wr kp I St _ hA p.1 (fun b q=>⟨.inr (inw b q),noU b (.tail _ q),inD b q⟩) (fun b q=>(hkp b q).elim (fun q=>⟨.inr (inw b q),fun o=>noU b (.tail _ q) o.use,inD b q⟩) fun p=>⟨.inl p,fun o=>o.elim (fun (z:b = C)=>isn b p (z ▸ .head _)) (fun z=>nomatch z.1),fun z=>isn b p (z ▸ .tail _ (.head _))⟩) ⟨.inr (.tail _ (.head _)),noU D (.head _)⟩ g3 FC
   ((ac D).keep _ _ _ _ _ (ha _) (hk3 D) fun b o e n=>⟨hk3 b o e,n⟩) st3) fun r s5 hr=>?_
  cases r with
  | error x=>exact hr.elim
  | ok f=>
   refine sealG ?_
   intro Gs
   obtain ⟨rfl,y,H5,m5,hFi,rep5,F5,a5,W5,pn5⟩:=hr
   have hP:∀ b,P b∨b = C∨b = D→P b∨b∈C :: D :: wr:=fun b q=>q.imp_right fun q=>q.elim (fun q=>q ▸ .head _) fun q=>q ▸ .tail _ (.head _)
   have ns5:∃ mm,s5.heap.Ns C mm:=F5.ns.elim fun mm p=>⟨mm,p.1⟩
   have he:=hend y H5 D C s5 hFi (wV.make g F (fun b o e n=>W5.keep b o (hk13 b o e) n (fun oq=>oq.elim (fun (q:b = C)=>nw b o e (q ▸ .head _)) fun q=>nomatch q.1) fun q=>nw b o e (.tail _ q)) rep5 hP hCs hDs hCD pn5 (cs.pDx _ _ _ a5) ns5 W5.gens W5.os W5.tk)
    ((ac D).keep _ _ _ _ _ a5 (fun U x=>x) fun b o e n=>⟨e,fun q=>n (q.imp_right (hP b))⟩)
   cases use with
   | none=>exact ns5.elim fun mm n=>⟨mm,n,he⟩
   | some u=>exact Ai he (fun U s6 p1=>p1.1.elim fun mm n6=>⟨mm,n6,p1.2⟩) fun U U x=>x
 exact cs.start loop (p.1.self 0 A _ H _ _ st3 loop)
theorem qQ (S:SF K ρ.base) {γ:Type} {e:Expr} {scope:Scope} {cl:List (Str×Addr)} {cap:List Str} {gc:Comprehension} {gs:List Comprehension} {pos:Pos} {newAcc:Sem Value} {g00:γ} {ac:∀ D,Acc D γ} {use:Option (Value→Sem Unit)} {Q':Value→Shared→Prop} {P:Addr→Prop} {s:Shared} {A:Around}
  (hcl:clausesOf e = gc :: gs) (hs:∀ x,foldedSetIterable gc.iter env x = pure x) (ok:vV scope env cl cap) (cs:CStart ρ e newAcc ac g00) (hA:sW l A) (g:G ρ P H s) (F:zG ρ env P H s.heap m)
  (h:EX ρ l env gc.iter H m fun v H1=>∃ xs,yM ρ v xs gc.target∧∃ Fi:γ→zA→Prop,CLoop ρ l env e scope cl cap gc.target ac g00 xs H1 m Fi ∧
   ∀ y H2 D C s2,Fi y H2→wV ρ env P (fun p=>p=D) s H m D C s2 H2→(ac D).at_ y s2.heap (Dm H2 fun b=>P b∨b = C∨b = D)→CUse ρ A use Q' D C s2) :
  wpAny ρ.M A (comprehension e scope env pos newAcc false (eval gc.iter env) use) Q' (fun U U=>False) s:=by
 refine wpAny_comprehension_free hcl hs ok.clos ok.kind ok.names ((h.out P s g F).run hA fun v s1 H1 f1 p=>?_)
 refine sealG ?_
 intro Gs
 obtain ⟨av,c1,xs,hit,Fi,hloop,hend⟩:=p
 refine hit.out l P H1 s1 v A _ hA (g.fin f1) c1 fun I wr h1 hI hk hw=>compCore S ok cs hA (g.fin f1) (F.ext f1.ext) hI (fun U=>.inl) hk hw hloop fun y H2 D C s2 x c=>hend y H2 D C s2 x (.from f1 c)
theorem compAllL (S:SF K ρ.base) {γ:Type} {e:Expr} {scope:Scope} {cl:List (Str×Addr)} {cap:List Str} {gc:Comprehension} {gs:List Comprehension} {pos:Pos} {newAcc:Sem Value} {g00:γ} {ac:∀ D,Acc D γ} {use:Option (Value→Sem Unit)} {Q':Value→Shared→Prop} {P:Addr→Prop} {s:Shared} {A:Around}
  (hcl:clausesOf e = gc :: gs) (hs:∀ x,foldedSetIterable gc.iter env x = pure x) (ok:vV scope env cl cap) (cs:CStart ρ e newAcc ac g00) (hA:sW l A) (g:G ρ P H s) (F:zG ρ env P H s.heap m)
  (h:EX ρ l env gc.iter H m fun v H1=>∃ a o xs,v = .ref a∧H1 a = some o∧(∀ x,o ≠ .attrs x)∧(∀ C dx fs,o ≠ .inst C dx fs)∧sQ ρ a o xs gc.target∧∃ Fi:γ→zA→Prop,CLoop ρ l env e scope cl cap gc.target ac g00 xs (del H1 a) m Fi ∧
   ∀ y H2 D C s2,Fi y H2→H2 a = none→wV ρ env P (fun p=>p=D) s H m D C s2 (upd H2 a o)→(ac D).at_ y s2.heap (Dm (upd H2 a o) fun b=>P b∨b = C∨b = D)→CUse ρ A use Q' D C s2) :
  wpAny ρ.M A (comprehension e scope env pos newAcc false (eval gc.iter env) use) Q' (fun U U=>False) s:=by
 refine wpAny_comprehension_free hcl hs ok.clos ok.kind ok.names ((h.out P s g F).run hA fun v s1 H1 f1 p=>?_)
 refine sealG ?_
 intro Gs
 obtain ⟨av,c1,a,o,xs,ea,ho,hat,hin,hit,Fi,hloop,hend⟩:=p
 subst ea;cases c1
 have g1:=g.fin f1
 have F1:=F.ext f1.ext
 have nP:=g1.noP ho
 refine hit.out l P H1 s1 A _ hA g1 ho fun I wr h1 hI haw hk hw=>compCore (kp:=a :: wr) S ok cs hA (g1.lend ho hat) (F1.lend ho nP) (fun P' x y=>hI P' (fun b q=>x b (q.elim (fun q=>.inl (.inl q)) fun q=>q.elim (fun q=>.inl (.inr q)) .inr)) fun b q=>(y b q).elim (fun q=>q.elim .inl fun q=>.inr (.inl q)) fun q=>.inr (.inr q))
  (fun b q=>(Be.mp q).elim (fun q=>.inr (.inr q)) .inl) hk hw hloop fun y H5 D C s5 x c ac5=>?_
 obtain ⟨oa,hoa⟩:=g1.rep.there ho
 have up:∀ b,P b∨b = C∨b = D→(P b∨b = a)∨b = C∨b = D:=fun b=>.imp_left .inl
 have R:∀ b ob,s1.heap.get? b = some ob→del H1 a b = none→¬ (b = C∨b = D):=fun b ob e n q=>q.elim (fun q=>c.newC ob (q ▸ e) (q ▸ n)) fun q=>c.newD.1 ob (q ▸ e) (q ▸ n)
 have na:∀ b,P b∨b = C∨b = D→b ≠ a:=fun b q z=>q.elim (fun q=>nP (z ▸ q)) (R b oa (z ▸ hoa) (z ▸ xB))
 have ext:∀ b ob,s1.heap.get? b = some ob→H1 b = none→s5.heap.get? b = some ob∧upd H5 a o b = none:=fun b ob e n=>by
  have hb:=zA.ne ho n
  have z:=c.ext b ob e ((zR hb).trans n)
  exact ⟨z.1,(zB hb).trans z.2⟩
 have st:zX (Dm H1 P) s1.heap (Dm (upd H5 a o) fun b=>P b∨b = C∨b = D) s5.heap:=fun b ob e n=>by
  have n1:H1 b = none:=Ae fun q=>n (.inl q)
  have z:=ext b ob e n1
  exact ⟨z.1,fun q=>q.elim (fun q=>q z.2) fun q=>q.elim (fun q=>n (.inr q)) (R b ob e ((zR (zA.ne ho n1)).trans n1))⟩
 refine hend y H5 D C s5 x (c.g.pin a (.inl (.inr rfl))).1 (.from f1 ⟨ext,⟨fun b ob e=>?_,g1.rep.back ho hin c.g.rep up (.inl (.inr rfl)) (c.g.pin a (.inl (.inr rfl))).1 st fun ob e=>(c.ext a ob e xB).1,fun b p=>?_,c.g.tk⟩,c.F.back up (.inl (.inr rfl)) (fun q=>nP (F1.useP q).1) fun b ub=>.inl (F1.useP ub).1,
  ⟨fun ob e n=>c.newD.1 ob e ((zR (na D (.inr (.inr rfl)))).trans n),fun q=>c.newD.2.1 (.inl q),c.newD.2.2⟩,fun ob e n=>c.newC ob e ((zR (na C (.inr (.inl rfl)))).trans n),c.noU,c.gens,c.os,c.tk,c.nsC⟩)
  ((ac D).keep _ _ _ _ _ ac5 (fun U x=>x) fun b ob e n=>⟨e,fun q=>n (Dm.back up (.inl (.inr rfl)) b q)⟩)
 ·have z:=c.g.base b ob e
  exact ⟨z.1,(zB fun q=>z.2.2 (.inl (.inr q))).trans z.2.1,fun q=>z.2.2 (up b q)⟩
 ·have z:=c.g.pin b (up b p)
  exact ⟨(zB (na b p)).trans z.1,z.2⟩
noncomputable def MK (ys:List AV) (H:zA) (Q:AV→zA→Prop):Prop:=Q (.lst ys) H∨∀ a,H a = none→Q (.ref a) (upd H a (.list ys))
noncomputable def MKD (kvs:List (Int×AV)) (H:zA) (Q:AV→zA→Prop):Prop:=Q (.idct (kvs.map (fun p=>p.1)) (kvs.map (fun p=>p.2))) H∨∀ a,H a = none→Q (.ref a) (upd H a (.idict kvs))
theorem wV.toF {P:Addr→Prop} {s:Shared} {D C:Addr} {s2:Shared} {H2:zA} (c:wV ρ env P (fun p=>p=D) s H m D C s2 H2):wV ρ env P (fun U=>False) s H m D C s2 H2:=by
 have st:zX (Dm H2 fun b=>P b∨b = C∨b = D) s2.heap (Dm H2 fun b=>P b∨b = C∨False) s2.heap:=fun b o e n=>⟨e,fun q=>n (q.elim .inl fun q=>.inr (q.elim .inl fun q=>.inr (q.elim .inl False.elim)))⟩
 refine ⟨c.ext,⟨fun b o e=>?_,fun b o e=>(c.g.rep b o e).at st (fun U x=>x) fun U d hd=>⟨hd,fun U x=>x⟩,fun b p=>c.g.pin b (p.elim .inl fun q=>.inr (q.elim .inl False.elim)),c.g.tk⟩,c.F.move st fun b ub o e=>⟨e,(c.F.useP ub).2.1,?_⟩,c.newD,c.newC,c.noU,c.gens,c.os,c.tk,c.nsC⟩
 ·obtain ⟨x,n,p⟩:=c.g.base b o e;exact ⟨x,n,fun q=>p (q.elim .inl fun q=>.inr (q.elim .inl False.elim))⟩
 ·rcases (c.F.useP ub).1 with q | q | q
  ·exact .inl q
  ·exact .inr (.inl q)
  ·exact absurd (q ▸ ub) c.noU
theorem wV.toM {P:Addr→Prop} {s:Shared} {D C:Addr} {s2:Shared} {H2:zA} {ao:AO} (c:wV ρ env P (fun p=>p=D) s H m D C s2 H2)
  (co:ConO ρ s2.heap (upd H2 D ao) (fun b=>P b∨b = C∨False) D ao):wV ρ env P (fun U=>False) s H m D C s2 (upd H2 D ao):=by
 have nD:H2 D = none:=(c.g.pin D (.inr (.inr rfl))).1
 have st:zX (Dm H2 fun b=>P b∨b = C∨b = D) s2.heap (Dm (upd H2 D ao) fun b=>P b∨b = C∨False) s2.heap:=fun b o e n=>⟨e,fun q=>by
  refine sealG ?_
  intro Gs
  rcases q with q | q | q | q
  ·by_cases hb:b = D
   ·exact n (.inr (.inr (.inr hb)))
   ·rw [zB hb] at q;exact n (.inl q)
  ·exact n (.inr (.inl q))
  ·exact n (.inr (.inr (.inl q)))
  ·exact q⟩
 refine ⟨fun a o e n=>?_,⟨fun b o e=>?_,fun b o e=>?_,fun b p=>?_,c.g.tk⟩,c.F.move st fun b ub o e=>⟨e,?_,?_⟩,c.newD,c.newC,c.noU,c.gens,c.os,c.tk,c.nsC⟩
 ·have z:=c.ext a o e n
  have hb:a ≠ D:=fun q=>by subst q;exact c.newD.1 o e n
  exact ⟨z.1,by rw [zB hb];exact z.2⟩
 ·refine sealG ?_
  intro Gs
  obtain ⟨x,n,p⟩:=c.g.base b o e
  have hb:b ≠ D:=fun q=>p (.inr (.inr q))
  exact ⟨x,by rw [zB hb];exact n,fun q=>p (q.elim .inl fun q=>.inr (q.elim .inl False.elim))⟩
 ·by_cases hb:b = D
  ·subst hb;rw [zC] at e;cases e;exact co
  ·rw [zB hb] at e
   refine (c.g.rep b o e).at st (fun U x=>x) fun U d hd=>⟨?_,fun U x=>x⟩
   have hdD:d ≠ D:=fun q=>by subst q;rw [nD] at hd;cases hd
   rw [zB hdD];exact hd
 ·have hb:b ≠ D:=fun q=>by
   subst q
   refine sealG ?_
   intro Gs
   rcases p with p | p | p
   ·exact c.newD.2.1 p
   ·exact c.newD.2.2 p
   ·exact p
  rw [zB hb]
  exact c.g.pin b (p.elim .inl fun q=>.inr (q.elim .inl False.elim))
 ·have hb:b ≠ D:=fun q=>c.noU (q ▸ ub)
  rw [zB hb];exact (c.F.useP ub).2.1
 ·refine sealG ?_
  intro Gs
  rcases (c.F.useP ub).1 with q | q | q
  ·exact .inl q
  ·exact .inr (.inl q)
  ·exact absurd (q ▸ ub) c.noU
theorem wV.value {P:Addr→Prop} {s:Shared} {D C:Addr} {s2:Shared} {H2:zA} (c:wV ρ env P (fun U=>False) s H m D C s2 H2) {h':Heap} (hs:Heap.SameBut C s2.heap h') :
  Fin ρ P s H { s2 with heap:=h' } H2∧zX (Dm H2 fun b=>P b∨b = C∨False) s2.heap (Dm H2 P) h':=by
 have st:zX (Dm H2 fun b=>P b∨b = C∨False) s2.heap (Dm H2 P) h':=fun b o e n=>⟨(hs.2 b fun q=>n (.inr (.inr (.inl q)))).trans e,fun q=>n (q.elim .inl fun q=>.inr (.inl q))⟩
 have nC:∀ b,H2 b ≠ none→b ≠ C:=fun b e q=>e (q ▸ (c.g.pin C (.inr (.inl rfl))).1)
 refine ⟨⟨fun a o e n=>?_,fun b o e=>(c.g.rep b o e).at st (fun ob=>fun x=>(hs.2 b (nC b (by rw [e];simp))).trans x) fun U d hd=>⟨hd,fun ob x=>(hs.2 d (nC d (by rw [hd];simp))).trans x⟩,c.gens,c.os,c.tk⟩,st⟩
 have z:=c.ext a o e n
 have hb:a ≠ C:=fun q=>by subst q;exact c.newC o e n
 exact ⟨(hs.2 a hb).trans z.1,z.2⟩
inductive CVal (ρ:Bs) (env:Env) (P:Addr→Prop) (s:Shared) (H:zA) (m:zN) (D C:Addr) (s2:Shared) (Q:AV→zA→Prop):Prop
 | mk:∀ av H3,wV ρ env P (fun U=>False) s H m D C s2 H3→xM ρ s2.heap (Dm H3 fun b=>P b∨b = C∨False) av (.ref D)→Q av H3→CVal ρ env P s H m D C s2 Q
inductive CAs (ρ:Bs) (env:Env) (P:Addr→Prop) (s:Shared) (H:zA) (Q:zA→zN→Prop) (s':Shared):Prop
 | mk:∀ H' m',sB ρ env P s H s' H'→zG ρ env P H' s'.heap m'→Q H' m'→CAs ρ env P s H Q s'
theorem wV.toFs {P:Addr→Prop} {D C:Addr} {s2:Shared} {H2:zA}:zX (Dm H2 fun b=>P b∨b = C∨b = D) s2.heap (Dm H2 fun b=>P b∨b = C∨False) s2.heap:=fun b o e n=>⟨e,fun q=>n (q.imp_right (.imp_right (.imp_right False.elim)))⟩
theorem wV.toMs {P:Addr→Prop} {D C:Addr} {s2:Shared} {H2:zA} {ao:AO}:zX (Dm H2 fun b=>P b∨b = C∨b = D) s2.heap (Dm (upd H2 D ao) fun b=>P b∨b = C∨False) s2.heap:=fun b o e n=>⟨e,fun q=>q.elim (fun q=>by
 by_cases hb:b = D
 ·exact n (.inr (.inr (.inr hb)))
 ·exact n (.inl fun e=>q ((zB hb).trans e))) fun q=>n (.inr (q.imp_right (.imp_right False.elim)))⟩
theorem wV.nD {P:Addr→Prop} {s:Shared} {D C:Addr} {s2:Shared} {H2:zA} (c:wV ρ env P (fun p=>p=D) s H m D C s2 H2):¬ Dm H2 (fun b=>P b∨b = C∨False) D:=fun x=>x.elim (fun x=>x (c.g.pin D (.inr (.inr rfl))).1) fun x=>x.elim c.newD.2.1 fun x=>x.elim c.newD.2.2 id
theorem wV.list {P:Addr→Prop} {s:Shared} {y:List AV} {D C:Addr} {s2:Shared} {H2:zA} {Q:AV→zA→Prop} (c:wV ρ env P (fun p=>p=D) s H m D C s2 H2) (ha:(qR D).at_ y s2.heap (Dm H2 fun b=>P b∨b = C∨b = D)) (q:MK y H2 Q) :
  CVal ρ env P s H m D C s2 Q:=by
 refine sealG ?_
 intro Gs
 obtain ⟨us,n,hd,cl⟩:=ha
 exact q.elim (fun q=>⟨.lst y,H2,c.toF,⟨D,us,n,rfl,c.nD,hd,cl.mono wV.toFs⟩,q⟩) fun q=>⟨.ref D,upd H2 D (.list y),c.toM ⟨us,n,hd,cl.mono wV.toMs⟩,rfl,q D (c.g.pin D (.inr (.inr rfl))).1⟩
theorem wV.dict {P:Addr→Prop} {s:Shared} {y:List (Int×AV)} {D C:Addr} {s2:Shared} {H2:zA} {Q:AV→zA→Prop} (c:wV ρ env P (fun p=>p=D) s H m D C s2 H2) (ha:(accD D).at_ y s2.heap (Dm H2 fun b=>P b∨b = C∨b = D)) (q:MKD y H2 Q) :
  CVal ρ env P s H m D C s2 Q:=by
 refine sealG ?_
 intro Gs
 obtain ⟨us,hsy,hd,hks,cl⟩:=ha
 exact q.elim (fun q=>⟨.idct (y.map (fun p=>p.1)) (y.map (fun p=>p.2)),H2,c.toF,⟨D,us,rfl,c.nD,hsy,hd,hks,cl.mono wV.toFs⟩,q⟩) fun q=>⟨.ref D,upd H2 D (.idict y),c.toM ⟨us,hsy,hd,hks,cl.mono wV.toMs⟩,rfl,q D (c.g.pin D (.inr (.inr rfl))).1⟩
theorem wV.use {P:Addr→Prop} {s:Shared} {D C:Addr} {s2 s3:Shared} {H2:zA} {m':zN} {Q:zA→zN→Prop} (c:wV ρ env P (fun U=>False) s H m D C s2 H2) (f:sB ρ env (fun b=>P b∨b = C∨False) s2 H2 s3 H2)
  (F':zG ρ env (fun b=>P b∨b = C∨False) H2 s3.heap m') (g:G ρ P H s) (F:zG ρ env P H s.heap m) (q:Q H2 m') :
  (∃ mm,s3.heap.Ns C mm)∧∀ h',Heap.SameBut C s3.heap h'→CAs ρ env P s H Q { s3 with heap:=h' }:=by
 have nUC:¬ rP env C:=fun u=>(F.useP u).2.2.elim fun o e=>c.newC o e (F.useP u).2.1
 have nC:H2 C = none:=(c.g.pin C (.inr (.inl rfl))).1
 have st:∀ {h'},Heap.SameBut C s3.heap h'→zX (Dm H2 fun b=>P b∨b = C∨False) s3.heap (Dm H2 P) h':=fun hs b o e n=>⟨(hs.2 b fun q=>n (.inr (.inr (.inl q)))).trans e,fun q=>n (q.imp_right .inl)⟩
 refine ⟨c.nsC.elim fun mm p=>p.elim fun o p=>p.elim fun es p=>p.elim fun ep p=>⟨mm,o,es,ep,(f.keep C o p.1 nC fun u=>nUC u.use).1,p.2⟩,fun h' hs=>⟨H2,m',⟨fun a o e n no=>?_,fun b o e=>(f.rep b o e).at (st hs) (fun ob x=>(hs.2 b (Ne.symm (zA.ne e nC))).trans x) fun U d hd=>⟨hd,fun ob x=>(hs.2 d (Ne.symm (zA.ne hd nC))).trans x⟩,f.gens.trans c.gens,f.os.trans c.os,Ah c.tk f.tk⟩,F'.move (st hs) fun a ua o e=>⟨(hs.2 a fun q=>nUC (q ▸ ua)).trans e,(F'.useP ua).2.1,(F.useP ua).1⟩,q⟩⟩
 have z:=c.ext a o e n
 have y:=f.keep a o z.1 z.2 no
 exact ⟨(hs.2 a fun q=>by subst q;exact c.newC o e n).trans y.1,y.2⟩
end
end
section
section
variable {l:Nat} {env:Env} {H:zA} {m:zN}
theorem AS.mono {t:Expr} {v:AV} {Q Q':zA→zN→Prop} (h:AS ρ l env t v H m Q) (k:∀ H m,Q H m→Q' H m):AS ρ l env t v H m Q':=.mk fun P s cv g F c A hA=>
 (h.out P s cv g F c).run hA fun U s' H' m' f F' q=>⟨H',m',f,F',k _ _ q⟩
theorem TR.mono {e:Expr} {Q Q':Bool→zA→Prop} (h:TR ρ l env e H m Q) (k:∀ b H,Q b H→Q' b H):TR ρ l env e H m Q':=.mk fun P s g F=>
 (h.out P s g F).mono fun b s' H' U q=>k b H' q
theorem TS.mono {ifs:List Expr} {Q Q':Bool→zA→Prop} (h:TS ρ l env ifs H m Q) (k:∀ b H,Q b H→Q' b H):TS ρ l env ifs H m Q':=by
 match ifs,h with
 | [],h=>exact k _ _ h
 | [c],h=>exact TR.mono h k
theorem hnewL:∀ A s (Q':Value→Shared→Prop),1 < s.heap.objs.size→(∀ D h',s.heap.get? D = none→(∃ o,h'.get? D = some o)→(∀ b o,s.heap.get? b = some o→h'.get? b = some o)→(∀ Dd,(qR D).at_ [] h' Dd)→Q' (.ref D) { s with heap:=h' })→wpAny ρ.M A (newList []) Q' (fun U U=>False) s:=fun A s Q' U k=>by
 refine wpAny_newList (k s.heap.objs.size _ ?_ ⟨_,Au _ rfl⟩ (fun b o e=>As _ e) fun Dd=>⟨[],0,Au _ rfl,rfl⟩) (by simp)
 cases q:s.heap.get? s.heap.objs.size with
 | none=>rfl
 | some o=>exact absurd (Aq q) (Ar _)
theorem hnewD:∀ A s (Q':Value→Shared→Prop),1 < s.heap.objs.size→(∀ D h',s.heap.get? D = none→(∃ o,h'.get? D = some o)→(∀ b o,s.heap.get? b = some o→h'.get? b = some o)→(∀ Dd,(accD D).at_ [] h' Dd)→Q' (.ref D) { s with heap:=h' })→wpAny ρ.M A newDict Q' (fun U U=>False) s:=fun A s Q' hb k=>by
 unfold newDict
 refine Bu (k s.heap.objs.size _ ?_ ⟨_,Au _ rfl⟩ (fun b o e=>As _ e) fun Dd=>⟨[],?_,Heap.DictOf.new (knd:=ρ.iK) s.heap,rfl,rfl⟩) (by show (0:Nat) ≤ _;exact Bv _)
 ·cases q:s.heap.get? s.heap.objs.size with
  | none=>rfl
  | some o=>exact absurd (Aq q) (Ar _)
 ·show (s.heap.objs.size == sysModules) = false
  rw [beq_eq_false_iff_ne]
  exact Nat.ne_of_gt hb
theorem pDxL:∀ {D} (g:List AV) h Dd,(qR D).at_ g h Dd→∃ o,h.get? D = some o:=fun g h Dd p1=>p1.elim fun U p2=>p2.elim fun U p3=>p3.elim fun e U=>⟨_,e⟩
theorem pDxD:∀ {D} (g:List (Int×AV)) h Dd,(accD D).at_ g h Dd→∃ o,h.get? D = some o:=fun g h Dd p1=>p1.elim fun U p2=>p2.elim fun U p3=>p3.elim fun p4 U=>p4.elim fun o p5=>p5.elim fun U p6=>p6.elim fun U p7=>p7.elim fun e U=>⟨o,e⟩
theorem CAs.done {P:Addr→Prop} {s s':Shared} {Q:AF→zA→zN→Prop} (c:CAs ρ env P s H (fun H m=>Q .nxt H m) s'):FRS ρ env P s H (PostF ρ P Q) .next s':=c.rec fun H' m' f F' q=>⟨H',m',f,F',.nxt,rfl,q⟩
theorem CVal.assign {P:Addr→Prop} {s s2:Shared} {D C:Addr} {A:Around} {x:Str} {p:Pos} {Q:AF→zA→zN→Prop} (v:CVal ρ env P s H m D C s2 fun av H3=>Q .nxt H3 (wA m x av)) (hA:sW l A) (g:G ρ P H s) (F:zG ρ env P H s.heap m) (hk:SK env x) :
  CUse ρ A (some (assign (.Name x p) env)) (fun U=>CAs ρ env P s H fun H m=>Q .nxt H m) D C s2:=by
 obtain ⟨av,H3,c3,cn,q3⟩:=v
 refine ((AS.name (l:=l) (p:=p) (Q:=fun H' m'=>H' = H3∧m' = wA m x av) ⟨rfl,rfl⟩ hk).out _ s2 _ c3.g c3.F cn).run hA fun U s3 H4 m4 f4 F4 e=>?_
 cases e.1;cases e.2
 exact c3.use f4 F4 g F (Q:=fun H m=>Q .nxt H m) q3
inductive C1 (ρ:Bs) (l:Nat) (env:Env) (tg:Expr) (ifs:List Expr) (elt:Expr) (scope:Scope) (cl:List (Str×Addr)) (cap:List Str) (v:AV) (H1:zA) (m:zN) (R:List AV→zA→Prop):Prop
 | mk:∀ xs,(yM ρ v xs tg)→∀ Inv:Nat→List AV→zA→zN→Prop,(Inv 0 [] H1 (capt cap m))→(∀ L i x ys H m,xs[i]? = some x→Inv i ys H m→AS ρ l (compEnvC scope cl L env) tg x H m fun H1 m1=>TS ρ l (compEnvC scope cl L env) ifs H1 m1 fun b H2=>if b then EX ρ l (compEnvC scope cl L env) elt H2 m1 fun y H3=>ys.length ≤ sizeLine∧Inv (i + 1) (ys ++ [y]) H3 m1 else Inv (i + 1) ys H2 m1)→(∀ ys H m,Inv xs.length ys H m→R ys H)→C1 ρ l env tg ifs elt scope cl cap v H1 m R
theorem loop1 {tg itx elt:Expr} {ifs:List Expr} {scope:Scope} {cl:List (Str×Addr)} {cap:List Str} {pos:Pos} {xs:List AV} {H1:zA} {R:List AV→zA→Prop} (Inv:Nat→List AV→zA→zN→Prop) (i0:Inv 0 [] H1 (capt cap m))
  (turn:∀ L i x ys H m,xs[i]? = some x→Inv i ys H m→AS ρ l (compEnvC scope cl L env) tg x H m fun H1 m1=>TS ρ l (compEnvC scope cl L env) ifs H1 m1 fun b H2=>
   if b then EX ρ l (compEnvC scope cl L env) elt H2 m1 fun y H3=>ys.length ≤ sizeLine∧Inv (i + 1) (ys ++ [y]) H3 m1 else Inv (i + 1) ys H2 m1)
  (done:∀ ys H m,Inv xs.length ys H m→R ys H) :
  CLoop ρ l env (.ListComp elt [⟨tg,itx,ifs,0⟩] scope pos) scope cl cap tg qR [] xs H1 m R:=fun P D C A wr kp I St s1 hA it hw hkp hD g F a0 st0=>by
 refine Bd (loopG (c:=.compLoop (.ListComp elt [⟨tg,itx,ifs,0⟩] scope pos) 0 (.ref I) (.ref D) (compEnvC scope cl C env)) (itx:=itx) (ifs:=ifs) (tg:=tg) (BT:=((do let _ ← PySem.call (.builtin "list.append") [.ref D,← eval elt (compEnvC scope cl C env)]) >>= fun U=>again (.compLoop (.ListComp elt [⟨tg,itx,ifs,0⟩] scope pos) 0 (.ref I) (.ref D) (compEnvC scope cl C env)))) rfl (fun Q' E s h=>?_) it hw hkp hD hA Inv (fun i x ys H m hx hi=>?_) i0 st0 g F a0) fun r s' hr=>?_
 ·show wpAny _ A ((compTurn (.ListComp elt [⟨tg,itx,ifs,0⟩] scope pos) 0 (.ref I) (.ref D) (compEnvC scope cl C env)).onRaise (fun x=>do noteFrame x (compEnvC scope cl C env);theTreesLotGoes x)) _ _ s
  refine wpAny_noted ?_
  rw [turn1];exact h
 ·exact (turn C i x ys H m hx hi).mono fun H1 m1 h1=>h1.mono fun b H2 h2=>by
   cases b with
   | false=>exact h2
   | true=>exact oR.list hD h2
 ·exact CRes.mono done hr
theorem vH (S:SF K ρ.base) {Q:AV→zA→Prop} {tg itx elt:Expr} {ifs:List Expr} {scope:Scope} {pos:Pos} {cl:List (Str×Addr)} (cap:List Str) (ok:vV scope env cl cap)
  (h:EX ρ l env itx H m fun v H1=>C1 ρ l env tg ifs elt scope cl cap v H1 m fun ys H2=>MK ys H2 Q)
  (hs:∀ x,foldedSetIterable itx env x = pure x:=by intro U;rfl):EX ρ l env (.ListComp elt [⟨tg,itx,ifs,0⟩] scope pos) H m Q:=.mk fun P s g F A hA=>by
 rw [eval_ListComp]
 refine qQ S (gc:=⟨tg,itx,ifs,0⟩) (ac:=qR) (g00:=[]) (use:=none) rfl hs ok ⟨codeAny_compStart_list,hnewL,pDxL⟩ hA g F (h.mono fun v H1 p1=>p1.rec fun xs hit Inv i0 turn done=>⟨xs,hit,_,loop1 Inv i0 turn done,fun y H2 D C s2 q ce ha=>?_⟩)
 refine sealG ?_
 intro Gs
 obtain ⟨av,H3,c3,cn,q3⟩:=ce.list ha q
 intro h' hs'
 refine sealG ?_
 intro Gs
 obtain ⟨f,st⟩:=c3.value hs'
 exact ⟨H3,f,av,cn.mono st,q3⟩
theorem tF (S:SF K ρ.base) {Q:AF→zA→zN→Prop} {x:Str} {p spos:Pos} {tg itx elt:Expr} {ifs:List Expr} {scope:Scope} {pos:Pos} {cl:List (Str×Addr)} (cap:List Str) (ok:vV scope env cl cap) (hk:SK env x)
  (h:EX ρ l env itx H m fun v H1=>C1 ρ l env tg ifs elt scope cl cap v H1 m fun ys H2=>MK ys H2 fun av H3=>Q .nxt H3 (wA m x av))
  (hsw:autoParam (swapsWith (.ListComp elt [⟨tg,itx,ifs,0⟩] scope pos) (some (.Name x p)) spos.line env = pure true) rt)
  (hs:∀ x,foldedSetIterable itx env x = pure x:=by intro U;rfl):S1 ρ l env (.Assign [.Name x p] (.ListComp elt [⟨tg,itx,ifs,0⟩] scope pos) spos) H m Q:=.mk fun P s g F A hA=>by
 rw [exec_Assign_Name_used _ _ _ _ hsw]
 refine Ak (Al (Ak ?_))
 show wpAny _ A (do let _ ← comprehension (.ListComp elt [⟨tg,itx,ifs,0⟩] scope pos) scope env _ (newList []) false (eval itx env) (some (assign (.Name x p) env))) _ _ s
 refine Ak (Ai (qQ S (gc:=⟨tg,itx,ifs,0⟩) (ac:=qR) (g00:=[]) (use:=some (assign (.Name x p) env)) (Q':=fun U=>CAs ρ env P s H fun H m=>Q .nxt H m) rfl hs ok ⟨codeAny_compStart_list,hnewL,pDxL⟩ hA g F (h.mono fun v H1 ⟨xs,hit,Inv,i0,turn,done⟩=>⟨xs,hit,_,loop1 Inv i0 turn done,fun y H2 D C s2 q ce ha=>?_⟩)) (fun U s' p=>Aj (Aj p.done)) fun U U x=>x)
 exact (ce.list ha q).assign hA g F hk
inductive C1L (ρ:Bs) (l:Nat) (env:Env) (tg:Expr) (ifs:List Expr) (elt:Expr) (scope:Scope) (cl:List (Str×Addr)) (cap:List Str) (v:AV) (H1:zA) (m:zN) (R:List AV→zA→Prop):Prop
 | mk:∀ a o xs,(v = .ref a)→(H1 a = some o)→(∀ x,o ≠ .attrs x)→(∀ C dx fs,o ≠ .inst C dx fs)→(sQ ρ a o xs tg)→∀ Inv:Nat→List AV→zA→zN→Prop,(Inv 0 [] (del H1 a) (capt cap m))→(∀ L i x ys H m,xs[i]? = some x→Inv i ys H m→AS ρ l (compEnvC scope cl L env) tg x H m fun H1 m1=>TS ρ l (compEnvC scope cl L env) ifs H1 m1 fun b H2=>if b then EX ρ l (compEnvC scope cl L env) elt H2 m1 fun y H3=>ys.length ≤ sizeLine∧Inv (i + 1) (ys ++ [y]) H3 m1 else Inv (i + 1) ys H2 m1)→(∀ ys H m,Inv xs.length ys H m→R ys (upd H a o))→C1L ρ l env tg ifs elt scope cl cap v H1 m R
theorem S1.comp1L (S:SF K ρ.base) {Q:AF→zA→zN→Prop} {x:Str} {p spos:Pos} {tg itx elt:Expr} {ifs:List Expr} {scope:Scope} {pos:Pos} {cl:List (Str×Addr)} (cap:List Str) (ok:vV scope env cl cap) (hk:SK env x)
  (h:EX ρ l env itx H m fun v H1=>C1L ρ l env tg ifs elt scope cl cap v H1 m fun ys H2=>MK ys H2 fun av H3=>Q .nxt H3 (wA m x av))
  (hsw:autoParam (swapsWith (.ListComp elt [⟨tg,itx,ifs,0⟩] scope pos) (some (.Name x p)) spos.line env = pure true) rt)
  (hs:∀ x,foldedSetIterable itx env x = pure x:=by intro U;rfl):S1 ρ l env (.Assign [.Name x p] (.ListComp elt [⟨tg,itx,ifs,0⟩] scope pos) spos) H m Q:=.mk fun P s g F A hA=>by
 rw [exec_Assign_Name_used _ _ _ _ hsw]
 refine Ak (Al (Ak ?_))
 show wpAny _ A (do let _ ← comprehension (.ListComp elt [⟨tg,itx,ifs,0⟩] scope pos) scope env _ (newList []) false (eval itx env) (some (assign (.Name x p) env))) _ _ s
 refine Ak (Ai (compAllL S (gc:=⟨tg,itx,ifs,0⟩) (ac:=qR) (g00:=[]) (use:=some (assign (.Name x p) env)) (Q':=fun U=>CAs ρ env P s H fun H m=>Q .nxt H m) rfl hs ok ⟨codeAny_compStart_list,hnewL,pDxL⟩ hA g F (h.mono fun v H1 ⟨a,o,xs,ea,ho,hat,hins,hit,Inv,i0,turn,done⟩=>⟨a,o,xs,ea,ho,hat,hins,hit,_,loop1 Inv i0 turn done,fun y H2 D C s2 q U ce ha=>?_⟩)) (fun U s' p=>Aj (Aj p.done)) fun U U x=>x)
 exact (ce.list ha q).assign hA g F hk
inductive CD (ρ:Bs) (l:Nat) (env:Env) (tg:Expr) (ifs:List Expr) (ke ve:Expr) (scope:Scope) (cl:List (Str×Addr)) (cap:List Str) (v:AV) (H1:zA) (m:zN) (R:List (Int×AV)→zA→Prop):Prop
 | mk:∀ xs,(yM ρ v xs tg)→∀ Inv:Nat→List (Int×AV)→zA→zN→Prop,(Inv 0 [] H1 (capt cap m))→(∀ L i x ys H m,xs[i]? = some x→Inv i ys H m→AS ρ l (compEnvC scope cl L env) tg x H m fun H1 m1=>TS ρ l (compEnvC scope cl L env) ifs H1 m1 fun b H2=>if b then EX ρ l (compEnvC scope cl L env) ke H2 m1 fun k H3=>EX ρ l (compEnvC scope cl L env) ve H3 m1 fun y H4=>∃ j,k = .int j∧ys.length ≤ sizeLine∧j ∉ ys.map (fun p=>p.1)∧Inv (i + 1) (ys ++ [(j,y)]) H4 m1 else Inv (i + 1) ys H2 m1)→(∀ ys H m,Inv xs.length ys H m→R ys H)→CD ρ l env tg ifs ke ve scope cl cap v H1 m R
theorem loopD {tg itx ke ve:Expr} {ifs:List Expr} {scope:Scope} {cl:List (Str×Addr)} {cap:List Str} {pos:Pos} {xs:List AV} {H1:zA} {R:List (Int×AV)→zA→Prop} (Inv:Nat→List (Int×AV)→zA→zN→Prop) (i0:Inv 0 [] H1 (capt cap m))
  (turn:∀ L i x ys H m,xs[i]? = some x→Inv i ys H m→AS ρ l (compEnvC scope cl L env) tg x H m fun H1 m1=>TS ρ l (compEnvC scope cl L env) ifs H1 m1 fun b H2=>
   if b then EX ρ l (compEnvC scope cl L env) ke H2 m1 fun k H3=>EX ρ l (compEnvC scope cl L env) ve H3 m1 fun y H4=>∃ j,k = .int j∧ys.length ≤ sizeLine∧j ∉ ys.map (fun p=>p.1)∧Inv (i + 1) (ys ++ [(j,y)]) H4 m1 else Inv (i + 1) ys H2 m1)
  (done:∀ ys H m,Inv xs.length ys H m→R ys H) :
  CLoop ρ l env (.DictComp ke ve [⟨tg,itx,ifs,0⟩] scope pos) scope cl cap tg accD [] xs H1 m R:=fun P D C A wr kp I St s1 hA it hw hkp hD g F a0 st0=>by
 refine Bd (loopG (c:=.compLoop (.DictComp ke ve [⟨tg,itx,ifs,0⟩] scope pos) 0 (.ref I) (.ref D) (compEnvC scope cl C env)) (itx:=itx) (ifs:=ifs) (tg:=tg) (BT:=((do
     let kv ← eval ke (compEnvC scope cl C env)
     let vv ← PySem.holding [kv] (eval ve (compEnvC scope cl C env))
     PySem.standAt { ke.pos with endLine:=ve.pos.endLine,endCol:=ve.pos.endCol }
     PySem.holding [kv,vv] (dictSet D kv vv)) >>= fun U=>again (.compLoop (.DictComp ke ve [⟨tg,itx,ifs,0⟩] scope pos) 0 (.ref I) (.ref D) (compEnvC scope cl C env)))) rfl (fun Q' E s h=>?_) it hw hkp hD hA Inv (fun i x ys H m hx hi=>?_) i0 st0 g F a0) fun r s' hr=>?_
 ·show wpAny _ A ((compTurn (.DictComp ke ve [⟨tg,itx,ifs,0⟩] scope pos) 0 (.ref I) (.ref D) (compEnvC scope cl C env)).onRaise (fun x=>do noteFrame x (compEnvC scope cl C env);theTreesLotGoes x)) _ _ s
  refine wpAny_noted ?_
  rw [turnD];exact h
 ·exact (turn C i x ys H m hx hi).mono fun H1 m1 h1=>h1.mono fun b H2 h2=>by
   cases b with
   | false=>exact h2
   | true=>exact oR.dict hD h2
 ·exact CRes.mono done hr
theorem EX.compD (S:SF K ρ.base) {Q:AV→zA→Prop} {tg itx ke ve:Expr} {ifs:List Expr} {scope:Scope} {pos:Pos} {cl:List (Str×Addr)} (cap:List Str) (ok:vV scope env cl cap)
  (h:EX ρ l env itx H m fun v H1=>CD ρ l env tg ifs ke ve scope cl cap v H1 m fun ys H2=>MKD ys H2 Q)
  (hs:∀ x,foldedSetIterable itx env x = pure x:=by intro U;rfl):EX ρ l env (.DictComp ke ve [⟨tg,itx,ifs,0⟩] scope pos) H m Q:=.mk fun P s g F A hA=>by
 refine qQ S (gc:=⟨tg,itx,ifs,0⟩) (ac:=accD) (g00:=[]) (use:=none) rfl hs ok ⟨codeAny_compStart_dict,hnewD,pDxD⟩ hA g F (h.mono fun v H1 p1=>p1.rec fun xs hit Inv i0 turn done=>⟨xs,hit,_,loopD Inv i0 turn done,fun y H2 D C s2 q ce ha=>?_⟩)
 refine sealG ?_
 intro Gs
 obtain ⟨av,H3,c3,cn,q3⟩:=ce.dict ha q
 intro h' hs'
 refine sealG ?_
 intro Gs
 obtain ⟨f,st⟩:=c3.value hs'
 exact ⟨H3,f,av,cn.mono st,q3⟩
theorem S1.compD (S:SF K ρ.base) {Q:AF→zA→zN→Prop} {x:Str} {p spos:Pos} {tg itx ke ve:Expr} {ifs:List Expr} {scope:Scope} {pos:Pos} {cl:List (Str×Addr)} (cap:List Str) (ok:vV scope env cl cap) (hk:SK env x)
  (h:EX ρ l env itx H m fun v H1=>CD ρ l env tg ifs ke ve scope cl cap v H1 m fun ys H2=>MKD ys H2 fun av H3=>Q .nxt H3 (wA m x av))
  (hsw:autoParam (swapsWith (.DictComp ke ve [⟨tg,itx,ifs,0⟩] scope pos) (some (.Name x p)) spos.line env = pure true) rt)
  (hs:∀ x,foldedSetIterable itx env x = pure x:=by intro U;rfl):S1 ρ l env (.Assign [.Name x p] (.DictComp ke ve [⟨tg,itx,ifs,0⟩] scope pos) spos) H m Q:=.mk fun P s g F A hA=>by
 rw [exec_Assign_Name_used _ _ _ _ hsw]
 refine Ak (Al (Ak ?_))
 show wpAny _ A (do let _ ← comprehension (.DictComp ke ve [⟨tg,itx,ifs,0⟩] scope pos) scope env _ newDict false (eval itx env) (some (assign (.Name x p) env))) _ _ s
 refine Ak (Ai (qQ S (gc:=⟨tg,itx,ifs,0⟩) (ac:=accD) (g00:=[]) (use:=some (assign (.Name x p) env)) (Q':=fun U=>CAs ρ env P s H fun H m=>Q .nxt H m) rfl hs ok ⟨codeAny_compStart_dict,hnewD,pDxD⟩ hA g F (h.mono fun v H1 ⟨xs,hit,Inv,i0,turn,done⟩=>⟨xs,hit,_,loopD Inv i0 turn done,fun y H2 D C s2 q ce ha=>?_⟩)) (fun U s' p=>Aj (Aj p.done)) fun U U x=>x)
 exact (ce.dict ha q).assign hA g F hk
theorem rY {A:Around} {R:Result→Shared→Prop} {s:Shared} {elt:Expr} {g0:Comprehension} {t2 i2:Expr} {ifs2:List Expr} {scope:Scope} {pos:Pos} {it acc:Value} {env':Env}
  (h0:codeAny ρ.M A (.compLoop (.ListComp elt [g0,⟨t2,i2,ifs2,0⟩] scope pos) 1 it acc env') R s)
  (h:wpAny ρ.M A (pyIter it) (fun it' s'=>codeAny ρ.M A (.compLoop (.ListComp elt [g0,⟨t2,i2,ifs2,0⟩] scope pos) 1 it' acc env') R s') (notedBy ρ.M A env' fun x s'=>R (.error x) s') s) :
  codeAny ρ.M A (.compStart (.ListComp elt [g0,⟨t2,i2,ifs2,0⟩] scope pos) 1 it acc env') R s:=by
 refine codeAny_of_tree ?_
 show wpAny _ _ ((compStart (.ListComp elt [g0,⟨t2,i2,ifs2,0⟩] scope pos) 1 it acc env').onRaise (fun x=>do noteFrame x env';PySem.standAt theWindowsPlace)) _ _ s
 refine wpAny_notedAt ?_
 unfold compStart
 show wpAny _ _ (ask >>= _) _ _ s
 refine Ak (Bw (wpAny_ite ?_))
 split
 ·first
   | exact Ak (Aj (Aj (And.intro rfl h0)))
   | exact Aj (And.intro rfl h0)
 ·first
   | exact Ak (Bx (Ak (Al (Ak (Ai h (fun it' s' h'=>Aj (And.intro rfl h')) fun U U x=>x)))))
   | (refine Ak (Bx ?_);show wpAny _ _ (PySem.standAt i2.pos >>= _) _ _ s;exact Ak (Al (Ak (Ai h (fun it' s' h'=>Aj (And.intro rfl h')) fun U U x=>x))))
theorem oR.nest {P:Addr→Prop} {D:Addr} {elt tg itx t2 i2:Expr} {ifs ifs2:List Expr} {scope:Scope} {pos:Pos} {c:Code} {ys:List AV} {Q:List AV→zA→zN→Prop} (hD:P D∧¬ rP env D)
  (hf:∀ x,foldedSetIterable i2 env x = pure x)
  (h:EX ρ l env i2 H m fun v H1=>∃ xs,yM ρ v xs t2∧∃ Inv:Nat→List AV→zA→zN→Prop,Inv 0 ys H1 m ∧
   (∀ i x ys H m,xs[i]? = some x→Inv i ys H m→AS ρ l env t2 x H m fun H1 m1=>TS ρ l env ifs2 H1 m1 fun b H2=>if b then EX ρ l env elt H2 m1 fun y H3=>ys.length ≤ sizeLine∧Inv (i + 1) (ys ++ [y]) H3 m1 else Inv (i + 1) ys H2 m1) ∧
   ∀ ys H m,Inv xs.length ys H m→Q ys H m) :
  oR ρ l env P D (qR D) c (eval i2 env >>= fun x=>PySem.standAt i2.pos >>= fun U=>foldedSetIterable i2 env x >>= fun x=>PySem.holding [x] (pyIter x) >>= fun it2=>runOwn (.compStart (.ListComp elt [⟨tg,itx,ifs,0⟩,⟨t2,i2,ifs2,0⟩] scope pos) 1 it2 (.ref D) env) env >>= fun U=>again c) ys H m Q:=fun A s hA g F a0=>by
 refine Ak ((h.out P s g F).run hA fun v s1 H1 f1 hq=>?_)
 refine sealG ?_
 intro Gs
 obtain ⟨av,c1,xs,hit,Inv,i0,turn,done⟩:=hq
 have g1:=g.fin f1
 have F1:=F.ext f1.ext
 refine Ak (Al (Ak (wpAny_of_eq (hf v) (Ak (Am ?_)))))
 refine hit.out l P H1 s1 v A _ hA g1 c1 fun I wr h1 hI hk hw=>?_
 let P':Addr→Prop:=fun a=>P a∨a∈wr
 refine sealG ?_
 intro Gs
 obtain ⟨St,it,st0⟩:=hI P' (fun U x=>x) fun a q=>q.elim .inl fun q=>.inr (hw a q).1
 have g2:=g1.more (P':=P') (fun U=>Iff.rfl) hk hw
 have no:∀ a,rP env a→a ∉ wr:=fun a oa q=>by obtain ⟨U,U,o,e⟩:=F1.useP oa;rw [(hw a q).1] at e;cases e
 have st12:zX (Dm H1 P) s1.heap (Dm H1 P') h1:=fun a o e n=>⟨hk a o e,fun q=>q.elim (fun q=>n (.inl q)) fun q=>q.elim (fun q=>n (.inr q)) fun q=>by rw [(hw a q).1] at e;cases e⟩
 have F2:zG ρ env P' H1 h1 m:=F1.move st12 fun a oa o e=>⟨hk a o e,(F1.useP oa).2.1,.inl (F1.useP oa).1⟩
 have nD:H D = none:=(g.pin D hD.1).1
 obtain ⟨us,n,hd,cl⟩:=a0
 have hd1:=(f1.ext D _ hd nD).1
 have hDw:D ∉ wr:=fun q=>by rw [(hw D q).1] at hd1;cases hd1
 have a2:(qR D).at_ ys h1 (Dm H1 P'):=⟨us,n,hk _ _ hd1,(cl.mono f1.ext.stays).mono st12⟩
 refine Ak (wpAny_runOwn (h:=none) ?_)
 have loop:codeAny ρ.M A (.compLoop (.ListComp elt [⟨tg,itx,ifs,0⟩,⟨t2,i2,ifs2,0⟩] scope pos) 1 (.ref I) (.ref D) env) (CRes ρ env P' D (qR D) wr { s1 with heap:=h1 } H1 (Inv xs.length)) { s1 with heap:=h1 }:=by
  refine loopG (BT:=((do let _ ← PySem.call (.builtin "list.append") [.ref D,← eval elt env]) >>= fun U=>again (.compLoop (.ListComp elt [⟨tg,itx,ifs,0⟩,⟨t2,i2,ifs2,0⟩] scope pos) 1 (.ref I) (.ref D) env))) (itx:=i2) (ifs:=ifs2) (tg:=t2) rfl (fun Q' E s h=>?_) it (fun b q=>⟨.inr q,fun u=>no b u q,fun e=>by subst e;exact hDw q⟩) (fun b q=>⟨.inr q,fun u=>no b u.use q,fun e=>by subst e;exact hDw q⟩) ⟨.inl hD.1,hD.2⟩ hA Inv (fun i x ys H m hx hi=>?_) i0 (st0 _ fun U U x=>x) g2 F2 a2
  ·show wpAny _ A ((compTurn (.ListComp elt [⟨tg,itx,ifs,0⟩,⟨t2,i2,ifs2,0⟩] scope pos) 1 (.ref I) (.ref D) env).onRaise (fun x=>do noteFrame x env;theTreesLotGoes x)) _ _ s
   refine wpAny_noted ?_
   rw [turn21];exact h
  ·exact (turn i x ys H m hx hi).mono fun H1 m1 h1=>h1.mono fun b H2 h2=>by
    cases b with
    | false=>exact h2
    | true=>exact oR.list ⟨.inl hD.1,hD.2⟩ h2
 refine Bd (rY (A:=A.mark none) loop (it.self 0 _ _ H1 _ _ (st0 _ fun U U x=>x) loop)) fun r s3 hr=>?_
 cases r with
 | error e=>exact hr.elim
 | ok f=>
  refine sealG ?_
  intro Gs
  obtain ⟨rfl,ys',H3,m3,q3,rep3,F3,a3,W3,pn3⟩:=hr
  have st3:zX (Dm H3 P') s3.heap (Dm H3 P) s3.heap:=fun a o e n=>⟨e,fun q=>n (q.elim .inl fun q=>.inr (.inl q))⟩
  have k13:∀ b o,s1.heap.get? b = some o→H1 b = none→¬ Own env b→b ≠ D→s3.heap.get? b = some o∧H3 b = none:=fun b o e n no' nd=>by
   refine W3.keep b o (hk b o e) n no' fun q=>?_
   refine sealG ?_
   intro Gs
   rcases Be.mp q with q | q
   ·exact nd q
   ·rw [(hw b q).1] at e;cases e
  refine Aj ⟨rfl,ys',H3,m3,⟨fun b o e n no' nw=>?_,W3.gens.trans f1.gens,W3.os.trans f1.os,Ah f1.tk W3.tk⟩,⟨fun b o e=>?_,fun b o e=>(rep3 b o e).at st3 (fun U x=>x) fun U d hd=>⟨hd,fun U x=>x⟩,fun b p=>?_,An g.tk (Ah f1.tk W3.tk)⟩,F3.move st3 fun a ua o e=>⟨e,(F3.useP ua).2.1,(F.useP ua).1⟩,(qR D).keep _ _ _ _ _ a3 (fun U x=>x) st3,done _ _ _ q3⟩
  ·have z:=f1.ext b o e n
   exact k13 b o z.1 z.2 no' fun q=>nw (q ▸ .head _)
  ·refine sealG ?_
   intro Gs
   obtain ⟨x,n,p⟩:=g1.base b o e
   have z:=k13 b o x n (fun q=>p (F1.ownP q).1) fun q=>p (q ▸ hD.1)
   exact ⟨z.1,z.2,p⟩
  ·refine ⟨pn3 b (.inl p),?_⟩
   by_cases hb:b = D
   ·subst hb;obtain ⟨U,U,e,U⟩:=a3;exact ⟨_,e⟩
   ·by_cases ho:Own env b
    ·exact (F3.ownP ho).2.2
    ·refine sealG ?_
     intro Gs
     obtain ⟨n,o,e⟩:=g1.pin b p
     exact ⟨o,(k13 b o e n ho hb).1⟩
inductive C2 (ρ:Bs) (l:Nat) (env:Env) (tg:Expr) (ifs:List Expr) (t2 i2:Expr) (ifs2:List Expr) (elt:Expr) (scope:Scope) (cl:List (Str×Addr)) (cap:List Str) (v:AV) (H1:zA) (m:zN) (R:List AV→zA→Prop):Prop
 | mk:∀ xs,(yM ρ v xs tg)→∀ Inv:Nat→List AV→zA→zN→Prop,(Inv 0 [] H1 (capt cap m))→(∀ L i x ys H m,xs[i]? = some x→Inv i ys H m→AS ρ l (compEnvC scope cl L env) tg x H m fun H1 m1=>TS ρ l (compEnvC scope cl L env) ifs H1 m1 fun b H2=>if b then EX ρ l (compEnvC scope cl L env) i2 H2 m1 fun v H3=>∃ xs2,yM ρ v xs2 t2∧∃ Inv2:Nat→List AV→zA→zN→Prop,Inv2 0 ys H3 m1∧(∀ i x ys H m,xs2[i]? = some x→Inv2 i ys H m→AS ρ l (compEnvC scope cl L env) t2 x H m fun H1 m1=>TS ρ l (compEnvC scope cl L env) ifs2 H1 m1 fun b H2=>if b then EX ρ l (compEnvC scope cl L env) elt H2 m1 fun y H3=>ys.length ≤ sizeLine∧Inv2 (i + 1) (ys ++ [y]) H3 m1 else Inv2 (i + 1) ys H2 m1)∧∀ ys H m,Inv2 xs2.length ys H m→Inv (i + 1) ys H m else Inv (i + 1) ys H2 m1)→(∀ ys H m,Inv xs.length ys H m→R ys H)→C2 ρ l env tg ifs t2 i2 ifs2 elt scope cl cap v H1 m R
theorem loop2 {tg itx elt t2 i2:Expr} {ifs ifs2:List Expr} {scope:Scope} {cl:List (Str×Addr)} {cap:List Str} {pos:Pos} {xs:List AV} {H1:zA} {R:List AV→zA→Prop} (Inv:Nat→List AV→zA→zN→Prop) (i0:Inv 0 [] H1 (capt cap m))
  (hf:∀ L x,foldedSetIterable i2 (compEnvC scope cl L env) x = pure x)
  (turn:∀ L i x ys H m,xs[i]? = some x→Inv i ys H m→AS ρ l (compEnvC scope cl L env) tg x H m fun H1 m1=>TS ρ l (compEnvC scope cl L env) ifs H1 m1 fun b H2=>
   if b then EX ρ l (compEnvC scope cl L env) i2 H2 m1 fun v H3=>∃ xs2,yM ρ v xs2 t2∧∃ Inv2:Nat→List AV→zA→zN→Prop,Inv2 0 ys H3 m1 ∧
    (∀ i x ys H m,xs2[i]? = some x→Inv2 i ys H m→AS ρ l (compEnvC scope cl L env) t2 x H m fun H1 m1=>TS ρ l (compEnvC scope cl L env) ifs2 H1 m1 fun b H2=>
     if b then EX ρ l (compEnvC scope cl L env) elt H2 m1 fun y H3=>ys.length ≤ sizeLine∧Inv2 (i + 1) (ys ++ [y]) H3 m1 else Inv2 (i + 1) ys H2 m1) ∧
    ∀ ys H m,Inv2 xs2.length ys H m→Inv (i + 1) ys H m
   else Inv (i + 1) ys H2 m1)
  (done:∀ ys H m,Inv xs.length ys H m→R ys H) :
  CLoop ρ l env (.ListComp elt [⟨tg,itx,ifs,0⟩,⟨t2,i2,ifs2,0⟩] scope pos) scope cl cap tg qR [] xs H1 m R:=fun P D C A wr kp I St s1 hA it hw hkp hD g F a0 st0=>by
 refine Bd (loopG (c:=.compLoop (.ListComp elt [⟨tg,itx,ifs,0⟩,⟨t2,i2,ifs2,0⟩] scope pos) 0 (.ref I) (.ref D) (compEnvC scope cl C env)) (itx:=itx) (ifs:=ifs) (tg:=tg)
  (BT:=(eval i2 (compEnvC scope cl C env) >>= fun x=>PySem.standAt i2.pos >>= fun U=>foldedSetIterable i2 (compEnvC scope cl C env) x >>= fun x=>PySem.holding [x] (pyIter x) >>= fun it2=>runOwn (.compStart (.ListComp elt [⟨tg,itx,ifs,0⟩,⟨t2,i2,ifs2,0⟩] scope pos) 1 it2 (.ref D) (compEnvC scope cl C env)) (compEnvC scope cl C env) >>= fun U=>again (.compLoop (.ListComp elt [⟨tg,itx,ifs,0⟩,⟨t2,i2,ifs2,0⟩] scope pos) 0 (.ref I) (.ref D) (compEnvC scope cl C env)))) rfl (fun Q' E s h=>?_) it hw hkp hD hA Inv (fun i x ys H m hx hi=>?_) i0 st0 g F a0) fun r s' hr=>?_
 ·show wpAny _ A ((compTurn (.ListComp elt [⟨tg,itx,ifs,0⟩,⟨t2,i2,ifs2,0⟩] scope pos) 0 (.ref I) (.ref D) (compEnvC scope cl C env)).onRaise (fun x=>do noteFrame x (compEnvC scope cl C env);theTreesLotGoes x)) _ _ s
  refine wpAny_noted ?_
  rw [turn20];exact h
 ·exact (turn C i x ys H m hx hi).mono fun H1 m1 h1=>h1.mono fun b H2 h2=>by
   cases b with
   | false=>exact h2
   | true=>exact oR.nest hD (hf C) h2
 ·exact CRes.mono done hr
theorem S1.comp2 (S:SF K ρ.base) {Q:AF→zA→zN→Prop} {x:Str} {p spos:Pos} {tg itx elt t2 i2:Expr} {ifs ifs2:List Expr} {scope:Scope} {pos:Pos} {cl:List (Str×Addr)} (cap:List Str) (ok:vV scope env cl cap) (hk:SK env x)
  (h:EX ρ l env itx H m fun v H1=>C2 ρ l env tg ifs t2 i2 ifs2 elt scope cl cap v H1 m fun ys H2=>MK ys H2 fun av H3=>Q .nxt H3 (wA m x av))
  (hf:∀ L x,foldedSetIterable i2 (compEnvC scope cl L env) x = pure x:=by intro U U;rfl)
  (hsw:autoParam (swapsWith (.ListComp elt [⟨tg,itx,ifs,0⟩,⟨t2,i2,ifs2,0⟩] scope pos) (some (.Name x p)) spos.line env = pure true) rt)
  (hs:∀ x,foldedSetIterable itx env x = pure x:=by intro U;rfl):S1 ρ l env (.Assign [.Name x p] (.ListComp elt [⟨tg,itx,ifs,0⟩,⟨t2,i2,ifs2,0⟩] scope pos) spos) H m Q:=.mk fun P s g F A hA=>by
 rw [exec_Assign_Name_used _ _ _ _ hsw]
 refine Ak (Al (Ak ?_))
 show wpAny _ A (do let _ ← comprehension (.ListComp elt [⟨tg,itx,ifs,0⟩,⟨t2,i2,ifs2,0⟩] scope pos) scope env _ (newList []) false (eval itx env) (some (assign (.Name x p) env))) _ _ s
 refine Ak (Ai (qQ S (gc:=⟨tg,itx,ifs,0⟩) (ac:=qR) (g00:=[]) (use:=some (assign (.Name x p) env)) (Q':=fun U=>CAs ρ env P s H fun H m=>Q .nxt H m) rfl hs ok ⟨codeAny_compStart_list,hnewL,pDxL⟩ hA g F (h.mono fun v H1 ⟨xs,hit,Inv,i0,turn,done⟩=>⟨xs,hit,_,loop2 Inv i0 hf turn done,fun y H2 D C s2 q ce ha=>?_⟩)) (fun U s' p=>Aj (Aj p.done)) fun U U x=>x)
 exact (ce.list ha q).assign hA g F hk
end
end
section
section
variable {l:Nat} {H:zA} {Q:AV→zA→Prop} {B:Bool→zA→Prop}
theorem G.tok {P s n} (g:G ρ P H s) (htk:s.toks ≤ n):Fin ρ P s H { s with toks:=n } H:=⟨.refl,g.rep,rfl,rfl,htk⟩
theorem xW.add {a b:Int} (q:Q (.int (a + b)) H):xW ρ l .Add (.int a) (.int b) H Q:=by
 refine .mk ?_
 rintro P s U U g ⟨t,rfl⟩ ⟨u,rfl⟩ A hA
 exact add_int ⟨H,g.tok (Nat.le_succ _),.int _,⟨_,rfl⟩,q⟩
theorem xW.subt {a b:Int} (q:Q (.int (a - b)) H):xW ρ l .Sub (.int a) (.int b) H Q:=by
 refine .mk ?_
 rintro P s U U g ⟨t,rfl⟩ ⟨u,rfl⟩ A hA
 exact sub_int ⟨H,g.tok (Nat.le_succ _),.int _,⟨_,rfl⟩,q⟩
theorem qX {a b:Int} (hm:IntMulOk a b) (q:Q (.int (a * b)) H):xW ρ l .Mult (.int a) (.int b) H Q:=by
 refine .mk ?_
 rintro P s U U g ⟨t,rfl⟩ ⟨u,rfl⟩ A hA
 exact mul_int ⟨H,g.tok (Nat.le_succ _),.int _,⟨_,rfl⟩,q⟩ hm
theorem xW.mod {a b:Int} (hb:0 < b) (q:Q (.int (a % b)) H):xW ρ l .Mod (.int a) (.int b) H Q:=by
 refine .mk ?_
 rintro P s U U g ⟨t,rfl⟩ ⟨u,rfl⟩ A hA
 exact mod_int' (by exact ω409 hb) ⟨H,g.tok (Nat.le_succ _),.int _,⟨_,rfl⟩,by rw [Int.fmod_eq_emod_of_nonneg _ (by exact zw 0 1 0 1 77688193402601492 rfl hb)];exact q⟩
theorem xW.div {a b:Int} (hb:0 < b) (hb':b < 1073741824) (q:Q (.int (a / b)) H):xW ρ l .FloorDiv (.int a) (.int b) H Q:=by
 refine .mk ?_
 rintro P s U U g ⟨t,rfl⟩ ⟨u,rfl⟩ A hA
 exact floordiv_int (by exact zw 0 1 0 2 0x10106010105640000000810104010014 rfl hb hb') ⟨H,g.tok (Nat.le_succ _),.int _,⟨_,rfl⟩,by rw [Int.fdiv_eq_ediv_of_nonneg _ (by exact zw 0 1 0 2 0x110501001340000000810104010014 rfl hb hb')];exact q⟩ (.inl (PyProof.noPylong_small (Int.ofNat_lt.mp (by rw [Int.natAbs_of_nonneg (Int.le_of_lt hb)];exact hb'))))
theorem xV {x y:Str} (hz:x.length + y.length ≤ sizeLine) (q:Q (.str (x ++ y)) H):xW ρ l .Add (.str x) (.str y) H Q:=by
 refine .mk ?_
 rintro P s U U g ⟨t,rfl⟩ ⟨u,rfl⟩ A hA
 exact vB (add_str (fun t' tk htk=>⟨H,g.tok htk,.str _,⟨_,rfl⟩,q⟩) hz)
theorem INP.add {a b:Int} (q:Q (.int (a + b)) H):INP ρ l .Add (.int a) (.int b) H Q:=by
 refine .mk ?_
 rintro P s U U g ⟨t,rfl⟩ ⟨u,rfl⟩ A hA
 exact iadd_int ⟨H,g.tok (Nat.le_succ _),.int _,⟨_,rfl⟩,q⟩
theorem wY {a b:Int} (q:B (decide (a = b)) H):yI ρ l .Eq (.int a) (.int b) H B:=by
 refine .mk ?_
 rintro P s U U g ⟨t,rfl⟩ ⟨u,rfl⟩ A hA
 exact eq_int ⟨H,.refl g.rep,_,rfl,by rwa [show (a == b) = decide (a = b) from rfl]⟩
theorem yI.ne {a b:Int} (q:B (decide (a ≠ b)) H):yI ρ l .NotEq (.int a) (.int b) H B:=by
 refine .mk ?_
 rintro P s U U g ⟨t,rfl⟩ ⟨u,rfl⟩ A hA
 exact ne_int ⟨H,.refl g.rep,_,rfl,by rwa [show (a != b) = decide (a ≠ b) from by by_cases h:a = b <;> simp [h]]⟩
theorem yI.lt {a b:Int} (q:B (decide (a < b)) H):yI ρ l .Lt (.int a) (.int b) H B:=by
 refine .mk ?_
 rintro P s U U g ⟨t,rfl⟩ ⟨u,rfl⟩ A hA
 exact lt_int ⟨H,.refl g.rep,_,rfl,q⟩
theorem yI.gt {a b:Int} (q:B (decide (b < a)) H):yI ρ l .Gt (.int a) (.int b) H B:=by
 refine .mk ?_
 rintro P s U U g ⟨t,rfl⟩ ⟨u,rfl⟩ A hA
 exact gt_int ⟨H,.refl g.rep,_,rfl,q⟩
theorem yI.ge {a b:Int} (q:B (decide (b ≤ a)) H):yI ρ l .GtE (.int a) (.int b) H B:=by
 refine .mk ?_
 rintro P s U U g ⟨t,rfl⟩ ⟨u,rfl⟩ A hA
 exact ge_int ⟨H,.refl g.rep,_,rfl,q⟩
theorem yI.seq {x y:Str} (q:B (decide (x = y)) H):yI ρ l .Eq (.str x) (.str y) H B:=by
 refine .mk ?_
 rintro P s U U g ⟨t,rfl⟩ ⟨u,rfl⟩ A hA
 exact eq_str ⟨H,.refl g.rep,_,rfl,by rwa [show (x == y) = decide (x = y) from by by_cases h:x = y <;> simp [h]]⟩
theorem yI.sne {x y:Str} (q:B (decide (x ≠ y)) H):yI ρ l .NotEq (.str x) (.str y) H B:=by
 refine .mk ?_
 rintro P s U U g ⟨t,rfl⟩ ⟨u,rfl⟩ A hA
 exact ne_str ⟨H,.refl g.rep,_,rfl,by rwa [show (x != y) = decide (x ≠ y) from by by_cases h:x = y <;> simp [h]]⟩
theorem yI.beq {a b:Bool} (q:B (a == b) H):yI ρ l .Eq (.bool a) (.bool b) H B:=by
 refine .mk ?_
 rintro P s U U g rfl rfl A hA
 exact eq_bool ⟨H,.refl g.rep,_,rfl,q⟩
theorem TRU.bool {b:Bool} (q:B b H):TRU ρ l (.bool b) H B:=by
 refine .mk ?_
 rintro P s U g rfl A hA
 exact wpAny_truthy_bool ⟨H,.refl g.rep,q⟩
noncomputable def yJ (H:zA):AV→List AV→Prop
 | .lst xs,ys=>xs = ys
 | .ref a,ys=>H a = some (.list ys)
 | _,_=>False
theorem yJ.at {P s av ys v} (h:yJ H av ys) (g:G ρ P H s) (c:xM ρ s.heap (Dm H P) av v):∃ a vs n,v = .ref a∧s.heap.get? a = some (tV vs n)∧zU ρ s.heap (Dm H P) ys vs:=by
 cases av with
 | lst xs=>obtain ⟨a,vs,n,e,U,ho,cl⟩:=c;cases h;exact ⟨a,vs,n,e,ho,cl⟩
 | ref a=>cases c;obtain ⟨vs,n,ho,cl⟩:=g.rep a _ h;exact ⟨a,vs,n,rfl,ho,cl⟩
 | _=>exact h.elim
theorem zU.getD {h D} {i:Nat} {x:AV} {xs:List AV} {vs:List Value} (c:zU ρ h D xs vs) (e:xs[i]? = some x):∃ v,vs[i]? = some v∧xM ρ h D x v:=by
 induction xs generalizing i vs with
 | nil=>simp at e
 | cons y xs ih=>
  obtain ⟨v,vs',rfl,c1,c2⟩:=c
  cases i with
  | zero=>simp at e;subst e;exact ⟨v,rfl,c1⟩
  | succ i=>simp at e;obtain ⟨v',a,b⟩:=ih c2 e;exact ⟨v',by simpa using a,b⟩
theorem qA.list {av:AV} {ys:List AV} {k:Int} {x:AV} (hL:yJ H av ys) (h0:0 ≤ k) (hz:ys.length ≤ sizeLine) (hx:ys[k.toNat]? = some x) (q:Q x H):qA ρ l av (.int k) H Q:=by
 refine .mk ?_
 rintro P s U U g ca ⟨t,rfl⟩ A hA
 refine sealG ?_
 intro Gs
 obtain ⟨a,vs,n,rfl,ho,cl⟩:=hL.at g ca
 obtain ⟨v,hv,c⟩:=cl.getD hx
 have hlt:k.toNat < ys.length:=(Bc.mp hx).1
 refine wpAny_getItem_list (items:=vs.toArray) ⟨_,ho,rfl,n,rfl⟩ h0 (int63' hlt hz) (by simpa using hv) ⟨H,.refl g.rep,x,c,q⟩
theorem qA.last {av:AV} {ys:List AV} {x:AV} (hL:yJ H av ys) (hz:ys.length ≤ sizeLine) (hx:ys.getLast? = some x) (q:Q x H):qA ρ l av (.int (-1)) H Q:=by
 refine .mk ?_
 rintro P s U U g ca ⟨t,rfl⟩ A hA
 refine sealG ?_
 intro Gs
 obtain ⟨a,vs,n,rfl,ho,cl⟩:=hL.at g ca
 have hne:ys ≠ []:=by rintro rfl;simp at hx
 have hlen:=cl.length
 have hp:0 < ys.length:=List.length_pos_iff.mpr hne
 rw [List.getLast?_eq_getElem?] at hx
 refine sealG ?_
 intro Gs
 obtain ⟨v,hv,c⟩:=cl.getD hx
 refine wpAny_getItem_list_neg (items:=vs.toArray) (x:=v) ⟨_,ho,rfl,n,rfl⟩ (by decide) (by simp only [Bo];exact zy 2 2 0x10116111405204036011652 rfl hlen hp) (by decide) ?_ ⟨H,.refl g.rep,x,c,q⟩
 rw [show (-1 + ((vs.toArray.size:Nat):Int)).toNat = ys.length - 1 from by simp only [Bo];exact zw 2 0 2 2 0x110000091110001100b11001100a001000100000c100110010b0100100000b10110010a0008726011652111605201114022 rfl hlen hp]
 simpa using hv
theorem uR {slice:Expr} {o i:Value} (hs:∀ lo hi po,slice ≠ .Slice lo hi none po):subscripted slice false o i = operate [o,i] (getItem o i):=by
 cases slice with
 | Slice lo hi st po=>cases st with
  | none=>exact absurd rfl (hs lo hi po)
  | some e=>rfl
 | _=>rfl
theorem zY.of {a b:AV} {T id:String} (h:qA ρ l a b H Q) (hT:∀ P s va,G ρ P H s→xM ρ s.heap (Dm H P) a va→s.TypeIs va T) (ht:typeLookup (.type T) (Str.ofString "__getitem__") = pure (some (.builtin id))):zY ρ l a b H Q:=by
 refine .mk ?_
 rintro P s va vb value slice g ca cb hs A hA
 exact tail_any (hT P s va g ca) ht (h.out P s va vb g ca cb A hA) (uR hs)
theorem vF:typeLookup (.type "list") (Str.ofString "__getitem__") = pure (some (.builtin "list.__getitem__")):=by rw [typeLookup_type,By];kernel_rfl
theorem uT:typeLookup (.type "dict") (Str.ofString "__getitem__") = pure (some (.builtin "dict.__getitem__")):=by rw [typeLookup_type,By];kernel_rfl
theorem yJ.type {av ys} (hL:yJ H av ys):∀ P s va,G ρ P H s→xM ρ s.heap (Dm H P) av va→s.TypeIs va "list":=fun P s va g c=>by
 obtain ⟨a,vs,n,rfl,ho,U⟩:=hL.at g c
 exact ⟨_,ho,rfl⟩
theorem zY.list {av:AV} {ys:List AV} {k:Int} {x:AV} (hL:yJ H av ys) (h0:0 ≤ k) (hz:ys.length ≤ sizeLine) (hx:ys[k.toNat]? = some x) (q:Q x H):zY ρ l av (.int k) H Q:=
 .of (qA.list hL h0 hz hx q) hL.type vF
theorem mB {av:AV} {ys:List AV} {x:AV} (hL:yJ H av ys) (hz:ys.length ≤ sizeLine) (hx:ys.getLast? = some x) (q:Q x H):zY ρ l av (.int (-1)) H Q:=
 .of (qA.last hL hz hx q) hL.type vF
theorem zY.tup {ys:List AV} {k:Int} {x:AV} (h0:0 ≤ k) (hz:ys.length ≤ sizeLine) (hx:ys[k.toNat]? = some x) (q:Q x H):zY ρ l (.tup ys) (.int k) H Q:=by
 refine .mk ?_
 rintro P s U U value slice g ⟨a,vs,n,rfl,U,ho,cl⟩ ⟨t,rfl⟩ hs A hA
 obtain ⟨v,hv,c⟩:=cl.getD hx
 have hlt:k.toNat < ys.length:=(Bc.mp hx).1
 have hl:=cl.length
 exact item_tupleT (l:=vs) (j:=k.toNat) (x:=v) ⟨_,ho,rfl,n,rfl⟩ (Int.le_trans (by decide) h0) (int63' hlt hz) (by have e:(if k < 0 then k + (vs.length:Int) else k) = k:=Aa (ω12 h0);simp only [seqIndex?,e];rw [Ab (by simp;exact zw 2 2 1 4 0x1001010100c101010100b011000009106200104010013701011055625710100130102 rfl h0 hlt hl e)]) hv ⟨H,.refl g.rep,x,c,q⟩ (uR hs)
noncomputable def tp (ys:List AV) (k:Int):Option AV:=k.rec (fun n=>(Nat.ble ys.length sizeLine).rec none ys[n]?) fun U=>none
theorem zY.tp {ys:List AV} {k:Int} {x:AV} (h:tp ys k = some x) (q:Q x H):zY ρ l (.tup ys) (.int k) H Q:=by
 cases k with
 | negSucc n=>cases h
 | ofNat n=>
  have e:Nat.ble ys.length sizeLine = true:=by
   cases e:Nat.ble ys.length sizeLine with
   | true=>rfl
   | false=>exact nomatch (show (Bool.rec none ys[n]? false:Option AV) = some x from e ▸ h)
  exact zY.tup (Int.natCast_nonneg n) (pC e) (show (Bool.rec none ys[n]? true:Option AV) = some x from e ▸ h) q
end
end
section
section
variable {l:Nat} {H:zA} {Q:AV→zA→Prop} {B:Bool→zA→Prop}
theorem vA {P s a o o' h' tk} (g:G ρ P H s) (e:H a = some o) (na:∀ x,o ≠ .attrs x) (hs:Heap.SameBut a s.heap h') (htk:s.toks ≤ tk) (c:zX (Dm H P) s.heap (Dm (upd H a o') P) h'→ConO ρ h' (upd H a o') P a o'):Fin ρ P s H { s with heap:=h',toks:=tk } (upd H a o'):=
 have hs':∀ b ob,b ≠ a→s.heap.get? b = some ob→h'.get? b = some ob:=fun b ob hb e=>(hs.2 b hb).trans e
 have ha:H a ≠ none∨s.heap.get? a = none:=.inl (by rw [e];simp)
 ⟨pX.put hs' ha,g.rep.put hs' ha (fun x q=>by rw [e] at q;cases q;exact na x rfl) (c (pX.put hs' ha).stays),rfl,rfl,htk⟩
theorem update_list {h:Heap} {a:Addr} {vs:List Value} {n:Nat} (f:Array Value→Array Value) (e:h.get? a = some (tV vs n)):∃ n',(h.update a (Obj.mapSeq f)).get? a = some (tV (f vs.toArray).toList n'):=by
 refine ⟨if ((f vs.toArray).size == vs.toArray.size) = true then n else n + 1,?_⟩
 rw [Heap.get?_update_self _ e (by rfl)]
 rfl
theorem Fin.list {P s a ys ys' vs n tk} {f:Array Value→Array Value} (g:G ρ P H s) (e:H a = some (.list ys)) (ho:s.heap.get? a = some (tV vs n)) (hc:∀ h D,zX (Dm H P) s.heap D h→zU ρ h D ys' (f vs.toArray).toList) (htk:s.toks ≤ tk) :
  Fin ρ P s H { s with heap:=s.heap.update a (Obj.mapSeq f),toks:=tk } (upd H a (.list ys')):=
 vA g e nofun (Heap.SameBut.update ..) htk fun st=>by
  obtain ⟨n',ho'⟩:=update_list f ho
  exact ⟨_,n',ho',hc _ _ st⟩
theorem pU.list {av:AV} {ys:List AV} {x:Str} {id:String} {Q:AV→List AV→Prop} (hL:yJ H av ys) (slot:Slot "list" x id) (ty:typeOf (.builtin id) = pure (.type "method_descriptor")) (q:Q (.con (.builtin id)) [av]):pU ρ l av x H Q:=by
 refine .mk ?_
 rintro P s va pl g c A hA
 refine sealG ?_
 intro Gs
 obtain ⟨a,vs,n,rfl,ho,cl⟩:=hL.at g c
 exact getMethod_builtin ⟨_,ho,rfl⟩ F.plainAttrs_list slot ty (fun b e=>by cases e;exact ⟨_,ho,rfl⟩) ⟨H,.refl g.rep,rfl,.con (.builtin id),[av],(rfl:Value.builtin id = _),show zU ρ s.heap (Dm H P) [av] [.ref a] from ⟨_,[],rfl,c,rfl⟩,q⟩
theorem zU.push {h D} {x:AV} {ys:List AV} {vs:List Value} {v:Value} (c:zU ρ h D ys vs) (cx:xM ρ h D x v):zU ρ h D (ys ++ [x]) (vs ++ [v]):=c.append ⟨v,[],rfl,cx,rfl⟩
theorem zE.append {a:Addr} {ys:List AV} {x:AV} (e:H a = some (.list ys)) (hz:ys.length ≤ sizeLine) (q:Q .none (upd H a (.list (ys ++ [x])))):zE ρ l (.con (.builtin "list.append")) [.ref a,x] H Q:=by
 refine .mk ?_
 rintro P s U U g rfl ⟨U,U,rfl,rfl,v,U,rfl,cx,rfl⟩ A hA
 obtain ⟨vs,n,ho,cl⟩:=g.rep a _ e
 have hl:=cl.length
 refine wpAny_list_append_plain (items:=vs.toArray) ⟨n,ho⟩ (fun h' p1 hs=>p1.rec fun n' ho'=>?_) (by simpa using hl ▸ hz)
 refine ⟨_,vA (o':=.list (ys ++ [x])) (tk:=s.toks) g e nofun hs (Ag _) fun st=>⟨vs ++ [v],n',by simpa using ho',(cl.push cx).mono st⟩,.none,rfl,q⟩
theorem zU.dropLast {h D}:∀ {ys:List AV} {vs:List Value},zU ρ h D ys vs→zU ρ h D ys.dropLast vs.dropLast
 | [],_,c=>by cases c;rfl
 | [y],_,⟨v,_,rfl,c,rfl⟩=>rfl
 | y :: z :: ys,_,⟨v,_,rfl,c,c2⟩=>by
  obtain ⟨u,us,rfl,c3,c4⟩:=id c2
  exact ⟨v,(u :: us).dropLast,rfl,c,zU.dropLast c2⟩
theorem zE.pop {a:Addr} {ys:List AV} {x:AV} (e:H a = some (.list ys)) (hz:ys.length ≤ sizeLine) (hx:ys.getLast? = some x) (q:Q x (upd H a (.list ys.dropLast))):zE ρ l (.con (.builtin "list.pop")) [.ref a] H Q:=by
 refine .mk ?_
 rintro P s U U g rfl ⟨U,U,rfl,rfl,rfl⟩ A hA
 obtain ⟨vs,n,ho,cl⟩:=g.rep a _ e
 have hl:=cl.length
 rw [List.getLast?_eq_getElem?] at hx
 obtain ⟨v,hv,c⟩:=cl.getD hx
 have st:=(@Fin.list H P s a ys ys.dropLast vs n s.toks (fun xs=>xs.eraseIdxIfInBounds (vs.toArray.size - 1)) g e ho (fun h D st=>by
  have:=(cl.dropLast).mono st
  rw [show (vs.toArray.eraseIdxIfInBounds (vs.toArray.size - 1)).toList = vs.dropLast from ?_]
  ·exact this
  ·rw [Array.eraseIdxIfInBounds]
   split
   ·simp
   ·rename_i h
    have:vs = []:=by cases vs with | nil=>rfl | cons=>simp at h
    subst this;rfl)) (Ag _)
 refine call_meets F.slot_list_pop ⟨_,ho,rfl⟩ F.entry_list_pop (F.args_list_pop_1 _) (MeetsSeq.list_pop_last a vs.toArray n v (by simpa [hl] using hv) (by simpa using hl ▸ hz)) ⟨ho,_,st,x,?_,q⟩
 exact c.mono st.ext.stays
theorem oM {a:Addr} {bv:AV} {ys zs:List AV} (e:H a = some (.list ys)) (hL:yJ H bv zs) (hz:ys.length + zs.length ≤ sizeLine) (q:Q .none (upd H a (.list (ys ++ zs)))):zE ρ l (.con (.builtin "list.extend")) [.ref a,bv] H Q:=by
 refine .mk ?_
 rintro P s U U g rfl ⟨U,U,rfl,rfl,v,U,rfl,cx,rfl⟩ A hA
 refine sealG ?_
 intro Gs
 obtain ⟨vs,n,ho,cl⟩:=g.rep a _ e
 obtain ⟨b,us,n2,rfl,hob,clb⟩:=hL.at g cx
 have hl:=cl.length
 have hlb:=clb.length
 have st:=(@Fin.list H P s a ys (ys ++ zs) vs n s.toks (fun xs=>xs ++ us.toArray) g e ho (fun h D st=>by
  have:=(cl.append clb).mono st
  simpa using this)) (Ag _)
 refine call_meets F.slot_list_extend ⟨_,ho,rfl⟩ F.entry_list_extend (F.args_list_extend_2 _ _) (AutoSeq1.list_extend_list_list_0 a vs.toArray n b us.toArray n2 ?_ (by simp;rw [hl];exact Ah (Nat.le_add_right ..) hz) (by simp;rw [hl,hlb];exact Nat.le_succ_of_le hz)) ⟨ho,hob,_,st,.none,rfl,q⟩
 unfold Builtin.List.listTooLong
 intro q
 rw [Av,Bq] at q
 simp only [Bo] at q
 rw [hl,hlb] at q;exact absurd hz (Nat.not_le.mpr q.2)
theorem zU.set {h D} (j:Nat) {x:AV} {v:Value} (cx:xM ρ h D x v):∀ {ys:List AV} {vs:List Value},zU ρ h D ys vs→zU ρ h D (ys.set j x) (vs.set j v):=by
 induction j with
 | zero=>intro ys vs c;cases ys with
  | nil=>cases c;rfl
  | cons y ys=>obtain ⟨u,us,rfl,c1,c2⟩:=c;exact ⟨v,us,rfl,cx,c2⟩
 | succ j ih=>intro ys vs c;cases ys with
  | nil=>cases c;rfl
  | cons y ys=>obtain ⟨u,us,rfl,c1,c2⟩:=c;exact ⟨u,_,rfl,c1,ih c2⟩
theorem wT.list {a:Addr} {ys:List AV} {k:Int} {x:AV} {Q:zA→Prop} (e:H a = some (.list ys)) (hz:ys.length ≤ sizeLine) (h0:0 ≤ k) (hk:k < ys.length) (q:Q (upd H a (.list (ys.set k.toNat x)))):wT ρ l (.ref a) (.int k) x H Q:=by
 refine .mk ?_
 rintro P s U U v g rfl ⟨t,rfl⟩ cx A hA
 obtain ⟨vs,n,ho,cl⟩:=g.rep a _ e
 have hl:=cl.length
 have hT:s.TypeIs (.ref a) "list":=⟨_,ho,rfl⟩
 unfold setItem
 refine Am ?_
 refine Ak (wpAny_sequenceKey hT (by decide) ?_)
 refine Ak (wpAny_callSpecial?_slot (name:=Str.ofString "__setitem__") hT slot_list_setitem (Bz slot_list_setitem hT entry_list_setitem ?_ (args_list_setitem _ _ _)))
 show wpAny _ _ (Builtin.List.listSubscript? (.int k t) >>= _) _ _ s
 refine Ak (wpAny_listSubscript_int (fitsIndex_of h0 (Int.lt_trans hk (int63 hz))) ?_)
 obtain ⟨j,rfl⟩:=Int.eq_ofNat_of_zero_le h0
 have hj:j < vs.toArray.size:=by simp;exact zy 3 2 0x101165716207204652 rfl hl hk
 show wpAny _ _ ((seqItemAt a j >>= fun r=>pure (r.map (j,·))) >>= _) _ _ s
 refine Ak (Ak (wpAny_seqItemAt ho rfl (Aj ?_)))
 rw [Ca hj]
 show wpAny _ _ (setSeqItemAt a j v >>= _) _ _ s
 have st:=(@Fin.list H P s a ys (ys.set j x) vs n s.toks (fun xs=>xs.setIfInBounds j v) g e ho (fun h D st=>by
  have:=(cl.set j cx).mono st
  simpa using this)) (Ag _)
 refine Ak (wpAny_setSeqItemAt ho rfl ?_)
 first
  | exact Ak (Aj (Aj ⟨.none,rfl,Aj ⟨_,st,q⟩⟩))
  | exact Aj ⟨.none,rfl,Aj ⟨_,st,q⟩⟩
end
end
section
section
variable {l:Nat} {H:zA} {Q:AV→zA→Prop} {B:Bool→zA→Prop}
noncomputable def keep {κ:Type} [DecidableEq κ] (kvs:List (κ×AV)) (k:κ) (x:AV):List (κ×AV):=if (kvs.any fun kv=>decide (kv.1 = k)) = true then kvs.map (fun kv=>if kv.1 = k then (kv.1,x) else kv) else kvs ++ [(k,x)]
noncomputable def yE {κ:Type} [DecidableEq κ] (kvs:List (κ×AV)) (k:κ):Option AV:=(kvs.find? fun kv=>decide (kv.1 = k)).map (fun p=>p.2)
structure vU (ρ:Bs) (h:Heap) (D:Addr→Prop) {κ:Type} (kvs:List (κ×AV)) (cv:List (κ×Value)):Prop where
 keys:cv.map (fun p=>p.1) = kvs.map (fun p=>p.1)
 vals:zU ρ h D (kvs.map (fun p=>p.2)) (cv.map (fun p=>p.2))
theorem vU.cases {κ:Type} {h D} {k:κ} {x:AV} {kvs:List (κ×AV)} {cv:List (κ×Value)} (r:vU ρ h D ((k,x) :: kvs) cv):∃ v cv',cv = (k,v) :: cv'∧xM ρ h D x v∧vU ρ h D kvs cv':=by
 obtain ⟨a,b⟩:=r
 cases cv with
 | nil=>simp at a
 | cons p cv=>
  obtain ⟨k',v⟩:=p
  simp at a
  obtain ⟨rfl,a⟩:=a
  obtain ⟨u,us,e,c,d⟩:=b
  simp at e
  obtain ⟨rfl,rfl⟩:=e
  exact ⟨v,cv,rfl,c,a,d⟩
theorem vU.cons {κ:Type} {h D} {k:κ} {x:AV} {v:Value} {kvs:List (κ×AV)} {cv:List (κ×Value)} (c:xM ρ h D x v) (r:vU ρ h D kvs cv):vU ρ h D ((k,x) :: kvs) ((k,v) :: cv):=
 ⟨by simp [r.keys],⟨v,_,rfl,c,r.vals⟩⟩
theorem vU.nil {κ:Type} {h D} {cv:List (κ×Value)} (r:vU ρ h D [] cv):cv = []:=by
 have:=r.keys;simpa using this
theorem vU.mono {κ:Type} {h D h' D'} {kvs:List (κ×AV)} {cv:List (κ×Value)} (st:zX D h D' h') (r:vU ρ h D kvs cv):vU ρ h' D' kvs cv:=⟨r.keys,r.vals.mono st⟩
section
variable {κ:Type} [DecidableEq κ] {h:Heap} {D:Addr→Prop} {k:κ} {x:AV} {v:Value}
theorem vU.ind {κ:Type} {h:Heap} {D:Addr→Prop} {M:List (κ×AV)→List (κ×Value)→Prop} (n:M [] []) (c:∀ k x v kvs cv,xM ρ h D x v→M kvs cv→M ((k,x) :: kvs) ((k,v) :: cv)) {kvs:List (κ×AV)}:∀ {cv:List (κ×Value)},vU ρ h D kvs cv→M kvs cv:=by
 induction kvs with
 | nil=>exact fun r=>r.nil ▸ n
 | cons p kvs ih=>exact fun r=>r.cases.elim fun v q=>q.elim fun cv' q=>q.1 ▸ c _ _ _ _ _ q.2.1 (ih q.2.2)
theorem look_pos {k':κ} {y:AV} {kvs:List (κ×AV)} (q:k' = k):yE ((k',y) :: kvs) k = some y:=by unfold yE;rw [List.find?_cons_of_pos (p:=fun kv:κ×AV=>decide (kv.1 = k)) (a:=(k',y)) (Dc q)];rfl
theorem look_neg {k':κ} {y:AV} {kvs:List (κ×AV)} (q:k' ≠ k):yE ((k',y) :: kvs) k = yE kvs k:=by unfold yE;rw [List.find?_cons_of_neg (p:=fun kv:κ×AV=>decide (kv.1 = k)) (a:=(k',y)) fun e=>q (Ad e)]
theorem val_pos {k':κ} {y:Value} {kvs:List (κ×Value)} (q:k' = k):valueAt ((k',y) :: kvs) k = some y:=by unfold valueAt;rw [List.find?_cons_of_pos (p:=fun kv:κ×Value=>decide (kv.1 = k)) (a:=(k',y)) (Dc q)];rfl
theorem val_neg {k':κ} {y:Value} {kvs:List (κ×Value)} (q:k' ≠ k):valueAt ((k',y) :: kvs) k = valueAt kvs k:=by unfold valueAt;rw [List.find?_cons_of_neg (p:=fun kv:κ×Value=>decide (kv.1 = k)) (a:=(k',y)) fun e=>q (Ad e)]
theorem vU.look {kvs:List (κ×AV)} {cv:List (κ×Value)} (r:vU ρ h D kvs cv):(∀ x,yE kvs k = some x→∃ v,valueAt cv k = some v∧xM ρ h D x v)∧(yE kvs k = none→valueAt cv k = none):=by
 refine r.ind (M:=fun kvs cv=>(∀ x,yE kvs k = some x→∃ v,valueAt cv k = some v∧xM ρ h D x v)∧(yE kvs k = none→valueAt cv k = none)) ⟨fun x e=>(nomatch e),fun U=>rfl⟩ fun k' y u kvs cv c ih=>?_
 by_cases q:k' = k
 ·rw [look_pos q,val_pos q]
  exact ⟨fun x e=>⟨u,rfl,Option.some.inj e ▸ c⟩,fun e=>nomatch e⟩
 ·rw [look_neg q,val_neg q]
  exact ih
theorem vU.any {kvs:List (κ×AV)} {cv:List (κ×Value)} (r:vU ρ h D kvs cv):(cv.any fun kv=>decide (kv.1 = k)) = (kvs.any fun kv=>decide (kv.1 = k)):=
 r.ind (M:=fun kvs cv=>(cv.any fun kv=>decide (kv.1 = k)) = (kvs.any fun kv=>decide (kv.1 = k))) rfl fun k' y u kvs cv c ih=>congrArg (decide (k' = k) || ·) ih
theorem vU.snoc (c:xM ρ h D x v) {kvs:List (κ×AV)} {cv:List (κ×Value)} (r:vU ρ h D kvs cv):vU ρ h D (kvs ++ [(k,x)]) (cv ++ [(k,v)]):=
 r.ind (M:=fun kvs cv=>vU ρ h D (kvs ++ [(k,x)]) (cv ++ [(k,v)])) (vU.cons (kvs:=[]) (cv:=[]) c ⟨rfl,rfl⟩) fun k' y u kvs cv c ih=>.cons c ih
theorem vU.over (c:xM ρ h D x v) {kvs:List (κ×AV)} {cv:List (κ×Value)} (r:vU ρ h D kvs cv):vU ρ h D (kvs.map (fun kv=>if kv.1 = k then (kv.1,x) else kv)) (cv.map (fun kv=>if kv.1 = k then (kv.1,v) else kv)):=by
 refine r.ind (M:=fun kvs cv=>vU ρ h D (kvs.map (fun kv=>if kv.1 = k then (kv.1,x) else kv)) (cv.map (fun kv=>if kv.1 = k then (kv.1,v) else kv))) ⟨rfl,rfl⟩ fun k' y u kvs cv c' ih=>?_
 rw [Ba,Ba]
 by_cases q:k' = k
 ·rw [Ab q,Ab q];exact .cons c ih
 ·rw [Aa q,Aa q];exact .cons c' ih
theorem vU.keep (c:xM ρ h D x v) {kvs:List (κ×AV)} {cv:List (κ×Value)} (r:vU ρ h D kvs cv):vU ρ h D (keep kvs k x) (stored cv k v):=by
 unfold Mine.keep stored
 rw [r.any]
 split
 ·exact r.over c
 ·exact r.snoc c
theorem vU.drop {kvs:List (κ×AV)} {cv:List (κ×Value)} (r:vU ρ h D kvs cv):vU ρ h D (kvs.filter fun kv=>decide (kv.1 ≠ k)) (without cv k):=by
 refine r.ind (M:=fun kvs cv=>vU ρ h D (kvs.filter fun kv=>decide (kv.1 ≠ k)) (without cv k)) ⟨rfl,rfl⟩ fun k' y u kvs cv c' ih=>?_
 unfold without at ih ⊢
 by_cases q:k' = k
 ·rw [List.filter_cons_of_neg (by simpa using q),List.filter_cons_of_neg (by simpa using q)];exact ih
 ·rw [List.filter_cons_of_pos (by simpa using q),List.filter_cons_of_pos (by simpa using q)];exact .cons c' ih
theorem vU.length {kvs:List (κ×AV)} {cv:List (κ×Value)} (r:vU ρ h D kvs cv):cv.length = kvs.length:=by
 have:=congrArg List.length r.keys;simpa using this
end
noncomputable def uZ (H:zA):AV→List (Int×AV)→Prop
 | .idct ks xs,kvs=>kvs.map (fun p=>p.1) = ks∧kvs.map (fun p=>p.2) = xs
 | .ref a,kvs=>H a = some (.idict kvs)
 | _,_=>False
theorem uZ.at {P s av kvs v} (h:uZ H av kvs) (g:G ρ P H s) (c:xM ρ s.heap (Dm H P) av v):∃ a cv,v = .ref a∧(a == sysModules) = false∧s.heap.DictOf ρ.iK a cv∧vU ρ s.heap (Dm H P) kvs cv:=by
 cases av with
 | idct ks xs=>obtain ⟨a,cv,e,U,hs,ho,hk,cl⟩:=c;obtain ⟨h1,h2⟩:=h;subst h1;subst h2;exact ⟨a,cv,e,hs,ho,hk,cl⟩
 | ref a=>cases c;obtain ⟨cv,hs,ho,hk,cl⟩:=g.rep a _ h;exact ⟨a,cv,rfl,hs,ho,hk,cl⟩
 | _=>exact h.elim
theorem uZ.type {av kvs} (hL:uZ H av kvs):∀ P s va,G ρ P H s→xM ρ s.heap (Dm H P) av va→s.TypeIs va "dict":=fun P s va g c=>by
 obtain ⟨a,cv,rfl,U,ho,U⟩:=hL.at g c
 exact ho.typeIs
theorem qA.idict {av:AV} {kvs:List (Int×AV)} {k:Int} {x:AV} (hL:uZ H av kvs) (hx:yE kvs k = some x) (q:Q x H):qA ρ l av (.int k) H Q:=by
 refine .mk ?_
 rintro P s U U g ca ⟨t,rfl⟩ A hA
 refine sealG ?_
 intro Gs
 obtain ⟨a,cv,rfl,hs,ho,r⟩:=hL.at g ca
 obtain ⟨v,hv,c⟩:=r.look.1 x hx
 exact wpAny_getItem_of (Br ρ.prog ρ.w k t) ho.mapOf hv ⟨H,g.tok (Nat.le_succ _),x,c,q⟩
theorem zY.idict {av:AV} {kvs:List (Int×AV)} {k:Int} {x:AV} (hL:uZ H av kvs) (hx:yE kvs k = some x) (q:Q x H):zY ρ l av (.int k) H Q:=
 .of (qA.idict hL hx q) hL.type uT
theorem qA.sdict {a:Addr} {kvs:List (Str×AV)} {k:Str} {x:AV} (hL:H a = some (.sdict kvs)) (hx:yE kvs k = some x) (q:Q x H):qA ρ l (.ref a) (.str k) H Q:=by
 refine .mk ?_
 rintro P s U U g rfl ⟨t,rfl⟩ A hA
 refine sealG ?_
 intro Gs
 obtain ⟨cv,hs,ho,hk,cl⟩:=g.rep a _ hL
 obtain ⟨v,hv,c⟩:=(vU.look ⟨hk,cl⟩).1 x hx
 exact wpAny_getItem_of (strKind_is ρ.prog ρ.w k t) ho.mapOf hv ⟨H,g.tok (Nat.le_succ _),x,c,q⟩
theorem zY.sdict {a:Addr} {kvs:List (Str×AV)} {k:Str} {x:AV} (hL:H a = some (.sdict kvs)) (hx:yE kvs k = some x) (q:Q x H):zY ρ l (.ref a) (.str k) H Q:=
 .of (qA.sdict hL hx q) (fun P s va g c=>by cases c;obtain ⟨cv,hs,ho,hk,cl⟩:=g.rep a _ hL;exact ho.typeIs) uT
theorem wK {av:AV} {kvs:List (Int×AV)} {k:Int} (hL:uZ H av kvs) (q:B (yE kvs k).isSome H):yI ρ l .In (.int k) av H B:=by
 refine .mk ?_
 rintro P s U U g ⟨t,rfl⟩ ca A hA
 refine sealG ?_
 intro Gs
 obtain ⟨a,cv,rfl,hs,ho,r⟩:=hL.at g ca
 refine wpAny_in_of (Br ρ.prog ρ.w k t) hs ho.mapOf ⟨H,g.tok (Nat.le_succ _),_,rfl,?_⟩
 cases e:yE kvs k with
 | none=>rw [r.look.2 e];rwa [e] at q
 | some x=>obtain ⟨v,hv,U⟩:=r.look.1 x e;rw [hv];rwa [e] at q
theorem sU {av:AV} {kvs:List (Int×AV)} {k:Int} (hL:uZ H av kvs) (q:B (!(yE kvs k).isSome) H):yI ρ l .NotIn (.int k) av H B:=by
 refine .mk ?_
 rintro P s U U g ⟨t,rfl⟩ ca A hA
 refine sealG ?_
 intro Gs
 obtain ⟨a,cv,rfl,hs,ho,r⟩:=hL.at g ca
 refine wpAny_notIn_of (Br ρ.prog ρ.w k t) hs ho.mapOf ⟨H,g.tok (Nat.le_succ _),_,rfl,?_⟩
 cases e:yE kvs k with
 | none=>rw [r.look.2 e];rwa [e] at q
 | some x=>obtain ⟨v,hv,U⟩:=r.look.1 x e;rw [hv];rwa [e] at q
theorem pU.idict {av:AV} {kvs:List (Int×AV)} {x:Str} {id:String} {Q:AV→List AV→Prop} (hL:uZ H av kvs) (slot:Slot "dict" x id) (ty:typeOf (.builtin id) = pure (.type "method_descriptor")) (q:Q (.con (.builtin id)) [av]):pU ρ l av x H Q:=by
 refine .mk ?_
 rintro P s va pl g c A hA
 refine sealG ?_
 intro Gs
 obtain ⟨a,cv,rfl,hs,ho,r⟩:=hL.at g c
 exact getMethod_builtin ho.typeIs F.plainAttrs_dict slot ty ho.mapOf.noDict ⟨H,.refl g.rep,rfl,.con (.builtin id),[av],(rfl:Value.builtin id = _),show zU ρ s.heap (Dm H P) [av] [.ref a] from ⟨_,[],rfl,c,rfl⟩,q⟩
theorem zE.get {av d:AV} {kvs:List (Int×AV)} {k:Int} (hL:uZ H av kvs) (q:Q ((yE kvs k).getD d) H):zE ρ l (.con (.builtin "dict.get")) [av,.int k,d] H Q:=by
 refine .mk ?_
 rintro P s U U g rfl ⟨va,U,rfl,ca,U,U,rfl,⟨t,rfl⟩,vd,U,rfl,cd,rfl⟩ A hA
 refine sealG ?_
 intro Gs
 obtain ⟨a,cv,rfl,hs,ho,r⟩:=hL.at g ca
 refine call_meetsIn F.slot_dict_get ho.typeIs F.entry_dict_get (F.args_dict_get_3 _ _ _) (meets_dict_get_default ρ.iK a (Br ρ.prog ρ.w k t) hs vd) ⟨valueAt cv,ho.mapOf,?_⟩
 cases e:yE kvs k with
 | none=>rw [r.look.2 e];exact ⟨H,g.tok (Nat.le_succ _),d,cd,by rwa [e] at q⟩
 | some x=>obtain ⟨v,hv,c⟩:=r.look.1 x e;rw [hv];exact ⟨H,g.tok (Nat.le_succ _),x,c,by rwa [e] at q⟩
theorem qG {κ:Type} [DecidableEq κ] {knd:PySem.KeyKind ρ.prog ρ.w κ} {A:Around} {E:Value→Shared→Prop} {s:Shared} {a:Addr} {cv:List (κ×Value)} {k:κ} {key v:Value} {Q':Unit→Shared→Prop} (hk:knd.is k key = true) (ho:s.heap.DictOf knd a cv) (hz:cv.length ≤ sizeLine)
  (q:∀ h',h'.DictOf knd a (stored cv k v)→Heap.SameBut a s.heap h'→Q' () { s with heap:=h',toks:=s.toks + 1 }):wpAny ρ.M A (setItem (.ref a) key v) Q' E s:=by
 have hT:=ho.typeIs
 unfold setItem
 refine Am ?_
 refine Ak (wpAny_sequenceKey hT (by decide) ?_)
 refine Ak (wpAny_callSpecial?_slot (name:=Str.ofString "__setitem__") hT F.slot_dict_setitem (call_meetsIn F.slot_dict_setitem hT F.entry_dict_setitem (F.args_dict_setitem_3 _ _ _) (meets_dict_setitem_pairs knd a hk v) ⟨cv,ho,hz,fun h' hd hs=>?_⟩))
 exact Aj (q h' hd hs)
theorem wT.idict {a:Addr} {kvs:List (Int×AV)} {k:Int} {x:AV} {Q:zA→Prop} (e:H a = some (.idict kvs)) (hz:kvs.length ≤ sizeLine) (q:Q (upd H a (.idict (keep kvs k x)))):wT ρ l (.ref a) (.int k) x H Q:=by
 refine .mk ?_
 rintro P s U U v g rfl ⟨t,rfl⟩ cx A hA
 obtain ⟨cv,hs,ho,hk,cl⟩:=g.rep a _ e
 have r:vU ρ s.heap (Dm H P) kvs cv:=⟨hk,cl⟩
 refine qG (Br ρ.prog ρ.w k t) ho (by rw [r.length];exact hz) fun h' hd hsb=>⟨_,vA (o':=.idict (keep kvs k x)) g e nofun hsb (Nat.le_succ _) fun st=>?_,q⟩
 have r':=(r.keep (k:=k) cx).mono st
 exact ⟨_,hs,hd,r'.keys,r'.vals⟩
theorem wT.sdict {a:Addr} {kvs:List (Str×AV)} {k:Str} {x:AV} {Q:zA→Prop} (e:H a = some (.sdict kvs)) (hz:kvs.length ≤ sizeLine) (q:Q (upd H a (.sdict (keep kvs k x)))):wT ρ l (.ref a) (.str k) x H Q:=by
 refine .mk ?_
 rintro P s U U v g rfl ⟨t,rfl⟩ cx A hA
 obtain ⟨cv,hs,ho,hk,cl⟩:=g.rep a _ e
 have r:vU ρ s.heap (Dm H P) kvs cv:=⟨hk,cl⟩
 refine qG (strKind_is ρ.prog ρ.w k t) ho (by rw [r.length];exact hz) fun h' hd hsb=>⟨_,vA (o':=.sdict (keep kvs k x)) g e nofun hsb (Nat.le_succ _) fun st=>?_,q⟩
 have r':=(r.keep (k:=k) cx).mono st
 exact ⟨_,hs,hd,r'.keys,r'.vals⟩
theorem pJ {P s} (S:SF K ρ.base) (g:G ρ P H s):(s.heap.objs.size == sysModules) = false:=by
 have hb:=modules_low (S.nl.keeps fun b o e=>(g.base b o e).1)
 rw [beq_eq_false_iff_ne]
 exact Nat.ne_of_gt hb
theorem MKD.fin {P s kvs} {h':Heap} (S:SF K ρ.base) (g:G ρ P H s) (hq:MKD kvs H Q) (hsb:∀ b o,s.heap.get? b = some o→h'.get? b = some o)
  {cv:List (Int×Value)} (hd:h'.DictOf ρ.iK s.heap.objs.size cv) (r:vU ρ s.heap (Dm H P) kvs cv):FR ρ P s H (tG ρ P Q) (.ref s.heap.objs.size) { s with heap:=h' }:=by
 have st:zX (Dm H P) s.heap (Dm H P) h':=fun b o e n=>⟨hsb b o e,n⟩
 rcases hq with q | q
 ·refine ⟨H,⟨fun b o e n=>⟨hsb b o e,n⟩,fun b o e=>(g.rep b o e).at st (hsb b) fun U d hd=>⟨hd,hsb d⟩,rfl,rfl,Ag _⟩,_,?_,q⟩
  have r':=r.mono st
  exact ⟨_,cv,rfl,rH g,pJ S g,hd,r'.keys,r'.vals⟩
 ·have hs':∀ b ob,b ≠ s.heap.objs.size→s.heap.get? b = some ob→h'.get? b = some ob:=fun b ob U e=>hsb b ob e
  have ha:H s.heap.objs.size ≠ none∨s.heap.get? s.heap.objs.size = none:=.inr (zW g).1
  have x:pX H s.heap (upd H s.heap.objs.size (.idict kvs)) h':=pX.put hs' ha
  have r':=r.mono (x.stays (P:=P))
  exact ⟨upd H s.heap.objs.size (.idict kvs),⟨x,g.rep.put hs' ha (by rw [(zW g).2];intro x q;cases q) ⟨cv,pJ S g,hd,r'.keys,r'.vals⟩,rfl,rfl,Ag _⟩,.ref _,rfl,q _ (zW g).2⟩
theorem zE.dict {av:AV} {kvs:List (Int×AV)} (S:SF K ρ.base) (hL:uZ H av kvs) (hz:kvs.length ≤ sizeLine) (q:MKD kvs H Q):zE ρ l (.con (.type "dict")) [av] H Q:=by
 refine .mk ?_
 rintro P s U U g rfl ⟨va,U,rfl,ca,rfl⟩ A hA
 refine sealG ?_
 intro Gs
 obtain ⟨a,cv,rfl,hs,ho,r⟩:=hL.at g ca
 refine kt_call_dict hs ho (by rw [r.length];exact hz) fun h' hd hsb=>MKD.fin S g q (fun b o e=>?_) hd r
 rw [hsb.2 b (Bb (Aq e))]
 exact As _ e
theorem xR {env:Env} {m:zN} {pos:Pos} (S:SF K ρ.base) (q:MKD [] H Q):EX ρ l env (.Dict [] [] pos) H m Q:=.mk fun P s g F A hA=>
 wpAny_Dict_empty (MKD.fin (cv:=[]) S g q (fun b o e=>As _ e) (Heap.DictOf.new s.heap) ⟨rfl,rfl⟩)
theorem zE.dpop {a:Addr} {kvs:List (Int×AV)} {k:Int} {x:AV} {rest:List AV} (e:H a = some (.idict kvs)) (hz:kvs.length ≤ sizeLine) (hx:yE kvs k = some x) (hr:rest = []∨∃ d,rest = [d]) (q:Q x (upd H a (.idict (kvs.filter fun kv=>decide (kv.1 ≠ k))))):zE ρ l (.con (.builtin "dict.pop")) (.ref a :: .int k :: rest) H Q:=by
 refine .mk ?_
 rintro P s U U g rfl ⟨va,U,rfl,rfl,U,us,rfl,⟨t,rfl⟩,cr⟩ A hA
 obtain ⟨cv,hs,ho,hk,cl⟩:=g.rep a _ e
 have r:vU ρ s.heap (Dm H P) kvs cv:=⟨hk,cl⟩
 obtain ⟨v,hv,c⟩:=r.look.1 x hx
 have hus:us = []∨∃ d,us = [d]:=by
  rcases hr with rfl | ⟨d,rfl⟩
  ·exact .inl cr
  ·obtain ⟨u,U,rfl,U,rfl⟩:=cr;exact .inr ⟨u,rfl⟩
 have hargs:argsOk "dict.pop" ⟨.ref a :: .int k t :: us,[]⟩:=by
  rcases hus with rfl | ⟨d,rfl⟩
  ·exact F.args_dict_pop_2 _ _
  ·exact F.args_dict_pop_3 _ _ _
 refine call_meetsIn F.slot_dict_pop ho.typeIs F.entry_dict_pop hargs (meets_dict_pop_there ρ.iK a (Br ρ.prog ρ.w k t) us hus rfl) ⟨cv,v,ho,by rw [r.length];exact hz,hv,fun h' hd hsb=>?_⟩
 have f:Fin ρ P s H { s with heap:=h',toks:=s.toks + 1 } (upd H a (.idict (kvs.filter fun kv=>decide (kv.1 ≠ k)))):=vA (o':=.idict (kvs.filter fun kv=>decide (kv.1 ≠ k))) g e nofun hsb (Nat.le_succ _) fun st=>by
  have r':=(r.drop (k:=k)).mono st
  exact ⟨_,hs,hd,r'.keys,r'.vals⟩
 exact ⟨_,f,x,c.mono f.ext.stays,q⟩
end
end
section
section
variable {l:Nat} {H:zA} {m:zN} {env:Env} {Q:AV→zA→Prop} {B:Bool→zA→Prop}
theorem vR {P s h' tk} (g:G ρ P H s) (hk:∀ b o,s.heap.get? b = some o→h'.get? b = some o) (htk:s.toks ≤ tk):Fin ρ P s H { s with heap:=h',toks:=tk } H:=
 have st:zX (Dm H P) s.heap (Dm H P) h':=fun b o e n=>⟨hk b o e,n⟩
 ⟨fun b o e n=>⟨hk b o e,n⟩,fun b o e=>(g.rep b o e).at st (hk b) fun U d hd=>⟨hd,hk d⟩,rfl,rfl,htk⟩
theorem MK.fin {P s ys} {h':Heap} {a tk} (g:G ρ P H s) (hq:MK ys H Q) (hn:s.heap.get? a = none) (hk:∀ b o,s.heap.get? b = some o→h'.get? b = some o)
  {vs n} (ho:h'.get? a = some (tV vs n)) (r:zU ρ s.heap (Dm H P) ys vs) (htk:s.toks ≤ tk):FR ρ P s H (tG ρ P Q) (.ref a) { s with heap:=h',toks:=tk }:=by
 have st:zX (Dm H P) s.heap (Dm H P) h':=fun b o e n=>⟨hk b o e,n⟩
 have hH:H a = none:=g.rep.new hn
 have nD:¬ Dm H P a:=fun q=>q.elim (fun q=>q hH) fun q=>by obtain ⟨U,o,e⟩:=g.pin _ q;rw [hn] at e;cases e
 rcases hq with q | q
 ·exact ⟨H,vR g hk htk,.lst ys,⟨a,vs,n,rfl,nD,ho,r.mono st⟩,q⟩
 ·have hs':∀ b ob,b ≠ a→s.heap.get? b = some ob→h'.get? b = some ob:=fun b ob U e=>hk b ob e
  have ha:H a ≠ none∨s.heap.get? a = none:=.inr hn
  have x:pX H s.heap (upd H a (.list ys)) h':=pX.put hs' ha
  exact ⟨upd H a (.list ys),⟨x,g.rep.put hs' ha (by rw [hH];intro x q;cases q) ⟨vs,n,ho,r.mono (x.stays (P:=P))⟩,rfl,rfl,htk⟩,.ref _,rfl,q _ hH⟩
noncomputable def iL (ns:List Int):List AV:=ns.map .int
theorem zU.intsAre {h D}:∀ {ns:List Int} {vs:List Value},zU ρ h D (iL ns) vs→IntsAre vs ns
 | [],_,c=>by cases c;exact .nil
 | n :: ns,_,⟨_,_,rfl,⟨t,rfl⟩,r⟩=>.cons n t (zU.intsAre r)
theorem sT {h D}:∀ {ns:List Int} {vs:List Value},IntsAre vs ns→zU ρ h D (iL ns) vs
 | _,_,.nil=>rfl
 | _,_,.cons n t r=>⟨_,_,rfl,⟨t,rfl⟩,sT r⟩
theorem zU.strsAre {h D}:∀ {ns:List Str} {vs:List Value},zU ρ h D (ns.map .str) vs→StrsAre vs ns
 | [],_,c=>by cases c;exact .nil
 | n :: ns,_,⟨_,_,rfl,⟨t,rfl⟩,r⟩=>.cons n t (zU.strsAre r)
theorem any_mem {α:Type} [DecidableEq α] [BEq α] [LawfulBEq α] (k:α) (ns:List α):(ns.any fun x=>x == k) = decide (k∈ns):=by
 by_cases h:k∈ns
 ·simp [h]
 ·simp only [h,decide_false,List.any_eq_false];intro x hx e;exact h (beq_iff_eq.mp e ▸ hx)
theorem yI.inL {av:AV} {ns:List Int} {k:Int} (hL:yJ H av (iL ns)) (q:B (decide (k∈ns)) H):yI ρ l .In (.int k) av H B:=by
 refine .mk ?_
 rintro P s U U g ⟨t,rfl⟩ ca A hA
 refine sealG ?_
 intro Gs
 obtain ⟨a,vs,n,rfl,ho,cl⟩:=hL.at g ca
 exact in_list_ints ⟨_,ho,rfl,n,rfl⟩ cl.intsAre ⟨H,.refl g.rep,_,rfl,by rw [any_mem];exact q⟩
theorem tH {av:AV} {ns:List Int} {k:Int} (hL:yJ H av (iL ns)) (q:B (!decide (k∈ns)) H):yI ρ l .NotIn (.int k) av H B:=by
 refine .mk ?_
 rintro P s U U g ⟨t,rfl⟩ ca A hA
 refine sealG ?_
 intro Gs
 obtain ⟨a,vs,n,rfl,ho,cl⟩:=hL.at g ca
 exact notin_list_ints ⟨_,ho,rfl,n,rfl⟩ cl.intsAre ⟨H,.refl g.rep,_,rfl,by rw [any_mem];exact q⟩
theorem yI.inT {ns:List Str} {k:Str} (q:B (decide (k∈ns)) H):yI ρ l .In (.str k) (.tup (ns.map .str)) H B:=by
 refine .mk ?_
 rintro P s U U g ⟨t,rfl⟩ ⟨a,vs,n,rfl,U,ho,cl⟩ A hA
 exact in_tuple_strs (items:=vs.toArray) ⟨_,ho,rfl,n,rfl⟩ (by simpa using cl.strsAre) ⟨H,.refl g.rep,_,rfl,by rw [any_mem];exact q⟩
theorem yI.neNil {av:AV} {ys:List AV} (hL:yJ H av ys) (hz:l ≤ 50) (q:B (!ys.isEmpty) H):yI ρ l .NotEq av (.lst []) H B:=by
 refine .mk ?_
 rintro P s U U g ca ⟨b,us,n2,rfl,U,hob,clb⟩ A hA
 refine sealG ?_
 intro Gs
 obtain ⟨a,vs,n,rfl,ho,cl⟩:=hL.at g ca
 have hus:us = []:=clb
 subst hus
 have hl:=cl.length
 show wpAny _ _ (richCompare .NotEq _ _) _ _ _
 cases hys:ys with
 | nil=>
  subst hys
  have:vs = []:=List.eq_nil_of_length_eq_zero hl
  subst this
  exact richCompare_meets_room ⟨_,ho,rfl⟩ ⟨_,hob,rfl⟩ F.slot_list_ne F.entry_list_ne (F.args_list_ne_2 _ _) (SeqAt.list_neAt a b #[] #[] n n2 none none #[] #[] rfl (fun U=>true)) ⟨ho,hob,fun j h1=>absurd h1 (Nat.not_lt_zero _),by simp,H,.refl g.rep,_,rfl,q⟩ (hA.units hz)
 | cons y ys'=>
  have hne:vs ≠ []:=by rintro rfl;rw [hys] at hl;simp at hl
  refine richCompare_meets_room ⟨_,ho,rfl⟩ ⟨_,hob,rfl⟩ F.slot_list_ne F.entry_list_ne (F.args_list_ne_2 _ _) (SeqAt.list_ne_lengthsAt a b vs.toArray #[] n n2 none none #[] #[] ?_) ⟨ho,hob,by simp,H,.refl g.rep,_,rfl,by rw [hys] at q;exact q⟩ (hA.units hz)
  cases vs with
  | nil=>exact absurd rfl hne
  | cons=>simp
theorem neg_at {k n:Nat} (h:k < n):((n:Int) - 1 + -(k:Int)).toNat = n - 1 - k:=by
 have e:((n:Int) - 1 + -(k:Int)) = ((n - 1 - k:Nat):Int):=by
  rw [Int.natCast_sub (Nat.le_sub_one_of_lt h),Int.natCast_sub (Nat.lt_of_le_of_lt (Bv _) h)];rfl
 rw [e];rfl
theorem wL {a b:AV} {xs ys:List AV} (ha:yJ H a xs) (hb:yJ H b ys) (hz:xs.length + ys.length ≤ sizeLine) (q:MK (xs ++ ys) H Q):xW ρ l .Add a b H Q:=by
 refine .mk ?_
 rintro P s U U g ca cb A hA
 refine sealG ?_
 intro Gs
 obtain ⟨a,vs,n,rfl,ho,cl⟩:=ha.at g ca
 obtain ⟨b,us,n2,rfl,hob,clb⟩:=hb.at g cb
 have hl:=cl.length
 have hlb:=clb.length
 refine wpAny_binaryOp_concat (T:="list") (id:="list.__add__") ⟨_,ho,rfl⟩ ⟨_,hob,rfl⟩ noFill_list_add seq_list_add (call_meets F.slot_list_add ⟨_,ho,rfl⟩ F.entry_list_add (F.args_list_add_2 _ _) (AutoSeq1.list___add___list_list_0 a vs.toArray n b us.toArray n2 (by simp;rw [hl,hlb];exact hz)) ⟨ho,hob,?_⟩)
 exact MK.fin (vs:=vs ++ us) (n:=0) g q (zW g).1 (fun b o e=>As _ e) (by rw [Au _ rfl];simp) (cl.append clb) (Ag _)
theorem zE.len {av:AV} {ys:List AV} (hL:yJ H av ys) (hz:ys.length ≤ sizeLine) (q:Q (.int ys.length) H):zE ρ l (.con (.builtin "len")) [av] H Q:=by
 refine .mk ?_
 rintro P s U U g rfl ⟨va,U,rfl,ca,rfl⟩ A hA
 refine sealG ?_
 intro Gs
 obtain ⟨a,vs,n,rfl,ho,cl⟩:=hL.at g ca
 have hl:=cl.length
 refine call_len_list (items:=vs.toArray) ⟨_,ho,rfl,n,rfl⟩ (by simp only [Bo];rw [hl];exact int63 hz) ⟨H,g.tok (Nat.le_succ_of_le (Nat.le_succ _)),.int ys.length,⟨s.toks + 1,by simp [hl]⟩,q⟩
theorem xP {n:Int} (q:Q (.rng 0 n) H):zE ρ l (.con (.type "range")) [.int n] H Q:=by
 refine .mk ?_
 rintro P s U U g rfl ⟨va,U,rfl,⟨t,rfl⟩,rfl⟩ A hA
 exact call_range_1 ⟨H,vR g (fun b o e=>As _ e) (Nat.le_succ_of_le (Nat.le_succ _)),.rng 0 n,⟨_,_,_,_,rfl,rH g,Au _ rfl⟩,q⟩
theorem sV {m n:Int} (q:Q (.rng m n) H):zE ρ l (.con (.type "range")) [.int m,.int n] H Q:=by
 refine .mk ?_
 rintro P s U U g rfl ⟨va,U,rfl,⟨t,rfl⟩,U,U,rfl,⟨u,rfl⟩,rfl⟩ A hA
 exact call_range_2 ⟨H,vR g (fun b o e=>As _ e) (Nat.le_succ _),.rng m n,⟨_,_,_,_,rfl,rH g,Au _ rfl⟩,q⟩
theorem vK {av:AV} {ys:List AV} (hL:yJ H av ys) (hz:ys.length ≤ sizeLine) (q:MK ys H Q):zE ρ l (.con (.type "list")) [av] H Q:=by
 refine .mk ?_
 rintro P s U U g rfl ⟨va,U,rfl,ca,rfl⟩ A hA
 refine sealG ?_
 intro Gs
 obtain ⟨a,vs,n,rfl,ho,cl⟩:=hL.at g ca
 have hl:=cl.length
 exact call_list_seq a (.inl rfl) ho rfl rfl (fun h' c' hk hn=>MK.fin (vs:=vs) g q (zW g).1 hk hn cl (Ag _)) (by simpa using hl ▸ hz)
theorem uP {lo hi:Int} (hs:Builtin.Range.small lo hi 1 = true) (hz:(hi - lo).toNat ≤ 2 ^ 24) (hlo:lo ≤ hi) (q:MK (wC lo hi) H Q):zE ρ l (.con (.type "list")) [.rng lo hi] H Q:=by
 refine .mk ?_
 rintro P s U U g rfl ⟨va,U,rfl,⟨a,t,u,t',rfl,U,ho⟩,rfl⟩ A hA
 refine vB (call_list_range hA.1 ho hs (n:=(hi - lo).toNat) ?_ hz fun h' tk acc' c' hk hn hi' htk=>MK.fin (vs:=acc'.toList) (n:=c') g q (zW g).1 hk hn ?_ htk)
 ·rw [rangeSize_nat]
 ·obtain ⟨hsz,hat⟩:=hi'
  have key:∀ (ys:List AV) (vs:List Value),ys.length = vs.length→(∀ (j:Nat) x v,ys[j]? = some x→vs[j]? = some v→xM ρ s.heap (Dm H P) x v)→zU ρ s.heap (Dm H P) ys vs:=by
   intro ys
   induction ys with
   | nil=>intro vs hl U;exact List.eq_nil_of_length_eq_zero hl.symm
   | cons y ys ih=>
    intro vs hl hc
    cases vs with
    | nil=>cases hl
    | cons v vs=>exact ⟨v,vs,rfl,hc 0 y v rfl rfl,ih vs (Nat.succ.inj hl) fun j x v e1 e2=>hc (j + 1) x v (by simpa using e1) (by simpa using e2)⟩
  refine key _ _ (by simp [wC,hsz]) fun j x v e1 e2=>?_
  obtain ⟨t,rfl⟩:=hat j v (by simpa using e2)
  unfold wC at e1
  rw [Bg] at e1
  obtain ⟨i,hi,rfl⟩:=Bi.mp e1
  have:i = j:=by
   obtain ⟨h1,h2⟩:=Bc.mp hi
   simpa using h2.symm
  subst this
  exact ⟨t,by simp⟩
theorem zE.sorted {av:AV} {ns:List Int} (hL:yJ H av (iL ns)) (hz:ns.length < 64) (q:∀ ns':List Int,ns'.Perm ns→List.Pairwise (fun p q=>p≤q) ns'→MK (iL ns') H Q):zE ρ l (.con (.builtin "sorted")) [av] H Q:=by
 refine .mk ?_
 rintro P s U U g rfl ⟨va,U,rfl,ca,rfl⟩ A hA
 refine sealG ?_
 intro Gs
 obtain ⟨a,vs,n,rfl,ho,cl⟩:=hL.at g ca
 have hl:=cl.length
 refine sorted_ints (vs:=vs) ⟨_,ho,rfl,n,rfl⟩ cl.intsAre (by rw [hl];simpa [iL] using hz) fun out ns' hi hp hs=>?_
 refine sealG ?_
 intro Gs
 obtain ⟨e,he⟩:=sortedAll_at s.heap vs out
 have hn:s.heap.get? (s.heap.objs.size + 1) = none:=by
  cases q:s.heap.get? (s.heap.objs.size + 1) with
  | none=>rfl
  | some o=>exact absurd (Aq q) (Nat.not_lt.mpr (Nat.le_succ _))
 exact MK.fin (vs:=out.toList) (n:=e) g (q ns' hp hs) hn (fun b o e=>sortedAll_old e) (by simpa using he) (sT hi) (Ag _)
theorem zE.min {a b:Int} (q:Q (.int (if b < a then b else a)) H):zE ρ l (.con (.builtin "min")) [.int a,.int b] H Q:=by
 refine .mk ?_
 rintro P s U U g rfl ⟨va,U,rfl,⟨t,rfl⟩,U,U,rfl,⟨u,rfl⟩,rfl⟩ A hA
 refine vB (min_two_ints hA.1 fun h' tk hk htk=>⟨H,vR g hk htk,_,?_,q⟩)
 split
 ·exact ⟨_,rfl⟩
 ·exact ⟨_,rfl⟩
theorem zE.str {a:Int} (h1:-(2 ^ 1920) < a) (h2:a < 2 ^ 1920) (q:Q (.str (Str.ofString (toString a))) H):zE ρ l (.con (.type "str")) [.int a] H Q:=by
 refine .mk ?_
 rintro P0 s U U g rfl ⟨va,U,rfl,⟨t,rfl⟩,rfl⟩ A hA
 exact P.str_of_int (shown h1 h2 (Int.le_refl _)) ⟨H,g.tok (Nat.le_succ _),.str _,⟨_,rfl⟩,q⟩
theorem zE.isStr {x:Str} (q:Q (.bool true) H):zE ρ l (.con (.builtin "isinstance")) [.str x,.con (.type "str")] H Q:=by
 refine .mk ?_
 rintro P s U U g rfl ⟨va,U,rfl,⟨t,rfl⟩,U,U,rfl,rfl,rfl⟩ A hA
 exact IsiPair.str_str ⟨H,.refl g.rep,.bool true,rfl,q⟩
theorem zE.index {av:AV} {ns:List Int} {k:Int} {j:Nat} (hL:yJ H av (iL ns)) (hz:ns.length ≤ sizeLine) (hj:ns[j]? = some k) (hm:∀ i,i < j→ns[i]? ≠ some k) (q:Q (.int j) H):zE ρ l (.con (.builtin "list.index")) [av,.int k] H Q:=by
 refine .mk ?_
 rintro P s U U g rfl ⟨va,U,rfl,ca,U,U,rfl,⟨t,rfl⟩,rfl⟩ A hA
 refine sealG ?_
 intro Gs
 obtain ⟨a,vs,n,rfl,ho,cl⟩:=hL.at g ca
 have hi:=cl.intsAre
 have hl:=cl.length
 have hl':vs.length = ns.length:=by simpa [iL] using hl
 have at_:∀ {vs:List Value} {ns:List Int},IntsAre vs ns→∀ i:Nat,∀ hv:i < vs.length,∃ t,vs[i] = .int (ns.getD i 0) t∧i < ns.length:=by
  intro vs ns h
  induction h with
  | nil=>intro i hv;exact absurd hv (Nat.not_lt_zero _)
  | cons n t r ih=>
   intro i hv
   cases i with
   | zero=>exact ⟨t,rfl,by simp⟩
   | succ i=>obtain ⟨t,a,b⟩:=ih i (by simpa using hv);exact ⟨t,by simpa using a,by simpa using b⟩
 have hjl:j < ns.length:=(Bc.mp hj).1
 let e:Value→Bool:=fun v=>match v with | .int x _=>x == k | _=>false
 have he:∀ i (hv:i < vs.length),e vs[i] = (ns.getD i 0 == k):=fun i hv=>by
  obtain ⟨t,q,U⟩:=at_ hi i hv
  rw [q]
 refine call_meets F.slot_list_index ⟨_,ho,rfl⟩ F.entry_list_index (F.args_list_index_2 _ _) (MeetsSeq.list_index a vs.toArray n (.int k t) e ?_ j (by simp;exact zy 4 3 0x1000118581781752652 rfl hl hl' hjl) (Int.lt_of_le_of_lt (Int.ofNat_le.mpr (Ah (Nat.le_of_lt hjl) hz)) (by decide)) ?_ ?_) ⟨ho,H,g.tok (Nat.le_succ _),.int j,⟨_,rfl⟩,q⟩
 ·intro y hy
  obtain ⟨i,hv,rfl⟩:=Cc (show y∈vs from by simpa using hy)
  rw [he i hv]
  obtain ⟨t',q,U⟩:=at_ hi i hv
  rw [q]
  exact MeetsSeq.EqGives.int _ _ _ _
 ·have:=he j (by omega)
  simp only [List.getElem_toArray]
  rw [this]
  simp [List.getD_eq_getElem?_getD,hj]
 ·intro i hi' hij
  have:=he i (by simpa using hi')
  simp only [List.getElem_toArray]
  rw [this]
  have h2:=hm i hij
  have h3:i < ns.length:=by exact zy 5 4 0x10000119791891781752652 rfl hl hl' hjl hij
  simp [List.getD_eq_getElem?_getD,h3] at h2 ⊢
  exact h2
theorem AS.unp {ts:List Expr} {k:Nat} {p:Pos} {av:AV} {vs:List AV} {Q:zA→zN→Prop} (hL:yJ H av vs) (h:xN ρ l env ts vs H m Q) (hl:autoParam (ts.length = vs.length) rt)
  (he:autoParam ((assignEach ts env).length = ts.length) rt) (hf:autoParam (List.findIdx? (fun x=>x.fst) (assignEach ts env) = none) rt):AS ρ l env (.Tuple ts k p) av H m Q:=.mk fun P s cv g F c A hA=>by
 obtain ⟨a,cvs,n,rfl,ho,cl⟩:=hL.at g c
 rw [arm_assign_Tuple]
 refine Ak (Al ?_)
 unfold unpack
 rw [he,hl,hf,← cl.length,show cvs.length = cvs.toArray.size from by simp]
 refine Ak (Am (kun_itemsOf (items:=cvs.toArray) hA.1 ⟨_,ho,rfl,n,rfl⟩ fun h' hx=>?_))
 have f0:Fin ρ P s H { s with heap:=h' } H:=vR g (fun b o e=>hx b o (Bb (Aq e)) e) (Ag _)
 rw [show cvs.toArray.toList = cvs from by simp]
 exact (h.out P { s with heap:=h' } cvs (g.fin f0) (F.ext f0.ext) (cl.mono f0.ext.stays)).run hA fun U s2 H2 m2 f2 F2 q=>⟨H2,m2,f0.toS.trans f2,F2,q⟩
theorem zE.dpopn {av d:AV} {kvs:List (Int×AV)} {k:Int} (hL:uZ H av kvs) (hx:yE kvs k = none) (q:Q d H):zE ρ l (.con (.builtin "dict.pop")) [av,.int k,d] H Q:=by
 refine .mk ?_
 rintro P s U U g rfl ⟨va,U,rfl,ca,U,U,rfl,⟨t,rfl⟩,vd,U,rfl,cd,rfl⟩ A hA
 refine sealG ?_
 intro Gs
 obtain ⟨a,cv,rfl,hs,ho,r⟩:=hL.at g ca
 exact call_meetsIn F.slot_dict_pop ho.typeIs F.entry_dict_pop (F.args_dict_pop_3 _ _ _) (meets_dict_pop_default ρ.iK a (Br ρ.prog ρ.w k t) hs rfl vd) ⟨cv,ho,r.look.2 hx,H,g.tok (Nat.le_succ _),d,cd,q⟩
theorem EX.methS {o:Expr} {x:Str} {id:String} {apos pos:Pos} {es:List Expr}
  (h:EX ρ l env o H m fun ov H1=>∃ y,ov = .str y∧∀ P s t,G ρ P H1 s→zG ρ env P H1 s.heap m→WP ρ l P H1 s (callWith pos (.builtin id) [.str y t] (backTo pos (starEach es env)) []) (tG ρ P Q))
  (slot:Slot "str" x id) (ty:typeOf (.builtin id) = pure (.type "method_descriptor"))
  (he:autoParam (es.all (fun e=>!isStarred e) = true) rt) (hn:es.length < 30:=by decide) (hb:autoParam (attributeBase o x env (eval o env) = eval o env) rt) (hp:autoParam ((apos.endLine == pos.line) = true) rt) :
  EX ρ l env (.Call (.Attribute o x apos) es [] pos) H m Q:=.mk fun P s g F=>by
 show WP _ _ _ _ _ (attributeBase o x env (eval o env) >>= _) _
 rw [hb]
 refine WP.bind ((h.out P s g F).mono fun v s1 H1 f1 p1=>p1.rec fun a1 c1 p2=>p2.elim fun y p3=>p3.elim fun ea q1=>?_)
 subst ea
 have g1:=g.fin f1
 refine WP.bind (WP.standAt g1.rep ?_)
 unfold methodCall
 have hform:methodCallForm (es.length + 0) (backTo pos (starEach es env)) (backToKw pos (keywordEach [] env)) = true:=by
  unfold methodCallForm
  have:(backTo pos (starEach es env)).all (fun x=>!x.1) = true:=by
   have z:=wD (env:=env) pos es he
   rw [List.any_eq_false] at z
   exact Aw.mpr fun y hy=>by simpa using z y hy
  rw [this]
  simp [show keywordEach [] env = [] from rfl,backToKw];exact hn
 have hl:es.length + ([]:List Keyword).length = es.length + 0:=rfl
 rw [hl,hform]
 refine WP.bind (WP.holding ?_)
 show WP _ _ _ _ _ (getMethod v x _) _
 obtain ⟨t,rfl⟩:=c1
 intro A hA
 with_reducible refine GM.of (.str y t) (typeIs_str _ _ _) slot ty GM.noRef ⟨H1,.refl g1.rep,?_⟩
 refine WP.bind ?_
 unfold methodCallPos
 simp only [Ax,hp,Bool.false_or,Ay]
 refine WP.pure g1.rep ?_
 exact q1 P s1 t g1 (F.ext f1.ext)
theorem EX.replace {oe:Expr} {y z:Str} {k1 k2:Nat} {apos p1 p2 pos:Pos} (h:EX ρ l env oe H m fun v H1=>∃ x,v = .str x∧x.length ≤ 1048576∧Q (.str (Txt.replace x y z)) H1)
  (hyz:(y == z) = false) (hz:z.length ≤ 14) (hb:autoParam (attributeBase oe "replace" env (eval oe env) = eval oe env) rt) (hp:autoParam ((apos.endLine == pos.line) = true) rt) :
  EX ρ l env (.Call (.Attribute oe "replace" apos) [.Constant (.str y) k1 p1,.Constant (.str z) k2 p2] [] pos) H m Q:=by
 refine EX.methS (h.mono fun av H1 ⟨x,e,hx,q⟩=>⟨x,e,fun P s t g F A hA=>?_⟩) F.slot_str_replace F.type_str_replace rfl (by simp) hb hp
 refine callWith_of (P:=fun U=>True) (by rw [wD pos _ rfl];rfl) (fun hp U=>⟨.machine,.inr (.inl rfl),fun A Q E s U q=>Aj q⟩) ?_
 refine tM (wD pos _ rfl) (show wpAny _ _ (spliced ((false,eval (.Constant (.str y) k1 p1) env) :: (false,eval (.Constant (.str z) k2 p2) env) :: [])) _ _ _ from spliced_cons (wpAny_Constant_str (spliced_cons (wpAny_Constant_str (spliced_nil ⟨trivial,?_⟩)))))
 have h0:=g.tk
 exact vB (SC.replaceW (show s.toks ≠ 0 by exact zy 1 1 282918440554513 rfl h0) (show s.toks + 1 ≠ 0 by exact zy 1 1 4526695078318097 rfl h0) (show s.toks ≠ s.toks + 1 by exact wM 20268326 rfl) hyz hx hz fun t' k htk=>⟨H1,g.tok (Ah (Nat.le_succ_of_le (Nat.le_succ _)) htk),.str _,⟨_,rfl⟩,q⟩)
structure pT (ρ:Bs) (l:Nat) (env:Env) (o:Option Expr) (H:zA) (m:zN) (Q:Option Int→zA→Prop):Prop where
 mk ::
 out:match o with
 | none=>Q none H
 | some e=>EX ρ l env e H m fun v H'=>∃ k,v = .int k∧Q (some k) H'
theorem pT.run {o:Option Expr} {Q:Option Int→zA→Prop} (h:pT ρ l env o H m Q) {P:Addr→Prop} {s:Shared} {A:Around} {Q':Value→Shared→Prop} (hA:sW l A) (g:G ρ P H s) (F:zG ρ env P H s.heap m)
  (q:∀ v s' H' k,Fin ρ P s H s' H'→IsPart v k→Q k H'→Q' v s'):wpAny ρ.M A (evalPart o env) Q' (fun U U=>False) s:=by
 cases o with
 | none=>exact Aj (q _ s H none (.refl g.rep) .none h.out)
 | some e=>
  refine (h.out.out P s g F).run hA fun v s' H' f p=>?_
  obtain ⟨av,c,k,e,p⟩:=p
  subst e
  exact c.elim fun t e=>e ▸ q _ s' H' (some k) f (.int k t) p
inductive CutP (av:AV) (Q:AV→zA→Prop) (a b c:Option Int) (H:zA):Prop
 | mk:c ≠ some 0→∀ ys zs,yJ H av ys→ys.length ≤ sizeLine→(∀ h D vs,zU ρ h D ys vs→zU ρ h D zs (slicePick vs.toArray a b c).toList)→MK zs H Q→CutP av Q a b c H
noncomputable abbrev kK2 (l:Nat) (env:Env) (st:Option Expr) (m:zN) (av:AV) (Q:AV→zA→Prop) (a:Option Int):Option Int→zA→Prop:=fun b H=>pT ρ l env st H m (CutP av Q a b)
noncomputable abbrev kK1 (l:Nat) (env:Env) (hi st:Option Expr) (m:zN) (av:AV) (Q:AV→zA→Prop):Option Int→zA→Prop:=fun a H=>pT ρ l env hi H m (kK2 l env st m av Q a)
noncomputable abbrev kK (l:Nat) (env:Env) (lo hi st:Option Expr) (m:zN) (Q:AV→zA→Prop):AV→zA→Prop:=fun av H=>pT ρ l env lo H m (kK1 l env hi st m av Q)
theorem slice_tail {P:Addr→Prop} {s:Shared} {A:Around} {lo hi st:Option Expr} {p:Pos} {x va vb vc:Value} {av:AV} {a b c:Option Int} {s0:Shared} {H0:zA} {v:Expr} (f:Fin ρ P s0 H0 s H) (g:G ρ P H s) (cx:xM ρ s.heap (Dm H P) av x) (ia:IsPart va a) (ib:IsPart vb b) (ic:IsPart vc c) (q:CutP av Q a b c H) :
  wpAny ρ.M A (subscriptTail v (.Slice lo hi st p) x (.ref s.heap.objs.size)) (FR ρ P s0 H0 (tG ρ P Q)) (fun U U=>False) { s with heap:=s.heap.push { cls:=.type "slice",data:=.fields #[va,vb,vc] } }:=by
 refine sealG ?_
 intro Gs
 obtain ⟨hc,ys,zs,hL,hz,hp,mk⟩:=q
 obtain ⟨x,vs,n,rfl,ho,cl⟩:=hL.at g cx
 have kp:∀ b o,s.heap.get? b = some o→(s.heap.push { cls:=.type "slice",data:=.fields #[va,vb,vc] }).get? b = some o:=fun b o e=>As _ e
 have f5:Fin ρ P s H { s with heap:=s.heap.push { cls:=.type "slice",data:=.fields #[va,vb,vc] } } H:=vR g kp (Ag _)
 refine tail_any (T:="list") (id:="list.__getitem__") ⟨_,kp _ _ ho,rfl⟩ vF (wpAny_getItem_list_slice (items:=vs.toArray) (lo:=a) (hi:=b) (st:=c) ⟨_,kp _ _ ho,rfl,n,rfl⟩ ⟨_,Au _ rfl,rfl,rfl⟩ ia ib ic hc ?_ (by rw [Bo,cl.length];exact hz)) (show subscripted (.Slice lo hi st p) false (.ref x) (.ref s.heap.objs.size) = operate (match st with | none=>[.ref s.heap.objs.size,.ref x] | some _=>[.ref x,.ref s.heap.objs.size]) (getItem (.ref x) (.ref s.heap.objs.size)) from by cases st <;> rfl)
 have g5:=g.fin f5
 exact (MK.fin (vs:=(slicePick vs.toArray a b c).toList) (n:=0) (tk:=s.toks) g5 mk (zW g5).1 (fun b o e=>As _ e) (Au _ rfl) ((hp _ _ _ cl).mono f5.ext.stays) (Ag _)).rec fun H' f6 p=>⟨H',(f.trans f5).trans f6,p⟩
theorem pY {v:Expr} {lo hi st:Option Expr} {p pos:Pos} (h:EX ρ l env v H m (kK l env lo hi st m Q)):EX ρ l env (.Subscript v (.Slice lo hi st p) pos) H m Q:=.mk fun P s g F A hA=>
 Subscript_ ((h.out P s g F).run hA fun v1 s1 H1 f1 p1=>p1.rec fun a1 c1 q1=>wpAny_Slice (q1.run hA (g.fin f1) (F.ext f1.ext) fun va s2 H2 a f2 ia q2=>
  q2.run hA ((g.fin f1).fin f2) ((F.ext f1.ext).ext f2.ext) fun vb s3 H3 b f3 ib q3=>q3.run hA (((g.fin f1).fin f2).fin f3) (((F.ext f1.ext).ext f2.ext).ext f3.ext) fun vc s4 H4 c f4 ic q4=>
   slice_tail (((f1.trans f2).trans f3).trans f4) ((((g.fin f1).fin f2).fin f3).fin f4) (c1.mono (((f2.trans f3).trans f4).ext.stays (P:=P))) ia ib ic q4))
theorem zU.take {h D}:∀ (n:Nat) {xs:List AV} {vs:List Value},zU ρ h D xs vs→zU ρ h D (xs.take n) (vs.take n)
 | 0,_,_,_=>by simp [zU]
 | n + 1,[],_,c=>by cases c;rfl
 | n + 1,_ :: _,_,⟨v,vs',rfl,c,r⟩=>⟨v,vs'.take n,rfl,c,zU.take n r⟩
theorem zU.drop {h D}:∀ (n:Nat) {xs:List AV} {vs:List Value},zU ρ h D xs vs→zU ρ h D (xs.drop n) (vs.drop n)
 | 0,_,_,c=>c
 | n + 1,[],_,c=>by cases c;rfl
 | n + 1,_ :: _,_,⟨v,vs',rfl,c,r⟩=>zU.drop n r
theorem zU.reverse {h D}:∀ {xs:List AV} {vs:List Value},zU ρ h D xs vs→zU ρ h D xs.reverse vs.reverse
 | [],_,c=>by cases c;rfl
 | _ :: _,_,⟨v,vs',rfl,c,r⟩=>by rw [List.reverse_cons,List.reverse_cons];exact (zU.reverse r).push c
theorem pS {ys:List AV} (k:Nat):∀ h D vs,zU ρ h D ys vs→zU ρ h D (ys.take k) (slicePick vs.toArray none (some (k:Int)) none).toList:=fun h D vs c=>by
 rw [slicePick_upto'];simpa using c.take k
theorem Pick.run {ys:List AV} (a b:Nat) (hb:b ≤ ys.length) (hab:a ≤ b):∀ h D vs,zU ρ h D ys vs→zU ρ h D ((ys.drop a).take (b - a)) (slicePick vs.toArray (some (a:Int)) (some (b:Int)) none).toList:=fun h D vs c=>by
 rw [slicePick_run _ _ _ (by simpa [c.length] using hb) hab];simpa using (c.drop a).take (b - a)
theorem sJ {α β:Type} {f g:α→Option β}:∀ {l:List α},(∀ x∈l,f x = g x)→l.filterMap f = l.filterMap g
 | [],_=>rfl
 | x :: l,h=>by rw [Cd,Cd,h x (.head _),sJ fun y hy=>h y (.tail _ hy)]
theorem slicePick_rev (items:Array Value):slicePick items none none (some (-1)) = items.toList.reverse.toArray:=by
 unfold slicePick
 have e:sliceBounds none none (some (-1)) items.size = ((items.size:Int) - 1,-1,-1):=rfl
 rw [e]
 congr 1
 have hr:sliceRange ((items.size:Int) - 1) (-1) (-1) = (List.range items.size).map fun k=>items.size - 1 - k:=by
  unfold sliceRange
  have:(if (-1:Int) > 0 then (if ((items.size:Int) - 1) < -1 then (-1 - ((items.size:Int) - 1) + -1 - 1) / -1 else 0) else (if ((items.size:Int) - 1) > -1 then ((items.size:Int) - 1 - -1 - -1 - 1) / (- -1) else 0)) = (items.size:Int):=by
   rw [Aa (by decide)]
   split
   ·rw [show (- -1:Int) = 1 from rfl,Int.ediv_one];exact wM 0x131305201111114011140111520303030305 rfl
   ·exact zy 1 1 0x1041140520015111520301114046 rfl ‹_›
  rw [this]
  show List.map _ (List.range ((items.size:Int)).toNat) = _
  rw [Ce]
  refine Cf fun k hk=>?_
  have:=Cg.mp hk
  rw [Int.neg_one_mul];exact neg_at this
 rw [hr,List.filterMap_map]
 have:∀ (n:Nat) (xs:List Value),n ≤ xs.length→(List.range n).filterMap ((fun k=>xs[k]?) ∘ fun k=>n - 1 - k) = (xs.take n).reverse:=by
  intro n
  induction n with
  | zero=>intro xs U;rfl
  | succ n ih=>
   intro xs hn
   rw [List.range_succ_eq_map,Cd]
   have h0:xs[n]? = some xs[n]:=Ci (ω15 hn)
   simp only [Function.comp,Nat.add_sub_cancel,Nat.sub_zero,h0]
   rw [List.filterMap_map,Cj,h0,List.reverse_append]
   simp only [Option.toList,List.reverse_cons,List.reverse_nil,List.nil_append,List.singleton_append]
   rw [← ih xs (ω16 hn)]
   congr 1
   apply sJ
   intro k hk
   simp only [Function.comp]
   congr 1
   have:=Cg.mp hk
   exact zw 2 0 3 1 0x11000711110001091110010010b11001010a00010000001000d1000100100c01000001000c100110100b001000001000c100100100b0100001000b10110100a0000972651580111605460 rfl this
 have z:=this items.size items.toList (by simp)
 rw [List.take_of_length_le (by simp)] at z
 rw [← z]
 apply sJ
 intro k U
 simp
theorem Pick.rev {ys:List AV}:∀ h D vs,zU ρ h D ys vs→zU ρ h D ys.reverse (slicePick vs.toArray none none (some (-1))).toList:=fun h D vs c=>by
 rw [slicePick_rev];simpa using c.reverse
end
end
section
open SetTable in
section
noncomputable def oG (mask:Nat):Nat→Nat×Nat→Nat×Nat
 | 0,x=>x
 | n + 1,x=>oG mask n (leap mask x.1 x.2)
theorem oS (mask a b:Nat) (x):oG mask (a + b) x = oG mask b (oG mask a x):=by
 induction a generalizing x with
 | zero=>simp [oG]
 | succ a ih=>rw [Nat.succ_add];exact ih _
theorem oF (mask n:Nat) (x:Nat×Nat):(oG mask n x).2 = x.2 / 32 ^ n:=by
 induction n generalizing x with
 | zero=>simp [oG]
 | succ n ih=>rw [oG,ih];simp only [leap];rw [Nat.div_div_eq_div_mul,Nat.pow_succ,Nat.mul_comm]
theorem stp_le (mask n:Nat) (x:Nat×Nat) (h:x.1 ≤ mask):(oG mask n x).1 ≤ mask:=by
 induction n generalizing x with
 | zero=>exact h
 | succ n ih=>exact ih _ (by simp only [leap];exact Ck (Nat.mod_lt _ (Nat.succ_pos _)))
noncomputable def orb (mask:Nat):List Nat:=(List.range (mask + 1)).map fun n=>(oG mask n (0,0)).1
noncomputable def rO:List Nat:=[7,15,31,63,127,255]
noncomputable def walk (mask:Nat):Nat→Nat→List Nat→List Nat
 | 0,_,out=>out
 | n + 1,i,out=>walk mask n ((i * 5 + 1) % (mask + 1)) (i :: out)
noncomputable def full (mask:Nat):Bool:=(List.range (mask + 1)).all (fun j=>(walk mask (mask + 1) 0 []).elem j) && (oG mask (mask + 1) (0,0)).1 == 0
theorem full_masks:rO.all full = true:=by decide +kernel
theorem stp_zero (mask n:Nat) (i:Nat):(oG mask n (i,0)).2 = 0:=by rw [oF];simp
theorem walk_mem (mask:Nat):∀ (n i:Nat) (out:List Nat) (j:Nat),j∈walk mask n i out→j∈out∨∃ k < n,(oG mask k (i,0)).1 = j
 | 0,_,_,_,h=>.inl h
 | n + 1,i,out,j,h=>by
  rcases walk_mem mask n _ _ j h with h | ⟨k,hk,e⟩
  ·rcases Be.mp h with rfl | h
   ·exact .inr ⟨0,Nat.succ_pos _,rfl⟩
   ·exact .inl h
  ·refine .inr ⟨k + 1,Nat.succ_lt_succ hk,?_⟩
   rw [oG];simp only [leap]
   rw [show (0:Nat) / 32 = 0 from rfl,Nat.add_zero];exact e
theorem stp_fst (mask n i:Nat):oG mask n (i,0) = ((oG mask n (i,0)).1,0):=by
 have:=stp_zero mask n i
 exact Prod.ext rfl this
theorem reach {mask i j:Nat} (hm:mask∈rO) (hi:i ≤ mask) (hj:j ≤ mask):∃ n ≤ mask,(oG mask n (i,0)).1 = j:=by
 have hf:=Aw.mp full_masks mask hm
 unfold full at hf
 rw [Av,beq_iff_eq,Aw] at hf
 refine sealG ?_
 intro Gs
 obtain ⟨h1,h2⟩:=hf
 have at_:∀ j ≤ mask,∃ k < mask + 1,(oG mask k (0,0)).1 = j:=fun j hj=>by
  have:=h1 j (Cg.mpr (Nat.lt_succ_of_le hj))
  refine sealG ?_
  intro Gs
  rcases walk_mem mask _ _ _ j (List.elem_iff.mp this) with h | h
  ·cases h
  ·exact h
 obtain ⟨a,ha,ea⟩:=at_ i hi
 obtain ⟨b,hb,eb⟩:=at_ j hj
 have ea':oG mask a (0,0) = (i,0):=by rw [stp_fst,ea]
 rcases Nat.le_total a b with h | h
 ·refine ⟨b - a,zw 3 0 1 2 0x110000811010706805706451750 rfl hb h,?_⟩
  rw [← ea',← oS,show a + (b - a) = b by exact zw 2 0 1 1 0x110017110060100107101060067522650560 rfl h];exact eb
 ·refine sealG ?_
  intro Gs
  rcases Nat.eq_or_lt_of_le h with h | h
  ·exact ⟨0,Bv _,by subst h;rw [oG];exact ea.symm.trans eb⟩
  ·refine ⟨mask + 1 + b - a,zw 3 0 1 2 0x110511001706805716451576420 rfl ha h,?_⟩
   rw [← ea',← oS,show a + (mask + 1 + b - a) = (mask + 1) + b by exact zw 3 0 1 1 0x1100171100601141010600764285226451576420 rfl ha,oS,stp_fst mask (mask + 1) 0,h2];exact eb
theorem bits_lt (h:Int):bits h < 2 ^ 64:=(Int.toNat_lt (Int.emod_nonneg _ (by decide))).mpr (Int.emod_lt_of_pos _ (by decide))
theorem reach_all {mask i p j:Nat} (hm:mask∈rO) (hi:i ≤ mask) (hj:j ≤ mask) (hp:p < 2 ^ 64):∃ n < turns mask,(oG mask n (i,p)).1 = j:=by
 have h0:(oG mask 13 (i,p)).2 = 0:=by rw [oF];exact Nat.div_eq_of_lt (Nat.lt_trans hp (by decide))
 obtain ⟨n,hn,e⟩:=reach hm (stp_le mask 13 (i,p) hi) hj
 refine ⟨13 + n,by unfold turns;exact zy 2 1 0x114f1635d1121650 rfl hn,?_⟩
 rw [oS,show oG mask 13 (i,p) = ((oG mask 13 (i,p)).1,0) from Prod.ext rfl h0];exact e
theorem runEnd_le {mask i:Nat} (h:i ≤ mask):i ≤ runEnd mask i∧runEnd mask i ≤ mask:=by unfold runEnd;split;exact ⟨Nat.le_add_right _ _,‹_›⟩;exact ⟨Ag _,h⟩
theorem free_some {mask:Nat} {owner:Array (Option Nat)} (hs:owner.size = mask + 1):∀ (fuel i p n:Nat),i ≤ mask→n < fuel→owner[(oG mask n (i,p)).1]? = some none →
  ∃ j,layClean.free mask owner fuel i p = some j∧j ≤ mask∧owner[j]? = some none
 | 0,_,_,_,_,h,_=>absurd h (Nat.not_lt_zero _)
 | fuel + 1,i,p,n,hi,hn,ho=>by
  unfold layClean.free
  cases hf:(List.range (runEnd mask i + 1 - i)).find? fun k=>(owner.getD (i + k) (some 0)).isNone with
  | some k=>
   have h1:=List.find?_some hf
   have h2:=List.mem_of_find?_eq_some hf
   have:=Cg.mp h2
   have hle:=runEnd_le hi
   refine ⟨i + k,rfl,zw 4 0 1 2 0x10106110101808572086067079517640 rfl this hle,?_⟩
   have hlt:i + k < owner.size:=by exact zw 5 0 1 3 0x100010811001101a0579216808907a7164529840 rfl hs this hle
   rw [Ca hlt]
   simp only [Cl,Ca hlt,Option.getD_some] at h1
   rw [Cm.mp h1]
  | none=>
   have h0:=List.find?_eq_none.mp hf 0 (Cg.mpr (by have:=runEnd_le hi;exact zw 3 0 1 1 0x11051011070801176065075640 rfl this))
   have hne:n ≠ 0:=by
    rintro rfl
    apply h0
    simp only [oG] at ho
    simp [Cl,ho]
   refine sealG ?_
   intro Gs
   obtain ⟨m,rfl⟩:=Nat.exists_eq_succ_of_ne_zero hne
   exact free_some hs fuel (leap mask i p).1 (leap mask i p).2 m (Ck (Nat.mod_lt _ (Nat.succ_pos _))) (Nat.lt_of_succ_lt_succ hn) ho
theorem fm_id_set {c:Nat}:∀ {xs:List (Option Nat)} {j:Nat},xs[j]? = some none→((xs.set j (some c)).filterMap id).Perm (c :: xs.filterMap id)
 | [],_,h=>by simp at h
 | x :: xs,0,h=>by simp at h;subst h;simp
 | x :: xs,j + 1,h=>by
  have ih:=fm_id_set (c:=c) (xs:=xs) (j:=j) (by simpa using h)
  cases x with
  | none=>simpa using ih
  | some y=>simp only [List.set_cons_succ,Cd,id];exact (List.Perm.cons y ih).trans (List.Perm.swap c y _)
theorem nQ:∀ {xs:List (Option Nat)},(xs.filterMap id).length < xs.length→∃ j:Nat,xs[j]? = some none
 | [],h=>by simp at h
 | none :: xs,_=>⟨0,rfl⟩
 | some y :: xs,h=>by
  obtain ⟨j,hj⟩:=nQ (xs:=xs) (by simpa using h)
  exact ⟨j + 1,by simpa using hj⟩
theorem lay_fold {mask:Nat} (hm:mask∈rO):∀ (hs:List Int) (owner:Array (Option Nat)) (c:Nat),owner.size = mask + 1→(owner.toList.filterMap id).Perm (List.range c)→c + hs.length ≤ mask →
  ∃ ow',hs.foldl (fun acc h=>do let (owner,k) ← acc;let j ← layClean.free mask owner (turns mask) (bits h % (mask + 1)) (bits h);pure (owner.setIfInBounds j (some k),k + 1)) (some (owner,c)) = some (ow',c + hs.length) ∧
   ow'.size = mask + 1∧(ow'.toList.filterMap id).Perm (List.range (c + hs.length))
 | [],owner,c,h1,h2,_=>⟨owner,rfl,h1,h2⟩
 | h :: hs,owner,c,h1,h2,h3=>by
  simp only [Cn] at h3
  have hl:(owner.toList.filterMap id).length < owner.toList.length:=by rw [h2.length_eq,Bh,Co,h1];exact zy 3 1 303964792177952 rfl h3
  obtain ⟨j0,hj0⟩:=nQ hl
  have hj0':j0 < owner.size:=by
   have:=(Bc.mp hj0).1
   simpa using this
  obtain ⟨n,hn,e⟩:=reach_all (i:=bits h % (mask + 1)) (p:=bits h) (j:=j0) hm (Ck (Nat.mod_lt _ (Nat.succ_pos _))) (zy 3 2 76585825394058322 rfl h1 hj0') (bits_lt h)
  obtain ⟨j,hj,hle,hjn⟩:=free_some h1 (turns mask) _ (bits h) n (Ck (Nat.mod_lt _ (Nat.succ_pos _))) hn (by rw [e];simpa using hj0)
  rw [List.foldl_cons]
  have:((some (owner,c):Option (Array (Option Nat)×Nat)) >>= fun (x:Array (Option Nat)×Nat)=>layClean.free mask x.1 (turns mask) (bits h % (mask + 1)) (bits h) >>= fun j=>pure (x.1.setIfInBounds j (some x.2),x.2 + 1)) = some (owner.setIfInBounds j (some c),c + 1):=by
   show (layClean.free mask owner (turns mask) (bits h % (mask + 1)) (bits h) >>= fun j=>pure (owner.setIfInBounds j (some c),c + 1)) = _
   rw [hj];rfl
  have ih:=lay_fold hm hs (owner.setIfInBounds j (some c)) (c + 1) (by simpa using h1) (by
   rw [Array.toList_setIfInBounds,List.range_succ]
   exact (fm_id_set (by simpa using hjn)).trans ((List.Perm.cons c h2).trans (List.perm_append_singleton c _).symm)) (zy 3 1 77817197266093344 rfl h3)
  rw [Cn,show c + (hs.length + 1) = c + 1 + hs.length by exact (zu2 5368942460028194 rfl)]
  refine Exists.imp (fun ow' p1=>p1.rec fun a b=>⟨?_,b⟩) ih
  rw [← a]
  congr 1
theorem laid_ok {mask finger moves:Nat} {led plain:Bool} {hs:Array Int} (hm:mask∈rO) (hn:hs.size ≤ mask) :
  ∃ t order,laid mask finger moves led plain hs = some (t,order)∧order.toList.Perm (List.range hs.size)∧t.fits hs.size = true∧t.mask = mask∧t.led = led∧t.fill = hs.size∧t.place.toList.Pairwise (fun p q=>p<q):=by
 obtain ⟨ow,h1,h2,h3⟩:=lay_fold hm hs.toList (Array.replicate (mask + 1) none) 0 (by simp) (by simp) (by simpa using hn)
 simp only [Nat.zero_add,Co] at h1 h3
 have e:layClean mask hs = some ow:=by
  unfold layClean
  rw [← Array.foldl_toList]
  rw [h1];rfl
 unfold laid
 rw [e]
 have hlive:∀ (xs:List (Option Nat)) ,((List.range xs.length).filterMap fun j=>(xs.getD j none).map (j,·)).map (fun p=>p.2) = xs.filterMap id:=by
  intro xs
  induction xs with
  | nil=>rfl
  | cons x xs ih=>
   rw [Cn,List.range_succ_eq_map,Cd,List.filterMap_map]
   have:((List.range xs.length).filterMap ((fun j=>((x :: xs).getD j none).map (j,·)) ∘ Nat.succ)).map (fun p=>p.2) = xs.filterMap id:=by
    rw [← ih,List.map_filterMap,List.map_filterMap]
    apply sJ
    intro j U
    simp only [Function.comp,List.getD_cons_succ,Option.map_map]
    rfl
   cases x with
   | none=>simpa using this
   | some y=>simpa using this
 have hl2:((List.range (mask + 1)).filterMap fun j=>(ow.getD j none).map (j,·)).map (fun p=>p.2) = ow.toList.filterMap id:=by
  rw [← hlive,Co,h2]
  congr 1
  apply sJ
  intro j U
  simp [Cl]
 have hlen:((List.range (mask + 1)).filterMap fun j=>(ow.getD j none).map (j,·)).length = hs.size:=by
  have:=congrArg List.length hl2
  rw [Cp] at this
  rw [this,h3.length_eq,Bh]
 have hlen2:=hlen
 simp only [Cl] at hlen2
 refine ⟨_,_,rfl,?_,?_,rfl,rfl,?_,?_⟩
 rotate_right
 ·show List.Pairwise _ (List.map _ _)
  have hsub:∀ l:List Nat,((l.filterMap fun j=>(ow.getD j none).map (j,·)).map (fun p=>p.1)).Sublist l:=by
   intro l
   induction l with
   | nil=>exact .slnil
   | cons x l ih=>
    rw [Cd]
    cases ow.getD x none with
    | none=>exact ih.cons x
    | some y=>exact ih.cons_cons x
  exact (List.pairwise_lt_range).sublist (hsub _)
 ·show List.Perm (List.map _ _) _
  rw [hl2];exact h3
 ·unfold SetTable.fits SetTable.fill
  simp [hlen2];exact hn
 ·unfold SetTable.fill
  simp [hlen2]
theorem sizeAbove_ok:∀ w:Nat,w < 256→sizeAbove w - 1∈rO∧w < sizeAbove w∧sizeAbove w ≤ 256:=by
 have:(List.range 256).all (fun w=>rO.elem (sizeAbove w - 1) && decide (w < sizeAbove w) && decide (sizeAbove w ≤ 256)) = true:=by decide +kernel
 intro w hw
 have:=Aw.mp this w (Cg.mpr hw)
 simp only [Av,Bq,List.elem_iff] at this
 exact ⟨this.1.1,this.1.2,this.2⟩
theorem nX {xs:Array Nat} (hp:xs.toList.Pairwise (fun p q=>p<q)) (j:Nat):∀ fuel lo hi:Nat,hi - lo ≤ fuel→lo ≤ hi→hi ≤ xs.size→(∀ k (h:k < xs.size),k < lo→xs[k] < j)→(∀ k (h:k < xs.size),hi ≤ k→j ≤ xs[k]) →
  below.go xs j fuel lo hi ≤ xs.size∧(∀ k (h:k < xs.size),k < below.go xs j fuel lo hi→xs[k] < j)∧∀ k (h:k < xs.size),below.go xs j fuel lo hi ≤ k→j ≤ xs[k]
 | 0,lo,hi,hf,hl,hh,h1,h2=>by
  unfold below.go
  exact ⟨ω22 hl hh,h1,fun k hk q=>h2 k hk (zw 3 0 1 3 0x10010019101101807507605600180650 rfl hf hl q)⟩
 | fuel + 1,lo,hi,hf,hl,hh,h1,h2=>by
  have mono:∀ (a b:Nat) (ha:a < xs.size) (hb:b < xs.size),a < b→xs[a] < xs[b]:=fun a b ha hb hab=>by
   have:=Cq.mp hp a b (by simpa using ha) (by simpa using hb) hab
   simpa using this
  unfold below.go
  split
  ·rename_i hlt
   have hm:(lo + hi) / 2 < xs.size:=by exact zw 3 0 1 2 0x210217681571650215724 rfl hh hlt
   dsimp only
   rw [show xs.getD ((lo + hi) / 2) j = xs[(lo + hi) / 2] from by simp [Cl,hm]]
   split
   ·rename_i hx
    refine nX hp j fuel _ hi (zw 4 0 3 3 0x1000108110000100000d2010120100c007b08a15617490a450215624650 rfl hf hlt hm) (zw 3 0 1 2 0x2101076840781651216524 rfl hlt hm) hh (fun k hk hkl=>?_) h2
    rcases Nat.lt_or_eq_of_le (Ck hkl) with q | q
    ·exact Nat.lt_trans (mono _ _ hk hm q) hx
    ·subst q;exact hx
   ·rename_i hx
    refine nX hp j fuel lo _ (zw 4 0 3 3 0x1000108110000100000d2011020100c007b08a156174906a0215624650 rfl hf hlt hm) (zw 3 0 1 2 0x201107850781651216524 rfl hlt hm) (zw 3 0 1 1 0x10016780781216524 rfl hm) h1 (fun k hk hkl=>?_)
    rcases Nat.lt_or_eq_of_le hkl with q | q
    ·exact Ah (Nat.le_of_not_lt hx) (Nat.le_of_lt (mono _ _ hm hk q))
    ·subst q;exact Nat.le_of_not_lt hx
  ·exact ⟨by exact zy 3 3 0x111067506516760650 rfl hl hh ‹_›,h1,fun k hk q=>h2 k hk (zy 3 3 0x101167607506516650 rfl hl ‹_› q)⟩
theorem nW {xs:Array Nat} (hp:xs.toList.Pairwise (fun p q=>p<q)) (j:Nat):below xs j ≤ xs.size∧(∀ k (h:k < xs.size),k < below xs j→xs[k] < j)∧∀ k (h:k < xs.size),below xs j ≤ k→j ≤ xs[k]:=
 nX hp j xs.size 0 xs.size ω439 (Bv _) (Ag _) (fun k h q=>absurd q (Nat.not_lt_zero _)) fun k h q=>by exact zy 4 2 19002820003409 rfl h q
theorem nY {xs:Array Nat} (hp:xs.toList.Pairwise (fun p q=>p<q)) {j i:Nat} (h1:∀ k (h:k < xs.size),k < i→xs[k] < j) (h2:∀ k (h:k < xs.size),i ≤ k→j ≤ xs[k]) (hi:i ≤ xs.size):below xs j = i:=by
 obtain ⟨a,b,c⟩:=nW hp j
 rcases Nat.lt_trichotomy (below xs j) i with q | q | q
 ·exact absurd (An (h1 _ (An q hi) q) (c (below xs j) (An q hi) (Ag _))) (Ar _)
 ·exact q
 ·exact absurd (An (b i (An q a) q) (h2 i (An q a) (Ag _))) (Ar _)
theorem below_next {xs:Array Nat} (hp:xs.toList.Pairwise (fun p q=>p<q)) {i:Nat} (hi:i < xs.size):below xs (xs[i] + 1) = i + 1:=by
 have mono:∀ (a b:Nat) (ha:a < xs.size) (hb:b < xs.size),a < b→xs[a] < xs[b]:=fun a b ha hb hab=>by
  have:=Cq.mp hp a b (by simpa using ha) (by simpa using hb) hab
  simpa using this
 refine nY hp (fun k hk q=>?_) (fun k hk q=>mono _ _ hi hk (ω15 q)) (ω24 hi)
 rcases Nat.lt_or_eq_of_le (Ck q) with q | q
 ·exact Nat.lt_succ_of_lt (mono _ _ hk hi q)
 ·subst q;exact Nat.lt_succ_self _
theorem below_zero {xs:Array Nat} (hp:xs.toList.Pairwise (fun p q=>p<q)):below xs 0 = 0:=nY hp (fun k hk q=>absurd q (Nat.not_lt_zero _)) (fun k hk U=>Bv _) (Bv _)
theorem not_live {t:SetTable} (hp:t.place.toList.Pairwise (fun p q=>p<q)) {j:Nat} (h:∀ i,t.slot j ≠ .live i):j ∉ t.place.toList:=fun hm=>by
 obtain ⟨k,hk,e⟩:=Cc hm
 have hk':k < t.place.size:=by simpa using hk
 have e':t.place[k] = j:=by simpa using e
 obtain ⟨a,b,c⟩:=nW hp j
 have hb:below t.place j = k:=nY hp (fun k' h' q=>by rw [← e'];have:=Cq.mp hp k' k (by simpa using h') hk q;simpa using this) (fun k' h' q=>by
  rcases Nat.lt_or_eq_of_le q with q | q
  ·rw [← e'];have:=Cq.mp hp k k' hk (by simpa using h') q;exact Nat.le_of_lt (by simpa using this)
  ·subst q;exact Nat.le_of_eq e'.symm) (zy 3 2 282949500343889 rfl hk hk')
 refine h k ?_
 unfold SetTable.slot
 dsimp only
 rw [hb,Ca hk',e']
 simp
theorem nH {t:SetTable} {hashAt:Nat→Int} {h:Int} {j:Nat} {dm:Option Nat}:∀ (fuel:Nat) (p:Probe),(∀ d,p.dummy = some d→t.slot d = .dummy)→probe.go t hashAt h fuel p = some (.empty j dm)→t.slot j = .empty∧∀ d,dm = some d→t.slot d = .dummy
 | 0,p,hp,e=>by simp [probe.go] at e
 | fuel + 1,p,hp,e=>by
  have adv:∀ q:Probe,(t.advance q).dummy = q.dummy:=fun q=>by unfold advance;split <;> rfl
  unfold probe.go at e
  split at e
  ·rename_i hs;cases e;exact ⟨hs,hp⟩
  ·rename_i hs
   exact nH fuel _ (fun d hd=>by rw [adv] at hd;cases hd;exact hs) e
  ·split at e
   ·cases e
   ·exact nH fuel _ (fun d hd=>hp d (by rw [adv] at hd;exact hd)) e
set_option tactic.hygienic true in
theorem free_not {t:SetTable} (hp:t.place.toList.Pairwise (fun p q=>p<q)) {h:Int} {j:Nat} {b:Bool} (e:t.freeSlot h = some (j,b)):j ∉ t.place.toList:=by
 unfold SetTable.freeSlot at e
 split at e
 ·rename_i j' dm he
  cases e
  obtain ⟨h1,h2⟩:=nH _ _ (fun d hd=>by cases hd) he
  refine not_live hp fun i q=>?_
  cases dm with
  | none=>rw [show (none:Option Nat).getD j' = j' from rfl,h1] at q;cases q
  | some d=>rw [show (some d:Option Nat).getD j' = d from rfl,h2 d rfl] at q;cases q
 ·cases e
theorem insert_rising {xs:Array Nat} (hp:xs.toList.Pairwise (fun p q=>p<q)) {j:Nat} (hn:j ∉ xs.toList):(insertAt xs (below xs j) j).toList.Pairwise (fun p q=>p<q):=by
 obtain ⟨a,b,c⟩:=nW hp j
 rw [SetTable.toList_insertAt]
 rw [List.pairwise_append]
 refine ⟨hp.sublist (List.take_sublist _ _),Bn.mpr ⟨fun y hy=>?_,hp.sublist (List.drop_sublist _ _)⟩,fun x hx y hy=>?_⟩
 ·obtain ⟨k,hk,rfl⟩:=Cc hy
  rw [List.length_drop,Co] at hk
  have h3:=c (below xs j + k) (ω26 a hk) (Nat.le_add_right _ _)
  rw [List.getElem_drop]
  have hne:xs.toList[below xs j + k]'(by rw [Co];exact ω26 a hk) ≠ j:=fun q=>hn (q ▸ Cr _)
  simp only [Array.getElem_toList] at hne ⊢
  exact Nat.lt_of_le_of_ne h3 (Ne.symm hne)
 ·obtain ⟨k,hk,rfl⟩:=Cc hx
  rw [Cs,Co] at hk
  have h4:=b k (An hk (Nat.min_le_right _ _)) (An hk (Nat.min_le_left _ _))
  rw [List.getElem_take]
  rcases Be.mp hy with rfl | hy
  ·simpa using h4
  ·obtain ⟨k',hk',rfl⟩:=Cc hy
   rw [List.length_drop,Co] at hk'
   have h3:=c (below xs j + k') (zw 4 0 2 3 0x100001811000180168521a81971650560651 rfl a hk hk') (Nat.le_add_right _ _)
   rw [List.getElem_drop]
   simp only [Array.getElem_toList] at h4 ⊢
   exact An h4 h3
end
end
section
noncomputable abbrev tY (es:Array (Int×Value)) (ep:Nat) (t:SetTable):Obj:={ cls:=.type "set",dict:=none,data:=.set es ep t,slots:=#[] }
noncomputable abbrev uV (ρ:Bs) (es:List (Int×Value)):Prop:=ElemsOf ρ.iK es
noncomputable def tJ (ρ:Bs) (es:List (Int×Value)):Prop:=es.Pairwise (fun e e'=>∀ k,ρ.iK.is k e.2 = true→ρ.iK.is k e'.2 = true→False)
noncomputable def yQ (ρ:Bs) (es:List (Int×Value)) (k:Int):Prop:=∃ e∈es,ρ.iK.is k e.2 = true
structure yC (ρ:Bs) (h:Heap) (a:Addr) (es:Array (Int×Value)) (ep:Nat) (t:SetTable):Prop where
 at_:h.get? a = some (tY es ep t)
 el:uV ρ es.toList
 sz:es.size < scanBound
 fit:t.fits es.size = true
 ap:tJ ρ es.toList
 led:ρ.w.params.followText "set-order" = false→t.led = true
 ris:t.place.toList.Pairwise (fun p q=>p<q)
theorem tJ.perm {es es':List (Int×Value)} (h:tJ ρ es) (p:es'.Perm es):tJ ρ es':=(p.pairwise_iff (by intro x y h k a b;exact h k b a)).mpr h
theorem yQ.perm {es es':List (Int×Value)} {k} (p:es'.Perm es):yQ ρ es' k↔yQ ρ es k:=⟨fun p1=>p1.elim fun e p2=>p2.elim fun he q=>⟨e,p.mem_iff.mp he,q⟩,fun p1=>p1.elim fun e p2=>p2.elim fun he q=>⟨e,p.mem_iff.mpr he,q⟩⟩
theorem nZ.raw {h a S n} (x:nZ ρ h a S n):∃ es ep t,yC ρ h a es ep t∧(∀ k,S k = true↔yQ ρ es.toList k)∧es.size = n∧(n = 0→t.mask = 7∧t.fill = 0):=by
 refine sealG ?_
 intro Gs
 obtain ⟨es,ep,t,h1,h2,h3,h4,h5,h6,h7,h8,h9,h10⟩:=x
 exact ⟨es,ep,t,⟨h1,h2,h4,h5,h7,h8,h10⟩,h3,h6,h9⟩
theorem yC.setL {h a es ep t S} (r:yC ρ h a es ep t) (hm:∀ k,S k = true↔yQ ρ es.toList k) (hz:es.size = 0→t.mask = 7∧t.fill = 0):nZ ρ h a S es.size:=
 ⟨es,ep,t,r.at_,r.el,hm,r.sz,r.fit,rfl,r.ap,r.led,hz,r.ris⟩
theorem yC.keep {h h' a es ep t} (r:yC ρ h a es ep t) (e:h'.get? a = h.get? a):yC ρ h' a es ep t:=⟨e.trans r.at_,r.el,r.sz,r.fit,r.ap,r.led,r.ris⟩
section
variable {A:Around} {E:Value→Shared→Prop} {s:Shared} {a:Addr} {es:Array (Int×Value)} {ep:Nat} {t:SetTable}
theorem yC.state (r:yC ρ s.heap a es ep t) {Q:(Array (Int×Value)×Nat×SetTable)→Shared→Prop} (h:Q (es,ep,t) s):wpAny ρ.M A (setState a) Q E s:=wpAny_setState_of r.at_ rfl r.fit h
theorem yC.entries (r:yC ρ s.heap a es ep t) {Q:Array (Int×Value)→Shared→Prop} (h:Q es s):wpAny ρ.M A (setEntries a) Q E s:=wpAny_setEntries_of r.at_ rfl r.fit h
theorem yC.epoch (r:yC ρ s.heap a es ep t) {Q:Nat→Shared→Prop} (h:Q ep s):wpAny ρ.M A (setEpoch a) Q E s:=wpAny_setEpoch_of r.at_ rfl r.fit h
theorem yC.store (r:yC ρ s.heap a es ep t) {es':Array (Int×Value)} {t':SetTable} {Q:Unit→Shared→Prop} (el:uV ρ es'.toList) (sz:es'.size < scanBound) (fit:t'.fits es'.size = true) (ap:tJ ρ es'.toList) (led:ρ.w.params.followText "set-order" = false→t'.led = true) (ris:t'.place.toList.Pairwise (fun p q=>p<q))
  (h:∀ h',Heap.SameBut a s.heap h'→yC ρ h' a es' (ep + 1) t'→Q () { s with heap:=h' }):wpAny ρ.M A (storeSet a es' t') Q E s:=by
 refine wpAny_storeSet_of r.at_ rfl (h _ (Heap.SameBut.update ..) ⟨?_,el,sz,fit,ap,led,ris⟩) (fits_of_scanBound sz)
 have:=Heap.get?_update_self (Obj.putSet es' t') r.at_ (by rw [putSet_of es' t' rfl];rfl)
 rw [putSet_of es' t' rfl] at this;exact this
theorem yC.find (r:yC ρ s.heap a es ep t) {k:Int} {x:Value} (hk:ρ.iK.is k x = true) (hs:x.scannable = true) {Q:Option Nat→Shared→Prop}
  (h:Q (es.toList.findIdx? fun e=>ρ.iK.is k e.2) s):wpAny ρ.M A (setFind a x (ρ.iK.hash k)) Q E s:=by
 unfold setFind setFindIn
 refine Ak (r.state ?_)
 dsimp only
 rw [byScan_of hs r.sz r.el]
 rw [Ab rfl]
 refine Ak (Bx ?_)
 refine Ak (wpAny_setScan_of hk r.at_ rfl r.fit r.el ?_)
 cases hr:List.findIdx? (fun e=>ρ.iK.is k e.2) es.toList with
 | none=>rw [hr] at h;exact Aj h
 | some j=>rw [hr] at h;dsimp only;exact Aj (by rwa [Nat.zero_add])
theorem uI {l:List (Int×Value)} {k:Int}:(l.findIdx? fun e=>ρ.iK.is k e.2).isSome = true↔yQ ρ l k:=by
 cases hr:l.findIdx? fun e=>ρ.iK.is k e.2 with
 | none=>simp only [Option.isSome_none,Ao,false_iff];rintro ⟨e,he,q⟩;have:=List.findIdx?_eq_none_iff.mp hr e he;rw [q] at this;cases this
 | some j=>simp only [Option.isSome_some,true_iff];obtain ⟨hj,hp,U⟩:=List.findIdx?_eq_some_iff_getElem.mp hr;exact ⟨_,Cr hj,hp⟩
theorem orStandIn_led (t:SetTable) (n:Nat):(t.orStandIn n).led = t.led:=by unfold SetTable.orStandIn;split <;> rfl
theorem layNew_led (t:SetTable) (es:Array (Int×Value)) (h:Int) (x:Value):(layNew t es h x).2.1.led = t.led:=by
 unfold layNew
 split
 ·dsimp only;rw [orStandIn_led];rfl
 ·rfl
theorem relaid_led {t t':SetTable} {hs:Array Int} {wanted:Nat} {o:Array Nat} (h:t.relaid hs wanted = some (t',o)):t'.led = t.led:=by
 unfold SetTable.relaid SetTable.laid at h
 cases e:SetTable.layClean (SetTable.sizeAbove wanted - 1) hs with
 | none=>rw [e] at h;cases h
 | some ow=>rw [e] at h;cases h;rfl
theorem relayAll_led (t:SetTable) (es:Array (Int×Value)) (wanted:Nat):(relayAll t es wanted).2.1.led = t.led:=by
 unfold relayAll
 cases e:t.relaid (es.map (fun p=>p.1)) wanted with
 | none=>rfl
 | some p=>
  obtain ⟨t',o⟩:=p
  dsimp only
  split
  ·exact relaid_led e
  ·rfl
theorem vL (n:Nat):(Array.range n).toList.Pairwise (fun p q=>p<q):=by rw [Array.toList_range];exact List.pairwise_lt_range
set_option tactic.hygienic true in
theorem layNew_rising {t:SetTable} (hp:t.place.toList.Pairwise (fun p q=>p<q)) (es:Array (Int×Value)) (h:Int) (x:Value):(layNew t es h x).2.1.place.toList.Pairwise (fun p q=>p<q):=by
 unfold layNew
 split
 ·rename_i slot wd e
  dsimp only
  unfold SetTable.orStandIn
  split
  ·exact insert_rising hp (free_not hp e)
  ·exact vL _
 ·exact vL _
theorem relaid_rising {t t':SetTable} {hs:Array Int} {wanted:Nat} {o:Array Nat} (h:t.relaid hs wanted = some (t',o)):t'.place.toList.Pairwise (fun p q=>p<q):=by
 unfold SetTable.relaid SetTable.laid at h
 cases e:SetTable.layClean (SetTable.sizeAbove wanted - 1) hs with
 | none=>rw [e] at h;cases h
 | some ow=>
  rw [e] at h;cases h
  show List.Pairwise _ (List.map _ _)
  have hsub:∀ l:List Nat,((l.filterMap fun j=>(ow.getD j none).map (j,·)).map (fun p=>p.1)).Sublist l:=by
   intro l
   induction l with
   | nil=>exact .slnil
   | cons x l ih=>
    rw [Cd]
    cases ow.getD x none with
    | none=>exact ih.cons x
    | some y=>exact ih.cons_cons x
  exact (List.pairwise_lt_range).sublist (hsub _)
theorem oO {t:SetTable} (es:Array (Int×Value)) (wanted:Nat):(relayAll t es wanted).2.1.place.toList.Pairwise (fun p q=>p<q):=by
 unfold relayAll
 cases e:t.relaid (es.map (fun p=>p.1)) wanted with
 | none=>exact vL _
 | some p=>
  obtain ⟨t',o⟩:=p
  dsimp only
  split
  ·exact relaid_rising e
  ·exact vL _
theorem tJ.push {l:List (Int×Value)} {k:Int} {x:Value} (h:tJ ρ l) (hk:ρ.iK.is k x = true) (hn:¬ yQ ρ l k):tJ ρ (l ++ [(ρ.iK.hash k,x)]):=by
 unfold tJ
 rw [List.pairwise_append]
 refine ⟨h,List.pairwise_singleton _ _,fun e he e' he' k' q q'=>?_⟩
 rw [Bf] at he';subst he'
 have:=ρ.iK.inj x k' k q' hk
 subst this
 exact hn ⟨e,he,q⟩
theorem yC.add (r:yC ρ s.heap a es ep t) {k:Int} {x:Value} (hkey:ρ.iK.is k x = true) (hsc:x.scannable = true) (hroom:es.size + 1 < scanBound) {Q:Bool→Shared→Prop}
  (hold:yQ ρ es.toList k→Q false s)
  (hnew:¬ yQ ρ es.toList k→∀ h' es' ep' t',Heap.SameBut a s.heap h'→yC ρ h' a es' ep' t'→es'.toList.Perm (es.toList ++ [(ρ.iK.hash k,x)])→Q true { s with heap:=h' }) :
  wpAny ρ.M A (setAddHashed a x (ρ.iK.hash k)) Q E s:=by
 unfold setAddHashed setAddHashedIn
 refine Am (Ak (r.state ?_))
 dsimp only
 rw [byScan_of hsc r.sz r.el]
 rw [Ab rfl]
 unfold setAddByScan
 refine Ak ?_
 refine Ak (Bx ?_)
 refine Ak (wpAny_setScan_of hkey r.at_ rfl r.fit r.el ?_)
 cases hr:List.findIdx? (fun e=>ρ.iK.is k e.2) es.toList with
 | some j=>
  dsimp only
  exact Aj (Aj (hold (uI.mp (by rw [hr];rfl))))
 | none=>
  dsimp only
  have hn:¬ yQ ρ es.toList k:=fun q=>by have:=uI.mpr q;rw [hr] at this;cases this
  have hgw:∀ (b:Bool) {s₁:Shared} {Q':Unit→Shared→Prop},Q' () s₁→wpAny ρ.M A (match b with | true=>rule "set.scan.the-table-gave-way" | false=>pure ()) Q' E s₁:=
   fun b s₁ Q' hq=>by cases b <;> first | exact Aj hq | exact Bx hq
  have hperm:=layNew_perm t es (ρ.iK.hash k) x
  have hfits:=layNew_fits t es (ρ.iK.hash k) x
  have hled:=layNew_led t es (ρ.iK.hash k) x
  have hris:=layNew_rising r.ris es (ρ.iK.hash k) x
  generalize hL:layNew t es (ρ.iK.hash k) x = L at hperm hfits hled hris ⊢
  obtain ⟨es1,t1,wasDummy,gave⟩:=L
  dsimp only at hperm hfits hled hris ⊢
  rw [Array.toList_push] at hperm
  have hel1:uV ρ es1.toList:=(r.el.push hkey hsc).perm hperm
  have hap1:tJ ρ es1.toList:=(r.ap.push hkey hn).perm hperm
  have hb1':es1.size < scanBound:=by rw [← Co,hperm.length_eq,Ct,Co];simpa using hroom
  refine Ak (hgw _ ?_)
  have tail:∀ t2:SetTable,t2.fits es1.size = true→t2.led = t.led→t2.place.toList.Pairwise (fun p q=>p<q)→wpAny ρ.M A (do
    storeSet a es1 t2
    if (!wasDummy && t2.tooFull) = true then do
      (match (relayAll t2 es1 (SetTable.grown es1.size)).2.2 with | true=>rule "set.scan.the-table-gave-way" | false=>pure ())
      storeSet a (relayAll t2 es1 (SetTable.grown es1.size)).1 (relayAll t2 es1 (SetTable.grown es1.size)).2.1
      pure (some true)
     else pure (some true)) (fun o s'=>o = some true∧Q true s') E s:=by
   intro t2 hf2 hl2 hr2
   refine Ak (r.store hel1 hb1' hf2 hap1 (fun q=>hl2.trans (r.led q)) hr2 fun h1 hs1 r1=>?_)
   split
   ·have hp:=relayAll_perm t2 es1 (SetTable.grown es1.size)
    have hfr:=relayAll_fits t2 es1 (SetTable.grown es1.size)
    have hlr:=relayAll_led t2 es1 (SetTable.grown es1.size)
    have hrr:=oO (t:=t2) es1 (SetTable.grown es1.size)
    generalize hRl:relayAll t2 es1 (SetTable.grown es1.size) = Rl at hp hfr hlr hrr ⊢
    obtain ⟨es2,t3,gave2⟩:=Rl
    dsimp only at hp hfr hlr hrr ⊢
    have hsz:es2.size = es1.size:=by rw [← Co,hp.length_eq,Co]
    refine Ak (hgw _ ?_)
    refine Ak (r1.store (hel1.perm hp) (by rw [hsz];exact hb1') hfr (hap1.perm hp) (fun q=>hlr.trans (hl2.trans (r.led q))) hrr fun h2 hs2 r2=>?_)
    exact Aj ⟨rfl,hnew hn _ _ _ _ (hs1.trans hs2) r2 (hp.trans hperm)⟩
   ·exact Aj ⟨rfl,hnew hn _ _ _ _ hs1 r1 hperm⟩
  split
  ·refine Ak ?_
   rw [hashByValue_scannable 8 hsc]
   refine Aj ?_
   refine Ai (tail _ ?_ ?_ ?_) (fun o s' p1=>p1.rec fun e q=>by subst e;exact Aj q) fun U U x=>x
   ·split
    ·exact hfits
    ·exact SetTable.fits_plain_off hfits
   ·split
    ·exact hled
    ·exact hled
   ·split
    ·exact hris
    ·exact hris
  ·refine Ak (Aj ?_)
   rw [Ab rfl]
   exact Ai (tail _ hfits hled hris) (fun o s' p1=>p1.rec fun e q=>by subst e;exact Aj q) fun U U x=>x
theorem nI {es:Array (Int×Value)} {order:Array Nat} (h:order.toList.Perm (List.range es.size)):(order.filterMap (es[·]?)).toList.Perm es.toList:=by
 rw [Array.toList_filterMap]
 exact (h.filterMap _).trans (by rw [filterMap_getElem?_range])
theorem yC.relay (r:yC ρ s.heap a es ep t) {wanted:Nat} (hw:wanted < 256) (hn:es.size ≤ wanted) {Q:Unit→Shared→Prop}
  (h:∀ h' es' ep' t',Heap.SameBut a s.heap h'→yC ρ h' a es' ep' t'→es'.toList.Perm es.toList→t'.mask∈rO→t'.fill = es.size→t'.led = t.led→wanted < t'.mask + 1∧t'.mask = SetTable.sizeAbove wanted - 1→Q () { s with heap:=h' }):wpAny ρ.M A (setRelay a wanted) Q E s:=by
 obtain ⟨h1,h2,h3⟩:=sizeAbove_ok wanted hw
 obtain ⟨t',order,e,hp,hf,hm,hl,hfl,hri⟩:=laid_ok (mask:=SetTable.sizeAbove wanted - 1) (finger:=t.finger) (moves:=t.movedTo (SetTable.sizeAbove wanted - 1)) (led:=t.led) (plain:=t.plain) (hs:=es.map (fun p=>p.1)) h1 (by simp;exact zw 3 0 1 3 0x1001110910111080850100317076165011170 rfl hn h2 h3)
 unfold setRelay
 refine Ak (r.state ?_)
 dsimp only
 rw [Aa (by rw [Cu];exact zy 1 1 0x1145100000071161003150 rfl h3)]
 have e':t.relaid (es.map (fun p=>p.1)) wanted = some (t',order):=e
 rw [e']
 have hpe:=nI (es:=es) (by simpa using hp)
 have hsz:(order.filterMap (es[·]?)).size = es.size:=by rw [← Co,hpe.length_eq,Co]
 refine Ak ?_
 show wpAny _ _ (if ((order.filterMap (es[·]?)).size != es.size) = true then _ else pure (order.filterMap (es[·]?),t')) _ _ _
 rw [Aa (by rw [hsz];simp)]
 refine Aj ?_
 dsimp only
 have hf':t'.fits es.size = true:=by simpa using hf
 exact r.store (r.el.perm hpe) (by rw [hsz];exact r.sz) (by rw [hsz];exact hf') (r.ap.perm hpe) (fun q=>hl.trans (r.led q)) hri fun h' hs r'=>h h' _ _ _ hs r' hpe (hm ▸ h1) (by simpa using hfl) hl ⟨by rw [hm];exact zw 4 0 1 4 0x100101000b10101000a09461582100317076165011170 rfl hn h2 h3 hsz,hm⟩
theorem rX {α:Type}:∀ {xs:List α} {i:Nat} (h:i < xs.length),(xs[i] :: xs.eraseIdx i).Perm xs
 | x :: xs,0,_=>.refl _
 | x :: xs,i + 1,h=>by
  have ih:=rX (xs:=xs) (i:=i) (by simpa using h)
  rw [List.getElem_cons_succ,List.eraseIdx_cons_succ]
  exact (List.Perm.swap x _ _).trans (List.Perm.cons x ih)
theorem wpAny_chooseI {α:Type} {M:Model} {A:Around} {E:Value→Shared→Prop} {s:Shared} {src:Source} {n:Nat} {f:Nat→Sem α} {Q:α→Shared→Prop} (hn:n ≠ 0) (h:∀ i dr,i < n→wpAny M A (f i) Q E { s with drawn:=dr }):wpAny M A (choose src n >>= f) Q E s:=by
 refine Ak fun Γ p hΓ=>?_
 show Sem.wp M Γ (Sem.choose src n Sem.pure) _ _ p s
 rw [Sem.wp]
 refine ⟨hn,?_⟩
 rw [Sem.wp]
 exact h _ _ (Nat.mod_lt _ (Nat.pos_of_ne_zero hn))
theorem pick_perm {α:Type} (next:Nat→Nat):∀ (fuel k:Nat) (left:List α) (out:Array α),left.length = fuel→(pickOrder.go next fuel k left out).toList.Perm (out.toList ++ left)
 | 0,k,left,out,h=>by
  have:left = []:=List.eq_nil_of_length_eq_zero h
  subst this
  simp [pickOrder.go]
 | fuel + 1,k,left,out,h=>by
  have hlt:next k % left.length < left.length:=Nat.mod_lt _ (zy 2 1 17683723674706 rfl h)
  unfold pickOrder.go
  rw [Ci hlt]
  dsimp only
  refine (pick_perm next fuel (k + 1) _ _ (by rw [List.length_eraseIdx];simp [hlt];exact zw 2 0 1 1 0x11000081101070100101810101700672645211150 rfl h)).trans ?_
  rw [Array.toList_push,Cv]
  exact List.Perm.append_left _ (rX hlt)
theorem sE {α:Type} (next:Nat→Nat) (xs:Array α):(pickOrder next xs).toList.Perm xs.toList:=by
 have:=pick_perm next xs.size 0 xs.toList #[] (by simp)
 simpa [pickOrder] using this
theorem pM {α:Type}:∀ (n:Nat) (xs:List α) (s:Shared) (Q:List α→Shared→Prop),xs.length = n→(∀ ys dr,ys.Perm xs→Q ys { s with drawn:=dr })→wpAny ρ.M A (drawOrder n xs) Q E s
 | 0,xs,s,Q,h,q=>by
  have:xs = []:=List.eq_nil_of_length_eq_zero h
  subst this
  unfold drawOrder
  exact Aj (q [] s.drawn .nil)
 | n + 1,[],s,Q,h,q=>by cases h
 | n + 1,x :: xs,s,Q,h,q=>by
  unfold drawOrder
  refine wpAny_chooseI (by simp) fun i dr hi=>?_
  rw [Ci hi]
  dsimp only
  refine Ak (pM n _ _ _ (by rw [List.length_eraseIdx,Ab hi];simp at h ⊢;exact zy 2 1 76650259750921810 rfl h) fun ys dr' hp=>?_)
  exact Aj (q _ dr' ((List.Perm.cons _ hp).trans (rX hi)))
theorem yC.walk (r:yC ρ s.heap a es ep t) {Q:Array (Int×Value)→Shared→Prop} (h:∀ es' dr,es'.toList.Perm es.toList→Q es' { s with drawn:=dr }):wpAny ρ.M A (setWalk a) Q E s:=by
 unfold setWalk setsByText
 refine Ak (r.state ?_)
 dsimp only
 refine Ak (Ak (Bw (Aj ?_)))
 dsimp only
 cases hb:ρ.M.w.params.followText "set-order" with
 | true=>
  rw [Ab rfl]
  exact Ak (Bw (Aj (h _ s.drawn (sE _ _))))
 | false=>
  have hled:=r.led hb
  rw [Aa Bool.false_ne_true]
  show wpAny _ _ (if (!t.plain && decide (es.size > 1)) = true then _ else ((if (!t.led && decide (es.size > 1)) = true then _ else pure ()) >>= fun U=>pure es)) _ _ _
  split
  ·refine Ak (pM _ _ _ _ (by simp) fun ys dr hp=>Aj (h _ dr (by simpa using hp)))
  ·rw [hled]
   simp only [Ax,Bool.false_and,Ao,Ap]
   exact Ak (Aj (Aj (h _ s.drawn (.refl _))))
theorem rI {α:Type} {M:Model} {A:Around} {E:Value→Shared→Prop} {f:α→PUnit→Sem (ForInStep PUnit)} (I:List α→Shared→Prop)
  (step:∀ x rest s,I (x :: rest) s→wpAny M A (f x PUnit.unit) (fun r s'=>r = .yield PUnit.unit∧I rest s') E s):∀ (xs:List α) (s:Shared) (Q:PUnit→Shared→Prop),I xs s→(∀ s',I [] s'→Q PUnit.unit s')→wpAny M A (forIn xs PUnit.unit f) Q E s
 | [],s,Q,h,k=>by rw [List.forIn_nil];exact Aj (k s h)
 | x :: xs,s,Q,h,k=>by
  rw [Cw]
  refine Ak (Ai (step x xs s h) (fun r s' p1=>p1.rec fun e h'=>?_) fun U U x=>x)
  subst e
  exact rI I step xs s' Q h' k
theorem xL {es:List (Int×Value)} (h:uV ρ es) {e:Int×Value} (he:e∈es):∃ k t,e = (ρ.iK.hash k,.int k t):=by
 refine sealG ?_
 intro Gs
 obtain ⟨⟨k,hk,hh⟩,U⟩:=h e he
 obtain ⟨t,ht⟩:=Value.isInt_shape hk
 exact ⟨k,t,Prod.ext hh ht⟩
theorem yC.quiet1 (r:yC ρ s.heap a es ep t) {β:Type} {f:Int×Value→β→Sem (ForInStep β)} {b:β} (hf:∀ h k t,f (h,.int k t) b = pure (.yield b)):forIn es b f = pure b:=by
 rw [← Array.forIn_toList]
 have:∀ l:List (Int×Value),(∀ e∈l,∃ k t,e = (ρ.iK.hash k,.int k t))→forIn l b f = pure b:=by
  intro l
  induction l with
  | nil=>intro U;rfl
  | cons e l ih=>
   intro hl
   obtain ⟨k,t,rfl⟩:=hl e (.head _)
   rw [Cw,hf,pure_bind]
   exact ih fun e he=>hl e (.tail _ he)
 exact this _ fun e he=>xL r.el he
theorem sets_quiet {a b:Addr} {es eb:Array (Int×Value)} {ep epb:Nat} {t tb:SetTable} (ra:yC ρ s.heap a es ep t) (rb:yC ρ s.heap b eb epb tb) {Q:Bool→Shared→Prop} (h:Q true s):wpAny ρ.M A (setsQuiet [a,b]) Q E s:=by
 unfold setsQuiet
 simp only [Cw,List.forIn_nil]
 refine Ak (Ak (Ak (ra.entries ?_)))
 rw [ra.quiet1 (by intros;rfl)]
 refine Ak (Aj (Aj ?_))
 refine Ak (Ak (rb.entries ?_))
 rw [rb.quiet1 (by intros;rfl)]
 exact Ak (Aj (Aj (Aj (Aj h))))
theorem sets_quiet3 {a b c:Addr} {es eb ec:Array (Int×Value)} {ep epb epc:Nat} {t tb tc:SetTable} (ra:yC ρ s.heap a es ep t) (rb:yC ρ s.heap b eb epb tb) (rc:yC ρ s.heap c ec epc tc) {Q:Bool→Shared→Prop} (h:Q true s):wpAny ρ.M A (setsQuiet [a,b,c]) Q E s:=by
 unfold setsQuiet
 simp only [Cw,List.forIn_nil]
 refine Ak (Ak (Ak (ra.entries ?_)))
 rw [ra.quiet1 (by intros;rfl)]
 refine Ak (Aj (Aj ?_))
 refine Ak (Ak (rb.entries ?_))
 rw [rb.quiet1 (by intros;rfl)]
 refine Ak (Aj (Aj ?_))
 refine Ak (Ak (rc.entries ?_))
 rw [rc.quiet1 (by intros;rfl)]
 exact Ak (Aj (Aj (Aj (Aj h))))
theorem yC.unseen {a b:Addr} {es eb:Array (Int×Value)} {ep epb:Nat} {t tb:SetTable} {filled:Option Addr} (hab:a ≠ b) (hf:filled = none∨filled = some b) (ra:yC ρ s.heap a es ep t) (rb:yC ρ s.heap b eb epb tb) {Q:Array (Int×Value)→Shared→Prop}
  (h:∀ es' dr h' epb' tb',es'.toList.Perm es.toList→Heap.SameBut b s.heap h'→yC ρ h' b eb epb' tb'→(tb.mask = tb'.mask∧tb.fill = tb'.fill)→Q es' { s with heap:=h',drawn:=dr }):wpAny ρ.M A (setWalkUnseen a [b] filled) Q E s:=by
 unfold setWalkUnseen setsByText
 refine Ak (ra.state ?_)
 dsimp only
 refine Ak (Ak (Bw (Aj ?_)))
 have hw:∀ es' dr,es'.toList.Perm es.toList→Q es' { s with drawn:=dr }:=fun es' dr hp=>h es' dr s.heap epb tb hp (Heap.SameBut.refl ..) rb ⟨rfl,rfl⟩
 split
 ·exact ra.walk fun es' dr hp=>hw es' dr hp
 ·refine Ak (sets_quiet ra rb ?_)
  simp only [Ax,Ao,Ap]
  refine Ak (Bx ?_)
  rcases hf with rfl | rfl
  ·exact Aj (hw es s.drawn (.refl _))
  ·dsimp only
   refine Ak (rb.state ?_)
   dsimp only
   split
   ·refine Ak (rb.store rb.el rb.sz (by exact rb.fit) rb.ap (fun q=>by rw [rb.led q,ra.led q];rfl) rb.ris fun h' hs r'=>?_)
    exact Aj (h es s.drawn h' _ _ (.refl _) hs r' ⟨rfl,rfl⟩)
   ·exact Aj (hw es s.drawn (.refl _))
theorem yC.unseen3 {a b c:Addr} {es eb ec:Array (Int×Value)} {ep epb epc:Nat} {t tb tc:SetTable} (ra:yC ρ s.heap a es ep t) (rc:yC ρ s.heap c ec epc tc) (rb:yC ρ s.heap b eb epb tb) {Q:Array (Int×Value)→Shared→Prop}
  (h:∀ es' dr h' epb' tb',es'.toList.Perm es.toList→Heap.SameBut b s.heap h'→yC ρ h' b eb epb' tb'→(tb.mask = tb'.mask∧tb.fill = tb'.fill)→Q es' { s with heap:=h',drawn:=dr }):wpAny ρ.M A (setWalkUnseen a [c,b] (some b)) Q E s:=by
 unfold setWalkUnseen setsByText
 refine Ak (ra.state ?_)
 dsimp only
 refine Ak (Ak (Bw (Aj ?_)))
 have hw:∀ es' dr,es'.toList.Perm es.toList→Q es' { s with drawn:=dr }:=fun es' dr hp=>h es' dr s.heap epb tb hp (Heap.SameBut.refl ..) rb ⟨rfl,rfl⟩
 split
 ·exact ra.walk fun es' dr hp=>hw es' dr hp
 ·refine Ak (sets_quiet3 ra rc rb ?_)
  simp only [Ax,Ao,Ap]
  refine Ak (Bx ?_)
  refine Ak (rb.state ?_)
  dsimp only
  split
  ·refine Ak (rb.store rb.el rb.sz (by exact rb.fit) rb.ap (fun q=>by rw [rb.led q,ra.led q];rfl) rb.ris fun h' hs r'=>?_)
   exact Aj (h es s.drawn h' _ _ (.refl _) hs r' ⟨rfl,rfl⟩)
  ·exact Aj (hw es s.drawn (.refl _))
theorem yC.size {h} (r:yC ρ h a es ep t):t.place.size = es.size∧t.fill ≤ t.mask∧es.size ≤ t.fill:=by
 have:=r.fit
 simp only [SetTable.fits,Av,beq_iff_eq,Bq] at this
 refine ⟨this.1,this.2,?_⟩
 unfold SetTable.fill;exact zy 5 2 0x1010695260870652 rfl this.1 this.2
theorem has_some {es:Array (Int×Value)} (el:uV ρ es.toList) (h:es.size ≠ 0):∃ k,yQ ρ es.toList k:=by
 have:0 < es.toList.length:=by simpa using Nat.pos_of_ne_zero h
 obtain ⟨⟨k,hk,U⟩,U⟩:=el es.toList[0] (Cr this)
 exact ⟨k,_,Cr this,hk⟩
theorem qN {es:Array (Int×Value)} {k} (h:yQ ρ es.toList k):es.size ≠ 0:=by
 obtain ⟨e,he,U⟩:=h
 intro q
 have:es = #[]:=Array.eq_empty_of_size_eq_zero q
 subst this;simp at he
theorem xT {k k':Int} {t:Tok} {rest:List (Int×Value)}:yQ ρ (((ρ.iK.hash k),Value.int k t) :: rest) k'↔k' = k∨yQ ρ rest k':=by
 constructor
 ·rintro ⟨e,he,q⟩
  rcases Be.mp he with rfl | he
  ·exact .inl (ρ.iK.inj _ _ _ q (Br ρ.prog ρ.w k t))
  ·exact .inr ⟨e,he,q⟩
 ·rintro (rfl | ⟨e,he,q⟩)
  ·exact ⟨_,.head _,Br ρ.prog ρ.w k' t⟩
  ·exact ⟨e,.tail _ he,q⟩
theorem rW {k:Int} {l m:List (Int×Value)}:yQ ρ (l ++ m) k↔yQ ρ l k∨yQ ρ m k:=by
 constructor
 ·rintro ⟨e,he,q⟩
  exact (Cx.mp he).imp (fun he=>⟨e,he,q⟩) fun he=>⟨e,he,q⟩
 ·rintro (⟨e,he,q⟩ | ⟨e,he,q⟩)
  ·exact ⟨e,Cy _ he,q⟩
  ·exact ⟨e,Cz _ he,q⟩
theorem vM {k:Int}:¬ yQ ρ [] k:=fun p1=>p1.elim fun U p2=>p2.elim fun he U=>by cases he
theorem yC.each {a b:Addr} {es eb:Array (Int×Value)} {ep epb:Nat} {t tb:SetTable} {each:Sem Unit} (hab:a ≠ b) (ra:yC ρ s.heap a es ep t) (rb:yC ρ s.heap b eb epb tb) (hsz:eb.size + es.size < 4000)
  (heach:∀ s' (Q:Unit→Shared→Prop),s'.heap.get? a = s.heap.get? a→Q () s'→wpAny ρ.M A each Q E s')
  {f:Int×Value→PUnit→Sem (ForInStep PUnit)} (hf:∀ h x (s':Shared) (Q:ForInStep PUnit→Shared→Prop),wpAny ρ.M A (setAddHashed b x h) (fun U s2=>s2.heap.get? a = s.heap.get? a∧Q (.yield PUnit.unit) s2) E s'→wpAny ρ.M A (f (h,x) PUnit.unit) Q E s')
  {l:List (Int×Value)} (hl:l.Perm es.toList) {Q:PUnit→Shared→Prop} (h:∀ h' es' ep' t',Heap.SameBut b s.heap h'→yC ρ h' b es' ep' t'→(∀ k,yQ ρ es'.toList k↔yQ ρ eb.toList k∨yQ ρ es.toList k)→Q PUnit.unit { s with heap:=h' }) :
  wpAny ρ.M A (forIn l PUnit.unit f) Q E s:=by
 let I:List (Int×Value)→Shared→Prop:=fun rest s'=>∃ h',s' = { s with heap:=h' }∧Heap.SameBut b s.heap h'∧∃ es' ep' t',yC ρ h' b es' ep' t'∧es'.size + rest.length < 4000∧(∀ e∈rest,e∈es.toList)∧∀ k,(yQ ρ es'.toList k∨yQ ρ rest k)↔(yQ ρ eb.toList k∨yQ ρ es.toList k)
 refine rI I ?_ l s Q ⟨s.heap,rfl,Heap.SameBut.refl ..,eb,epb,tb,rb,by rw [hl.length_eq];simpa using hsz,fun e he=>hl.mem_iff.mp he,fun k=>by rw [yQ.perm hl]⟩ ?_
 ·rintro e rest U ⟨h1,rfl,hs,es',ep',t',r',hz,hm,hk⟩
  obtain ⟨k,tk,rfl⟩:=xL ra.el (hm e (.head _))
  refine hf _ _ _ _ ?_
  simp only [Cn] at hz
  refine r'.add (Br ρ.prog ρ.w k tk) rfl (by have:scanBound = 4096:=rfl;exact zy 3 2 0x11016754110004172fa03164521 rfl hz this) (fun hold=>?_) fun hnew h2 es2 ep2 t2 hs2 r2 hp=>?_
  ·refine ⟨hs.2 a hab,rfl,h1,rfl,hs,es',ep',t',r',zy 2 1 0x114fa0316521fa03164521 rfl hz,fun e he=>hm e (.tail _ he),fun k'=>?_⟩
   rw [← hk k',xT]
   exact ⟨fun q=>q.imp_right .inr,fun q=>q.elim .inl fun q=>q.elim (fun q=>.inl (q ▸ hold)) .inr⟩
  ·refine ⟨(hs.trans hs2).2 a hab,rfl,h2,rfl,hs.trans hs2,es2,ep2,t2,r2,?_,fun e he=>hm e (.tail _ he),fun k'=>?_⟩
   ·have:=hp.length_eq
    simp only [Co,Ct,Da] at this
    exact zy 3 2 0x11106fa03167215472fa03164521 rfl hz this
   ·rw [← hk k',xT,yQ.perm hp,rW,xT]
    constructor
    ·rintro ((q | q | q) | q)
     ·exact .inl q
     ·exact .inr (.inl q)
     ·exact absurd q vM
     ·exact .inr (.inr q)
    ·rintro (q | q | q)
     ·exact .inl (.inl q)
     ·exact .inl (.inr (.inl q))
     ·exact .inr q
 ·rintro U ⟨h1,rfl,hs,es',ep',t',r',hz,hm,hk⟩
  exact h h1 es' ep' t' hs r' fun k=>by rw [← hk k];exact ⟨.inl,fun q=>q.elim id fun q=>absurd q vM⟩
theorem yC.room (r:yC ρ s.heap a es ep t) {more:Nat} (h1:es.size ≤ 60) (h2:more ≤ 60) {Q:Unit→Shared→Prop}
  (h:∀ h' es' ep' t',Heap.SameBut a s.heap h'→yC ρ h' a es' ep' t'→es'.toList.Perm es.toList→(t' = t∧(t.fill + more) * 5 < t.mask * 3∨t'.mask∈rO∧t'.fill = es.size∧(es.size + more) * 2 < t'.mask + 1)→Q () { s with heap:=h' }):wpAny ρ.M A (setRoomFor a more) Q E s:=by
 obtain ⟨hp,hm,hle⟩:=r.size
 unfold setRoomFor SetTable.roomFor
 refine Ak (r.state ?_)
 rw [hp]
 by_cases hlt:(t.fill + more) * 5 ≥ t.mask * 3
 ·rw [Ab hlt]
  exact r.relay (zw 3 0 1 3 0x1102200910031815723c21603c2150216523 rfl h1 h2 hp) (zw 3 0 1 3 0x201000098505723c21603c2150216523 rfl h1 h2 hp) fun h' es' ep' t' hs r' hpe hmk hfl U hl=>h h' es' ep' t' hs r' hpe (.inr ⟨hmk,hfl,hl.1⟩)
 ·rw [Aa hlt]
  exact Aj (h s.heap es ep t (Heap.SameBut.refl ..) r (.refl _) (.inl ⟨rfl,Nat.lt_of_not_le hlt⟩))
theorem road_zero {t o:SetTable} {k:SetTable.Road} (e:t.road o = k) (h:k ≠ .oneByOne):t.fill = 0:=by
 unfold SetTable.road at e
 by_cases q:(t.fill != 0) = true
 ·rw [Ab q] at e;exact absurd e.symm h
 ·exact Ae fun z=>q (bne_iff_ne.mpr z)
theorem yC.merge {a b:Addr} {es eb:Array (Int×Value)} {ep epb:Nat} {t tb:SetTable} {each:Sem Unit} (hab:a ≠ b) (ra:yC ρ s.heap a es ep t) (rb:yC ρ s.heap b eb epb tb) (h1:eb.size ≤ 60) (h2:es.size ≤ 60) (hz:eb.size = 0→tb.mask = 7∧tb.fill = 0)
  (heach:∀ s' (Q:Unit→Shared→Prop),s'.heap.get? a = s.heap.get? a→Q () s'→wpAny ρ.M A each Q E s')
  {Q:Unit→Shared→Prop} (h:∀ h' dr es' ep' t',Heap.SameBut b s.heap h'→yC ρ h' b es' ep' t'→(∀ k,yQ ρ es'.toList k↔yQ ρ eb.toList k∨yQ ρ es.toList k)→(es'.size = 0→t'.mask = 7∧t'.fill = 0)→Q () { s with heap:=h',drawn:=dr }) :
  wpAny ρ.M A (setMerge b a each) Q E s:=by
 unfold setMerge
 rw [Aa (by simpa using fun q:b = a=>hab q.symm)]
 refine Ak (ra.state ?_)
 dsimp only
 by_cases he:es.isEmpty = true
 ·rw [Ab he]
  have hes:es = #[]:=by simpa using he
  refine Aj (h s.heap s.drawn eb epb tb (Heap.SameBut.refl ..) rb (fun k=>?_) hz)
  subst hes
  exact ⟨.inl,fun q=>q.elim id fun q=>absurd q vM⟩
 ·rw [Aa he]
  have hes:es.size ≠ 0:=fun q=>he (by simp [Array.isEmpty,q])
  refine Ak (rb.room h1 h2 fun h' eb1 epb1 tb1 hs1 rb1 hp1 hrd=>?_)
  have ra1:=ra.keep (hs1.2 a hab)
  have hsz1:eb1.size = eb.size:=by rw [← Co,hp1.length_eq,Co]
  refine Ak (rb1.state ?_)
  dsimp only
  have hk1:∀ k,yQ ρ eb1.toList k↔yQ ρ eb.toList k:=fun k=>yQ.perm hp1
  have fin:∀ {h2:Heap} {es':Array (Int×Value)},(∀ k,yQ ρ es'.toList k↔yQ ρ eb1.toList k∨yQ ρ es.toList k)→(∀ k,yQ ρ es'.toList k↔yQ ρ eb.toList k∨yQ ρ es.toList k)∧∀ P:Prop,es'.size = 0→P:=fun hk=>⟨fun k=>by rw [hk,hk1],fun P q=>by
   obtain ⟨k,hkk⟩:=has_some ra.el hes
   exact absurd q (qN ((hk k).mpr (.inr hkk)))⟩
  have hz0:tb1.fill = 0→eb1.size = 0:=fun q=>by have:=rb1.size;exact zy 5 6 0x1000100001c1000000000c0016276097068201725623c2150 rfl h1 hsz1 q this.1 this.2.1 this.2.2
  have hkz:tb1.fill = 0→∀ k,yQ ρ es.toList k↔yQ ρ eb1.toList k∨yQ ρ es.toList k:=fun q k=>⟨.inr,fun z=>z.elim (fun z=>absurd (hz0 q) (qN z)) id⟩
  cases hroad:tb1.road t with
  | slotForSlot=>
    have hf0:=road_zero hroad (by decide)
    refine rb1.store ra.el ra.sz (by exact ra.fit) ra.ap (fun q=>by rw [rb1.led q,ra.led q];rfl) ra.ris fun h2 hs2 r2=>?_
    obtain ⟨f1,f2⟩:=@fin h2 es (hkz hf0)
    exact h h2 s.drawn _ _ _ (hs1.trans hs2) r2 f1 (f2 _)
  | clean=>
    have hf0:=road_zero hroad (by decide)
    have hmk:tb1.mask∈rO∧es.size ≤ tb1.mask:=by
     rcases hrd with ⟨rfl,hlt⟩ | ⟨a,b,c⟩
     ·obtain ⟨hm7,U⟩:=hz (hsz1 ▸ hz0 hf0)
      rw [hm7] at hlt ⊢
      exact ⟨by decide,zw 2 0 1 3 0x501000197115031171507101623c2150515623 rfl h2 hf0 hlt⟩
     ·exact ⟨a,zw 5 0 1 4 0x2010000001c98094a16720172652218623 rfl hsz1 hf0 b c⟩
    obtain ⟨t2,order,e2,hp2,hf2,hm2,hl2,hfl2,hri2⟩:=laid_ok (mask:=tb1.mask) (finger:=tb1.finger) (moves:=tb1.moves) (led:=tb1.led && t.led) (plain:=tb1.plain && t.plain) (hs:=es.map (fun p=>p.1)) hmk.1 (by simpa using hmk.2)
    rw [e2]
    have hpe:=nI (es:=es) (by simpa using hp2)
    have hsz:(order.filterMap (es[·]?)).size = es.size:=by rw [← Co,hpe.length_eq,Co]
    refine Ak ?_
    show wpAny _ _ (if ((order.filterMap (es[·]?)).size != es.size) = true then _ else pure (order.filterMap (es[·]?),t2)) _ _ _
    rw [Aa (by rw [hsz];simp)]
    refine Aj ?_
    dsimp only
    have hf':t2.fits es.size = true:=by simpa using hf2
    refine rb1.store (ra.el.perm hpe) (by rw [hsz];exact ra.sz) (by rw [hsz];exact hf') (ra.ap.perm hpe) (fun q=>by rw [hl2,rb1.led q,ra.led q];rfl) hri2 fun h2 hs2 r2=>?_
    obtain ⟨f1,f2⟩:=@fin h2 (order.filterMap (es[·]?)) (fun k=>by rw [yQ.perm hpe];exact hkz hf0 k)
    exact h h2 s.drawn _ _ _ (hs1.trans hs2) r2 f1 (f2 _)
  | oneByOne=>
   refine Ak (ra1.unseen hab (.inr rfl) rb1 fun es' dr h2 epb2 tb2 hpe hs2 rb2 hmm=>?_)
   have ra2:=ra1.keep (hs2.2 a hab)
   rw [← Array.forIn_toList]
   refine Ak (yC.each (s:={ s with heap:=h2,drawn:=dr }) (each:=each) hab ra2 rb2 (by rw [hsz1];exact Nat.lt_of_le_of_lt (Nat.add_le_add h1 ‹es.size ≤ 60›) (by decide)) (fun s' Q e q=>heach s' Q (e.trans ((hs2.2 a hab).trans (hs1.2 a hab))) q) ?_ hpe fun h3 es3 ep3 t3 hs3 r3 hk3=>?_)
   ·intro hh x s' Q' hq
    dsimp only
    refine Ak (Am (Ai hq (fun U s2 p1=>p1.rec fun e q=>?_) fun U U x=>x))
    refine Ak (heach s2 _ (e.trans ((hs2.2 a hab).trans (hs1.2 a hab))) ?_)
    have ra3:=ra2.keep (h':=s2.heap) e
    refine Ak (ra3.state ?_)
    rw [Aa (by rw [bne_self_eq_false];exact Bool.false_ne_true)]
    exact Aj q
   ·obtain ⟨f1,f2⟩:=@fin h3 es3 hk3
    exact Aj (h h3 dr _ _ _ ((hs1.trans hs2).trans hs3) r3 f1 (f2 _))
end
end
section
theorem entry_set_or:entryFor table "set.__or__" = some Builtin.«frozenset.__or__»:=entryFor_alias (id':="frozenset.__or__") (by kernel_rfl) rfl (by decide +kernel) (by kernel_rfl)
theorem entry_set_sub:entryFor table "set.__sub__" = some Builtin.«frozenset.__sub__»:=entryFor_alias (id':="frozenset.__sub__") (by kernel_rfl) rfl (by decide +kernel) (by kernel_rfl)
theorem entry_set_ne:entryFor table "set.__ne__" = some Builtin.«frozenset.__ne__»:=entryFor_alias (id':="frozenset.__ne__") (by kernel_rfl) rfl (by decide +kernel) (by kernel_rfl)
theorem nR:entryFor table "set.__iter__" = some Builtin.«frozenset.__iter__»:=entryFor_alias (id':="frozenset.__iter__") (by kernel_rfl) rfl (by decide +kernel) (by kernel_rfl)
end
section
noncomputable def key (e:Int×Value):Int:=match e.2 with | .int k _=>k | _=>0
theorem qJ:∀ {xs ys:List Int},xs.Nodup→(∀ x∈xs,x∈ys)→xs.length ≤ ys.length
 | [],_,_,_=>Bv _
 | x :: xs,ys,h,hs=>by
  rw [Bl] at h
  have hx:=hs x (.head _)
  have ih:=qJ (ys:=ys.erase x) h.2 fun y hy=>by
   have:y ≠ x:=fun e=>h.1 (e ▸ hy)
   exact (List.mem_erase_of_ne this).mpr (hs y (.tail _ hy))
  rw [List.length_erase_of_mem hx] at ih
  have:=List.length_pos_of_mem hx
  simp only [Cn];exact zw 2 0 1 2 0x110011811010706540601175011160 rfl ih this
theorem vY {es:List (Int×Value)} (el:uV ρ es) {k:Int}:yQ ρ es k↔k∈es.map key:=by
 constructor
 ·rintro ⟨e,he,q⟩
  obtain ⟨k',t,rfl⟩:=xL el he
  have:=ρ.iK.inj _ _ _ q (Br ρ.prog ρ.w k' t)
  subst this
  exact Bm.mpr ⟨_,he,rfl⟩
 ·intro h
  obtain ⟨e,he,rfl⟩:=Bm.mp h
  obtain ⟨k',t,rfl⟩:=xL el he
  exact ⟨_,he,Br ρ.prog ρ.w k' t⟩
theorem vI:∀ {es:List (Int×Value)},uV ρ es→tJ ρ es→(es.map key).Nodup
 | [],_,_=>List.nodup_nil
 | e :: es,el,ap=>by
  rw [Ba,Bl]
  obtain ⟨k,t,rfl⟩:=xL el (Db ..)
  refine ⟨fun h=>?_,vI el.tail (Bn.mp ap).2⟩
  obtain ⟨e',he',q⟩:=(vY el.tail).mpr h
  exact (Bn.mp ap).1 e' he' k (Br ρ.prog ρ.w k t) q
theorem sZ {es es':Array (Int×Value)} (el:uV ρ es.toList) (ap:tJ ρ es.toList) (el':uV ρ es'.toList) (h:∀ k,yQ ρ es.toList k→yQ ρ es'.toList k):es.size ≤ es'.size:=by
 have:=qJ (vI el ap) fun k hk=>(vY el').mp (h k ((vY el).mpr hk))
 simpa using this
section
variable {A:Around} {E:Value→Shared→Prop} {s:Shared} {a b:Addr} {es eb:Array (Int×Value)} {ep epb:Nat} {t tb:SetTable}
open Builtin.Frozenset
theorem yC.type {s:Shared} (r:yC ρ s.heap a es ep t):s.TypeIs (.ref a) "set":=⟨_,r.at_,rfl⟩
theorem yC.any (r:yC ρ s.heap a es ep t) {Q:Bool→Shared→Prop} (h:Q true s):wpAny ρ.M A (isAnySet (.ref a)) Q E s:=by
 unfold isAnySet
 refine Ak (wpAny_isInstance r.type F.sub_set_set ?_)
 exact Aj h
theorem yC.base (r:yC ρ s.heap a es ep t) {Q:Value→Shared→Prop} (h:Q (.type "set") s):wpAny ρ.M A (baseOf a) Q E s:=by
 unfold baseOf
 refine Ak (wpAny_isInstance r.type F.sub_set_set ?_)
 exact Aj h
theorem yC.sizeOf (r:yC ρ s.heap a es ep t) {Q:Nat→Shared→Prop} (h:Q es.size s):wpAny ρ.M A (Builtin.Frozenset.sizeOf a) Q E s:=by
 unfold Builtin.Frozenset.sizeOf
 exact Ak (r.entries (Aj h))
theorem new_set {Q:Value→Shared→Prop} (h:∀ led,yC ρ (s.heap.push (tY #[] 0 (.fresh 0 0 led))) s.heap.objs.size #[] 0 (.fresh 0 0 led)→Q (.ref s.heap.objs.size) { s with heap:=s.heap.push (tY #[] 0 (.fresh 0 0 led)) }):wpAny ρ.M A (newSet (.type "set")) Q E s:=by
 unfold newSet setsByText
 refine Ak (Ak (Bw (Aj ?_)))
 dsimp only
 refine Bu (h _ ⟨Au _ rfl,fun e he=>by simp at he,by decide,rfl,List.Pairwise.nil,fun q=>?_,List.Pairwise.nil⟩)
 show (!ρ.M.w.params.followText "set-order") = true
 rw [show ρ.M.w = ρ.w from rfl,q];rfl
theorem yC.copy (r:yC ρ s.heap a es ep t) (h60:es.size ≤ 60) {Q:Value→Shared→Prop}
  (h:∀ h' dr es' ep' t',(∀ c o,s.heap.get? c = some o→h'.get? c = some o)→yC ρ h' s.heap.objs.size es' ep' t'→(∀ k,yQ ρ es'.toList k↔yQ ρ es.toList k)→(es'.size = 0→t'.mask = 7∧t'.fill = 0)→Q (.ref s.heap.objs.size) { s with heap:=h',drawn:=dr }) :
  wpAny ρ.M A (copyOf a) Q E s:=by
 unfold copyOf
 refine Ak (r.base ?_)
 refine Ak (new_set fun led r0=>?_)
 have hlt:a < s.heap.objs.size:=Aq r.at_
 have hne:a ≠ s.heap.objs.size:=Bb hlt
 have r1:=r.keep (h':=s.heap.push (tY #[] 0 (.fresh 0 0 led))) ((As _ r.at_).trans r.at_.symm)
 refine Ak (Aj ?_)
 refine Ak (yC.merge (s:={ s with heap:=s.heap.push (tY #[] 0 (.fresh 0 0 led)) }) hne r1 r0 (by decide) h60 (fun U=>⟨rfl,rfl⟩) (fun s' Q U q=>Aj q) fun h' dr es' ep' t' hs r' hk hz=>?_)
 refine Aj (h h' dr es' ep' t' (fun c o e=>?_) r' (fun k=>by rw [hk];exact ⟨fun q=>q.elim (fun q=>absurd q vM) id,.inr⟩) hz)
 exact (hs.2 c (Bb (Aq e))).trans (As _ e)
theorem yC.unchanged {id:String} (r:yC ρ s.heap a es ep t) {Q:Unit→Shared→Prop} (h:Q () s):wpAny ρ.M A (Builtin.Frozenset.unchanged id a ep) Q E s:=by
 unfold Builtin.Frozenset.unchanged
 refine Ak (r.epoch ?_)
 rw [Aa (by rw [bne_self_eq_false];exact Bool.false_ne_true)]
 exact Aj h
theorem yC.update {id:String} (hab:a ≠ b) (ra:yC ρ s.heap a es ep t) (rb:yC ρ s.heap b eb epb tb) (h1:eb.size ≤ 60) (h2:es.size ≤ 60) (hz:eb.size = 0→tb.mask = 7∧tb.fill = 0)
  {Q:Unit→Shared→Prop} (h:∀ h' dr es' ep' t',Heap.SameBut b s.heap h'→yC ρ h' b es' ep' t'→(∀ k,yQ ρ es'.toList k↔yQ ρ eb.toList k∨yQ ρ es.toList k)→(es'.size = 0→t'.mask = 7∧t'.fill = 0)→Q () { s with heap:=h',drawn:=dr }) :
  wpAny ρ.M A (updateFrom id b (.ref a)) Q E s:=by
 unfold updateFrom
 refine Ak (ra.any ?_)
 rw [Ab rfl]
 refine Ak (m:=addrOf (.ref a)) (Aj ?_)
 unfold Builtin.Frozenset.merge
 refine Ak (ra.epoch ?_)
 exact yC.merge hab ra rb h1 h2 hz (fun s' Q e q=>(ra.keep e).unchanged q) h
theorem yC.or (ra:yC ρ s.heap a es ep t) (rb:yC ρ s.heap b eb epb tb) (h1:eb.size ≤ 60) (h2:es.size ≤ 60) {Q:Value→Shared→Prop}
  (h:∀ h' dr es' ep' t' r,s.heap.get? r = none→(∀ c o,s.heap.get? c = some o→h'.get? c = some o)→yC ρ h' r es' ep' t'→(∀ k,yQ ρ es'.toList k↔yQ ρ es.toList k∨yQ ρ eb.toList k)→(es'.size = 0→t'.mask = 7∧t'.fill = 0)→Q (.ref r) { s with heap:=h',drawn:=dr }) :
  wpAny ρ.M A (call (.builtin "set.__or__") [.ref a,.ref b]) Q E s:=by
 refine Bz F.slot_set_or ra.type entry_set_or ?_ (F.args_set_or_2 _ _)
 have hnone:s.heap.get? s.heap.objs.size = none:=by
  cases q:s.heap.get? s.heap.objs.size with
  | none=>rfl
  | some o=>exact absurd (Aq q) (Ar _)
 unfold Builtin.«frozenset.__or__»
 refine Ak (m:=slot1 "__or__" ⟨[.ref a,.ref b],[]⟩) (Aj ?_)
 dsimp only [Ax];rw [Aa Bool.false_ne_true]
 refine Ak ?_
 refine Ak (ra.any ?_)
 refine rb.any ?_
 simp only [Ax,Ao,Ap]
 refine Ak (m:=addrOf (.ref a)) (Aj ?_)
 refine Ak ?_
 show wpAny _ _ (copyOf a >>= _) _ _ _
 refine Ak (ra.copy h2 fun h' dr es' ep' t' hk r' hm hz=>?_)
 have hsz:es'.size ≤ 60:=Ah (sZ r'.el r'.ap ra.el fun k q=>(hm k).mp q) h2
 have rb':=rb.keep (h':=h') ((hk _ _ rb.at_).trans rb.at_.symm)
 by_cases hab:b = a
 ·subst hab
  rw [Aa (by simp)]
  refine Aj (Aj ⟨_,rfl,?_⟩)
  refine h h' dr es' ep' t' _ hnone hk r' (fun k=>?_) hz
  have:es = eb:=by have:=ra.at_.symm.trans rb.at_;injection this with this;injection this with _ _ h1 _;injection h1
  rw [hm];subst this;exact ⟨.inl,fun q=>q.elim id id⟩
 ·rw [Ab (by simpa using hab)]
  refine Ak (m:=addrOf _) (Aj ?_)
  refine Ak (Am ?_)
  refine yC.update (s:={ s with heap:=h',drawn:=dr }) (a:=b) (b:=s.heap.objs.size) (Bb (Aq rb.at_)) rb' r' hsz h1 hz fun h2 dr2 es2 ep2 t2 hs2 r2 hk2 hz2=>?_
  refine Aj (Aj ⟨_,rfl,h h2 dr2 es2 ep2 t2 _ hnone (fun c o e=>(hs2.2 c (Bb (Aq e))).trans (hk c o e)) r2 (fun k=>?_) hz2⟩)
  rw [hk2,hm]
theorem fits_iff {t:SetTable} {n:Nat}:t.fits n = true↔t.place.size = n∧t.place.size + t.dummies.size ≤ t.mask:=by
 simp only [SetTable.fits,SetTable.fill,Av,beq_iff_eq]
 exact ⟨fun p1=>p1.rec fun a b=>⟨a,Ad b⟩,fun p1=>p1.rec fun a b=>⟨a,Dc b⟩⟩
theorem qO {α:Type} (xs:Array α) (i:Nat):(SetTable.eraseAt xs i).toList = xs.toList.eraseIdx i:=by
 unfold SetTable.eraseAt
 rw [Array.toList_append,Array.toList_extract,Array.toList_extract,List.eraseIdx_eq_take_drop_succ]
 congr 1
 rw [List.extract_eq_take_drop]
 exact List.take_of_length_le (by simp)
theorem yC.discard (r:yC ρ s.heap a es ep t) {k:Int} {x:Value} (hkey:ρ.iK.is k x = true) (hsc:x.scannable = true) {Q:Bool→Shared→Prop}
  (hold:¬ yQ ρ es.toList k→Q false s)
  (hnew:∀ h' es' ep' t',Heap.SameBut a s.heap h'→yC ρ h' a es' ep' t'→(∀ k',yQ ρ es'.toList k'↔yQ ρ es.toList k'∧k' ≠ k)→es'.size ≤ es.size→Q true { s with heap:=h' }) :
  wpAny ρ.M A (setDiscardHashed a x (ρ.iK.hash k)) Q E s:=by
 unfold setDiscardHashed
 refine Ak (r.find hkey hsc ?_)
 cases hr:es.toList.findIdx? fun e=>ρ.iK.is k e.2 with
 | none=>exact Aj (hold fun q=>by have:=uI.mpr q;rw [hr] at this;cases this)
 | some i=>
  dsimp only
  obtain ⟨hi,hpi,U⟩:=List.findIdx?_eq_some_iff_getElem.mp hr
  have hi':i < es.size:=by simpa using hi
  refine Ak (r.state ?_)
  dsimp only
  have hE:(SetTable.eraseAt es i).toList = es.toList.eraseIdx i:=qO es i
  have hsub:(SetTable.eraseAt es i).toList.Sublist es.toList:=hE ▸ List.eraseIdx_sublist _ _
  have hsz:(SetTable.eraseAt es i).size = es.size - 1:=by rw [← Co,hE,List.length_eraseIdx];simp [hi']
  obtain ⟨hp,hm,hle⟩:=r.size
  have hip:i < t.place.size:=by exact zy 3 2 4786617863054929 rfl hi' hp
  have hdrop:t.drop i = { t with place:=SetTable.eraseAt t.place i,dummies:=SetTable.insertAt t.dummies (SetTable.below t.dummies t.place[i]) t.place[i] }:=by
   unfold SetTable.drop
   rw [Ca hip]
  have hP:(SetTable.eraseAt t.place i).toList = t.place.toList.eraseIdx i:=qO t.place i
  have hps:(SetTable.eraseAt t.place i).size = t.place.size - 1:=by rw [← Co,hP,List.length_eraseIdx];simp [hip]
  have hds:(SetTable.insertAt t.dummies (SetTable.below t.dummies t.place[i]) t.place[i]).size = t.dummies.size + 1:=by
   have:=(SetTable.insertAt_perm t.dummies (SetTable.below t.dummies t.place[i]) t.place[i]).length_eq
   simpa using this
  refine Ak (r.store (fun e he=>r.el e (hsub.subset he)) (by rw [hsz];have:=r.sz;exact zw 5 0 2 5 0x11001000001d1100000001c019b1961a827516726511116011170 rfl hi' hp hip hps this) ?_ (List.Pairwise.sublist hsub r.ap) (fun q=>by rw [hdrop];exact r.led q) (by rw [hdrop];exact List.Pairwise.sublist (hP ▸ List.eraseIdx_sublist _ _) r.ris) fun h' hs r'=>?_)
  ·have hm':t.place.size + t.dummies.size ≤ t.mask:=hm
   rw [hdrop]
   exact fits_iff.mpr ⟨by show (SetTable.eraseAt t.place i).size = _;exact ω453 hi' hsz hp hip hps,by show (SetTable.eraseAt t.place i).size + (SetTable.insertAt t.dummies _ _).size ≤ t.mask;exact zw 7 0 1 6 0x1100000110101f110000010101e0b9820ba720a492c8275167265111170 rfl hi' hp hip hps hds hm'⟩
  ·refine Ak (wpAny_point (Aj (hnew h' _ _ _ hs r' (fun k'=>?_) (by rw [hsz];exact zw 4 0 2 4 0x1100100000c110000000b016a09827516726511116011170 rfl hi' hp hip hps))))
   have hap:=vI r.el r.ap
   constructor
   ·rintro ⟨e,he,q⟩
    refine ⟨⟨e,hsub.subset he,q⟩,?_⟩
    rintro rfl
    rw [hE] at he
    obtain ⟨j,hj,hji,rfl⟩:=List.mem_eraseIdx_iff_getElem.mp he
    rcases Nat.lt_or_gt_of_ne hji with h1 | h1
    ·exact Cq.mp r.ap j i hj hi h1 k' q hpi
    ·exact Cq.mp r.ap i j hi hj h1 k' hpi q
   ·rintro ⟨⟨e,he,q⟩,hne⟩
    obtain ⟨j,hj,rfl⟩:=Cc he
    refine ⟨_,hE ▸ List.mem_eraseIdx_iff_getElem.mpr ⟨j,hj,?_,rfl⟩,q⟩
    rintro rfl
    exact hne (ρ.iK.inj _ _ _ q hpi)
theorem yC.tidy (r:yC ρ s.heap a es ep t) (h60:es.size ≤ 60) (hne:es.size ≠ 0) {Q:Unit→Shared→Prop}
  (h:∀ h' es' ep' t',Heap.SameBut a s.heap h'→yC ρ h' a es' ep' t'→es'.toList.Perm es.toList→Q () { s with heap:=h' }):wpAny ρ.M A (setTidy a) Q E s:=by
 unfold setTidy
 refine Ak (r.state ?_)
 dsimp only
 split
 ·have:SetTable.grown es.size = es.size * 4:=by unfold SetTable.grown;rw [Aa (by exact zy 1 1 0x1145c35041163c2150 rfl h60)]
  rw [this]
  exact r.relay (zw 1 0 1 1 0x1104610031613c21504153 rfl h60) (zw 1 0 1 1 0x401066503c21504153 rfl h60) fun h' es' ep' t' hs r' hp U U U U=>h h' es' ep' t' hs r' hp
 ·exact Aj (h s.heap es ep t (Heap.SameBut.refl ..) r (.refl _))
structure Ch (r:Addr) (s s':Shared):Prop where
 e:∃ h dr,s' = { s with heap:=h,drawn:=dr }
 sb:∀ c,c ≠ r→s'.heap.get? c = s.heap.get? c
theorem Ch.refl {r:Addr} {s:Shared}:Ch r s s:=⟨⟨_,_,rfl⟩,fun U U=>rfl⟩
theorem Ch.put {r:Addr} {s s':Shared} (c:Ch r s s') {h:Heap} {dr:Drawn} (hs:Heap.SameBut r s'.heap h):Ch r s { s' with heap:=h,drawn:=dr }:=
 ⟨c.e.elim fun h1 p=>p.elim fun dr1 e=>⟨h,dr,by rw [e]⟩,fun b n=>(hs.2 b n).trans (c.sb b n)⟩
theorem Ch.trans {r:Addr} {s s' s2:Shared} (c:Ch r s s') (d:Ch r s' s2):Ch r s s2:=
 ⟨c.e.elim fun h1 p=>p.elim fun dr1 e=>d.e.elim fun h2 p=>p.elim fun dr2 e2=>⟨h2,dr2,by rw [e2,e]⟩,fun b n=>(d.sb b n).trans (c.sb b n)⟩
structure Gw (s s':Shared):Prop where
 e:∃ h dr,s' = { s with heap:=h,drawn:=dr }
 k:∀ c o,s.heap.get? c = some o→s'.heap.get? c = some o
theorem Gw.ch {r:Addr} {s s' s2:Shared} (c:Gw s s') (d:Ch r s' s2) (n:s.heap.get? r = none):Gw s s2:=
 ⟨c.e.elim fun h1 p=>p.elim fun dr1 e=>d.e.elim fun h2 p=>p.elim fun dr2 e2=>⟨h2,dr2,by rw [e2,e]⟩,fun b o e=>(d.sb b (wX e n)).trans (c.k b o e)⟩
theorem yC.gw {s':Shared} (x:yC ρ s.heap a es ep t) (c:Gw s s'):yC ρ s'.heap a es ep t:=x.keep ((c.k _ _ x.at_).trans x.at_.symm)
theorem rC {h:Heap}:h.get? h.objs.size = none:=by
 cases q:h.get? h.objs.size with
 | none=>rfl
 | some o=>exact absurd (Aq q) (Ar _)
theorem yC.ext {s':Shared} {r:Addr} (x:yC ρ s.heap a es ep t) (c:Ch r s s') (n:a ≠ r):yC ρ s'.heap a es ep t:=x.keep (c.sb a n)
inductive DJ (ρ:Bs) (r:Addr) (es eb:List (Int×Value)) (s0:Shared) (rest:List (Int×Value)) (s:Shared):Prop
 | mk:∀ e2 ep2 t2,Ch r s0 s→yC ρ s.heap r e2 ep2 t2→e2.size ≤ es.length→(∀ e∈rest,e∈eb)→(∀ k,yQ ρ e2.toList k→yQ ρ es k∧(yQ ρ eb k→yQ ρ rest k))→(∀ k,yQ ρ es k∧¬ yQ ρ eb k→yQ ρ e2.toList k)→DJ ρ r es eb s0 rest s
theorem yC.takeout {r:Addr} {f:Int×Value→PUnit→Sem (ForInStep PUnit)} (el:uV ρ eb.toList) (rr:yC ρ s.heap r es ep t) (hf:∀ h x s' (Q:ForInStep PUnit→Shared→Prop),Ch r s s'→wpAny ρ.M A (setDiscardHashed r x h) (fun U s2=>Ch r s s2∧(Ch r s s2→Q (.yield PUnit.unit) s2)) E s'→wpAny ρ.M A (f (h,x) PUnit.unit) Q E s') {l:List (Int×Value)} (hl:l.Perm eb.toList) {Q:PUnit→Shared→Prop}
  (h:∀ s' es' ep' t',Ch r s s'→yC ρ s'.heap r es' ep' t'→es'.size ≤ es.size→(∀ k,yQ ρ es'.toList k↔yQ ρ es.toList k∧¬ yQ ρ eb.toList k)→Q PUnit.unit s'):wpAny ρ.M A (forIn l PUnit.unit f) Q E s:=by
 refine rI (DJ ρ r es.toList eb.toList s) (fun e rest s1 J=>?_) l s Q ⟨es,ep,t,.refl,rr,Ag _,fun e he=>hl.mem_iff.mp he,fun k q=>⟨q,fun q'=>(yQ.perm hl).mpr q'⟩,fun k q=>q.1⟩ fun s1 J=>?_
 ·refine sealG ?_
  intro Gs
  obtain ⟨e2,ep2,t2,c,r2,z,mm,k1,k2⟩:=J
  obtain ⟨k,tk,rfl⟩:=xL el (mm e (.head _))
  have hin:yQ ρ eb.toList k:=⟨_,mm _ (.head _),Br ρ.prog ρ.w k tk⟩
  have mm':=fun e he=>mm e (.tail _ he)
  refine hf _ _ _ _ c (r2.discard (Br ρ.prog ρ.w k tk) rfl (fun hno=>⟨c,fun c=>⟨rfl,e2,ep2,t2,c,r2,z,mm',fun k' q=>⟨(k1 k' q).1,fun q'=>?_⟩,k2⟩⟩) fun h3 e3 ep3 t3 hs3 r3 hk3 hz3=>?_)
  ·exact (xT.mp ((k1 k' q).2 q')).elim (fun e=>absurd (e ▸ q) hno) id
  ·have c3:=c.put (dr:=s1.drawn) hs3
   exact ⟨c3,fun c=>⟨rfl,e3,ep3,t3,c,r3,Ah hz3 z,mm',fun k' q=>⟨(k1 k' ((hk3 k').mp q).1).1,fun q'=>(xT.mp ((k1 k' ((hk3 k').mp q).1).2 q')).elim (fun e=>absurd e ((hk3 k').mp q).2) id⟩,fun k' q=>(hk3 k').mpr ⟨k2 k' q,fun e=>q.2 (e ▸ hin)⟩⟩⟩
 ·refine sealG ?_
  intro Gs
  obtain ⟨e2,ep2,t2,c,r2,z,mm,k1,k2⟩:=J
  exact h s1 e2 ep2 t2 c r2 z fun k=>⟨fun q=>⟨(k1 k q).1,fun q'=>vM ((k1 k q).2 q')⟩,k2 k⟩
inductive KJ (ρ:Bs) (r:Addr) (es eb:List (Int×Value)) (s0:Shared) (rest:List (Int×Value)) (s:Shared):Prop
 | mk:∀ e2 ep2 t2,Ch r s0 s→yC ρ s.heap r e2 ep2 t2→e2.size + rest.length < 4000→(∀ e∈rest,e∈es)→(∀ k,yQ ρ e2.toList k→yQ ρ es k∧¬ yQ ρ eb k)→(∀ k,yQ ρ es k∧¬ yQ ρ eb k→yQ ρ e2.toList k∨yQ ρ rest k)→(e2.size = 0→t2.mask = 7∧t2.fill = 0)→KJ ρ r es eb s0 rest s
theorem yC.keepout {r:Addr} {f:Int×Value→PUnit→Sem (ForInStep PUnit)} (el:uV ρ es.toList) (rr:yC ρ s.heap r #[] ep t) (hz:t.mask = 7∧t.fill = 0) (h60:es.size ≤ 60)
  (hf:∀ k tk s' (Q:ForInStep PUnit→Shared→Prop),Ch r s s'→(yQ ρ eb.toList k→Q (.yield PUnit.unit) s')→(¬ yQ ρ eb.toList k→wpAny ρ.M A (setAddHashed r (.int k tk) (ρ.iK.hash k)) (fun U s2=>Ch r s s2∧(Ch r s s2→Q (.yield PUnit.unit) s2)) E s')→wpAny ρ.M A (f (ρ.iK.hash k,.int k tk) PUnit.unit) Q E s') {l:List (Int×Value)} (hl:l.Perm es.toList) {Q:PUnit→Shared→Prop}
  (h:∀ s' es' ep' t',Ch r s s'→yC ρ s'.heap r es' ep' t'→(∀ k,yQ ρ es'.toList k↔yQ ρ es.toList k∧¬ yQ ρ eb.toList k)→(es'.size = 0→t'.mask = 7∧t'.fill = 0)→Q PUnit.unit s'):wpAny ρ.M A (forIn l PUnit.unit f) Q E s:=by
 refine rI (KJ ρ r es.toList eb.toList s) (fun e rest s1 J=>?_) l s Q ⟨#[],ep,t,.refl,rr,by rw [hl.length_eq,Co];exact Nat.lt_of_le_of_lt (Nat.le_of_eq (Nat.zero_add _)) (Nat.lt_of_le_of_lt h60 (by decide)),fun e he=>hl.mem_iff.mp he,fun k q=>absurd q vM,fun k q=>.inr ((yQ.perm hl).mpr q.1),fun U=>hz⟩ fun s1 J=>?_
 ·refine sealG ?_
  intro Gs
  obtain ⟨e2,ep2,t2,c,r2,z,mm,k1,k2,z0⟩:=J
  obtain ⟨k,tk,rfl⟩:=xL el (mm e (.head _))
  have mm':=fun e he=>mm e (.tail _ he)
  have z':e2.size + 1 + rest.length < 4000:=Nat.lt_of_le_of_lt (Nat.le_of_eq (by rw [Nat.add_assoc,Nat.add_comm 1];rfl)) z
  have zr:e2.size + rest.length < 4000:=Nat.lt_of_le_of_lt (Nat.add_le_add_right (Nat.le_succ _) _) z'
  have stay:∀ {s'},yC ρ s'.heap r e2 ep2 t2→(∀ k',k' = k→¬ yQ ρ eb.toList k'→yQ ρ e2.toList k')→Ch r s s'→KJ ρ r es.toList eb.toList s rest s':=fun r2 q c=>⟨e2,ep2,t2,c,r2,zr,mm',k1,fun k' p=>(k2 k' p).elim .inl fun w=>(xT.mp w).elim (fun e=>.inl (q k' e p.2)) .inr,z0⟩
  refine hf k tk s1 _ c (fun hb=>⟨rfl,stay r2 (fun k' e n=>absurd (e ▸ hb) n) c⟩) fun hb=>r2.add (Br ρ.prog ρ.w k tk) rfl (Nat.lt_trans (Nat.lt_of_le_of_lt (Nat.le_add_right ..) z') (by decide)) (fun hold=>⟨c,fun c=>⟨rfl,stay r2 (fun k' e n=>e ▸ hold) c⟩⟩) fun hnew h3 e3 ep3 t3 hs3 r3 hp=>?_
  have hl3:e3.size = e2.size + 1:=Co.symm.trans (hp.length_eq.trans (Ct.trans rfl))
  have hk3:∀ k',yQ ρ e3.toList k'↔yQ ρ e2.toList k'∨k' = k:=fun k'=>by rw [yQ.perm hp,rW,xT,or_iff_left vM]
  refine ⟨c.put hs3,fun c=>⟨rfl,e3,ep3,t3,c,r3,hl3 ▸ z',mm',fun k' q=>((hk3 k').mp q).elim (k1 k') fun e=>e ▸ ⟨⟨_,mm _ (.head _),Br ρ.prog ρ.w k tk⟩,hb⟩,fun k' p=>(k2 k' p).elim (fun q=>.inl ((hk3 k').mpr (.inl q))) fun w=>(xT.mp w).elim (fun e=>.inl ((hk3 k').mpr (.inr e))) .inr,fun e=>nomatch hl3.symm.trans e⟩⟩
 ·refine sealG ?_
  intro Gs
  obtain ⟨e2,ep2,t2,c,r2,z,mm,k1,k2,z0⟩:=J
  exact h s1 e2 ep2 t2 c r2 (fun k=>⟨k1 k,fun q=>(k2 k q).elim id fun q=>absurd q vM⟩) z0
theorem yC.cut {id:String} {r:Addr} (rr:yC ρ s.heap r es ep t) (rb:yC ρ s.heap b eb epb tb) (ne:b ≠ r) (h60:es.size ≤ 60) (hbig:¬ eb.size / 8 > es.size) (hlt:eb.size < es.size) {Q:Unit→Shared→Prop}
  (h:∀ s' es' ep' t',Ch r s s'→yC ρ s'.heap r es' ep' t'→(∀ k,yQ ρ es'.toList k↔yQ ρ es.toList k∧¬ yQ ρ eb.toList k)→es'.size ≠ 0→Q () s'):wpAny ρ.M A (differenceUpdate id r (.ref b)) Q E s:=by
 unfold differenceUpdate
 rw [Aa (by simpa using ne)]
 refine Ak (rb.any ?_)
 rw [Ab rfl]
 refine Ak (m:=addrOf (.ref b)) (Aj (Ak (rb.sizeOf (Ak (rr.sizeOf ?_)))))
 rw [Aa hbig]
 refine Ak (rb.epoch (Ak (Am ?_)))
 refine Ak (rb.unseen ne (.inl rfl) rr fun es1 dr h1 ep1 t1 hp1 hs1 r1 U=>?_)
 have c1:Ch r s { s with heap:=h1,drawn:=dr }:=.put .refl hs1
 rw [← Array.forIn_toList]
 refine Ak (yC.takeout (es:=es) rb.el r1 (fun hh x s' Q' c hq=>by dsimp only;exact Ak (Am (Ai hq (fun U s2 p=>Ak ((rb.ext (c1.trans p.1) ne).unchanged (Aj (p.2 p.1)))) fun U U x=>x))) hp1 fun s2 e2 ep2 t2 c2 r2 z2 k2=>Aj ?_)
 have hne:e2.size ≠ 0:=fun q0=>absurd (sZ rr.el rr.ap rb.el fun k q=>Ae fun q'=>absurd q0 (qN ((k2 k).mpr ⟨q,q'⟩))) (Nat.not_le.mpr hlt)
 exact r2.tidy (Ah z2 h60) hne fun h3 e3 ep3 t3 hs3 r3 hp3=>h _ e3 ep3 t3 ((c1.trans c2).put hs3) r3 (fun k=>(yQ.perm hp3).trans (k2 k)) fun q=>hne (Co.symm.trans (hp3.length_eq.symm.trans (Co.trans q)))
theorem yC.diff {id:String} (ra:yC ρ s.heap a es ep t) (rb:yC ρ s.heap b eb epb tb) (h60:es.size ≤ 60) {Q:Value→Shared→Prop}
  (h:∀ s' es' ep' t',Gw s s'→yC ρ s'.heap s.heap.objs.size es' ep' t'→(∀ k,yQ ρ es'.toList k↔yQ ρ es.toList k∧¬ yQ ρ eb.toList k)→(es'.size = 0→t'.mask = 7∧t'.fill = 0)→Q (.ref s.heap.objs.size) s') :
  wpAny ρ.M A (difference id a (.ref b)) Q E s:=by
 have nea:=wX ra.at_ rC
 have neb:=wX rb.at_ rC
 unfold difference
 refine Ak (rb.any (Ak (m:=addrOf (.ref b)) (Aj (Ak (rb.sizeOf (Ak (ra.sizeOf ?_)))))))
 by_cases hbig:es.size / 4 > eb.size
 ·rw [Ab hbig]
  have hlt:eb.size < es.size:=An hbig (Nat.div_le_self ..)
  refine Ak (Bx (Ak (ra.copy h60 fun h' dr es' ep' t' hk r' hm hz=>Ak (m:=addrOf _) (Aj (Ak (Am ?_))))))
  have g1:Gw s { s with heap:=h',drawn:=dr }:=⟨⟨h',dr,rfl⟩,hk⟩
  have hsz:es'.size = es.size:=Nat.le_antisymm (sZ r'.el r'.ap ra.el fun k q=>(hm k).mp q) (sZ ra.el ra.ap r'.el fun k q=>(hm k).mpr q)
  replace r':yC ρ ({ s with heap:=h',drawn:=dr }:Shared).heap _ _ _ _:=r'
  generalize ({ s with heap:=h',drawn:=dr }:Shared) = s1 at g1 r' ⊢
  exact yC.cut r' (rb.gw g1) neb (hsz ▸ h60) (hsz ▸ Nat.not_lt.mpr (Ah (Nat.div_le_self ..) (Nat.le_of_lt hlt))) (hsz ▸ hlt) fun s2 e2 ep2 t2 c r2 k2 z2=>Aj (h s2 e2 ep2 t2 (g1.ch c rC) r2 (fun k=>(k2 k).trans (and_congr_left fun U=>hm k)) fun q=>absurd q z2)
 ·rw [Aa hbig]
  refine Ak (ra.base (Ak (new_set fun led r0=>Ak (m:=addrOf _) (Aj ?_))))
  have g1:Gw s { s with heap:=s.heap.push (tY #[] 0 (.fresh 0 0 led)) }:=⟨⟨_,s.drawn,rfl⟩,fun c o e=>As _ e⟩
  replace r0:yC ρ ({ s with heap:=s.heap.push (tY #[] 0 (.fresh 0 0 led)) }:Shared).heap _ _ _ _:=r0
  generalize ({ s with heap:=s.heap.push (tY #[] 0 (.fresh 0 0 led)) }:Shared) = s1 at g1 r0 ⊢
  have ra1:=ra.gw g1
  have rb1:=rb.gw g1
  refine Ak (ra1.epoch (Ak (Am (Ak (ra1.unseen3 rb1 r0 fun es1 dr h1 ep1 t1 hp1 hs1 r1 hmm=>?_)))))
  have c1:Ch s.heap.objs.size s1 { s1 with heap:=h1,drawn:=dr }:=.put .refl hs1
  replace r1:yC ρ ({ s1 with heap:=h1,drawn:=dr }:Shared).heap _ _ _ _:=r1
  generalize ({ s1 with heap:=h1,drawn:=dr }:Shared) = s2 at c1 r1 ⊢
  have ra2:=ra1.ext c1 nea
  have rb2:=rb1.ext c1 neb
  rw [← Array.forIn_toList]
  refine Ak (yC.keepout (eb:=eb) ra.el r1 ⟨hmm.1.symm.trans rfl,hmm.2.symm.trans rfl⟩ h60 (fun k tk s' Q' c hy hn=>Ak (Am (Ak ((rb2.ext c neb).find (Br ρ.prog ρ.w k tk) rfl (Ak (Aj ?_)))))) hp1 fun s3 e3 ep3 t3 c3 r3 k3 z3=>Aj (Aj (h s3 e3 ep3 t3 ((g1.ch c1 rC).ch c3 rC) r3 k3 z3)))
  by_cases hb:yQ ρ eb.toList k
  ·rw [uI.mpr hb]
   exact Aj (Ak ((ra2.ext c nea).unchanged (Aj (hy hb))))
  ·rw [Bool.eq_false_iff.mpr fun q=>hb (uI.mp q)]
   exact Ak (Aj (Ak (Ai (hn hb) (fun U s4 p=>Aj (Ak ((ra2.ext p.1 nea).unchanged (Aj (p.2 p.1))))) fun U U x=>x)))
theorem yC.sub (ra:yC ρ s.heap a es ep t) (rb:yC ρ s.heap b eb epb tb) (h2:es.size ≤ 60) {Q:Value→Shared→Prop}
  (h:∀ s' es' ep' t' r,s.heap.get? r = none→Gw s s'→yC ρ s'.heap r es' ep' t'→(∀ k,yQ ρ es'.toList k↔yQ ρ es.toList k∧¬ yQ ρ eb.toList k)→(es'.size = 0→t'.mask = 7∧t'.fill = 0)→Q (.ref r) s') :
  wpAny ρ.M A (call (.builtin "set.__sub__") [.ref a,.ref b]) Q E s:=
 Bz F.slot_set_sub ra.type entry_set_sub (Ak (m:=slot1 "__sub__" ⟨[.ref a,.ref b],[]⟩) (Aj (Ak (Ak (ra.any (rb.any (Ak (m:=addrOf (.ref a)) (Aj (Ak (ra.diff rb h2 fun s' e2 ep2 t2 g r k z=>Aj ⟨_,rfl,h s' e2 ep2 t2 _ rC g r k z⟩)))))))))) (F.args_set_sub_2 _ _)
end
end
section
section
variable {A:Around} {E:Value→Shared→Prop} {s:Shared} {a b:Addr} {es eb:Array (Int×Value)} {ep epb:Nat} {t tb:SetTable}
open Builtin.Frozenset
theorem sub_set_fs:isSubtype (.type "set") (.type "frozenset") = pure false:=by rw [isSubtype_type];kernel_rfl
theorem yC.ior (hab:a ≠ b) (ra:yC ρ s.heap a es ep t) (rb:yC ρ s.heap b eb epb tb) (h1:eb.size ≤ 60) (h2:es.size ≤ 60) (hz:eb.size = 0→tb.mask = 7∧tb.fill = 0) {Q:Value→Shared→Prop}
  (h:∀ h' dr es' ep' t',Heap.SameBut b s.heap h'→yC ρ h' b es' ep' t'→(∀ k,yQ ρ es'.toList k↔yQ ρ eb.toList k∨yQ ρ es.toList k)→(es'.size = 0→t'.mask = 7∧t'.fill = 0)→Q (.ref b) { s with heap:=h',drawn:=dr }) :
  wpAny ρ.M A (inplaceOp .BitOr (.ref b) (.ref a)) Q E s:=by
 have hc:∀ Q':Value→Shared→Prop,(∀ v s',v ≠ .notImplemented→Q v s'→Q' v s')→wpAny ρ.M A (call (.builtin "set.__ior__") [.ref b,.ref a]) Q' E s:=fun Q' hQ=>by
  refine Bz F.slot_set_ior rb.type F.entry_set_ior ?_ (F.args_set_ior_2 _ _)
  unfold Builtin.«set.__ior__»
  refine Ak (m:=slot1 "__ior__" ⟨[.ref b,.ref a],[]⟩) (Aj ?_)
  dsimp only
  refine Ak (ra.any ?_)
  simp only [Ax,Ao,Ap]
  refine Ak (m:=addrOf (.ref b)) (Aj ?_)
  refine Ak (yC.update hab ra rb h1 h2 hz fun h' dr es' ep' t' hs r' hk hz'=>?_)
  exact Aj ⟨_,rfl,hQ _ _ (by simp) (h h' dr es' ep' t' hs r' hk hz')⟩
 have hfill:fillsInplaceSlot (.type "set") "or" false = pure true:=by
  unfold fillsInplaceSlot
  dsimp only
  rw [F.slot_set_ior.lookup];rfl
 unfold inplaceOp
 refine Am ?_
 refine Ak (wpAny_typeOf rb.type ?_)
 show wpAny _ _ (fillsInplaceSlot (.type "set") "or" false >>= _) _ _ _
 rw [hfill]
 refine Ak (Aj ?_)
 rw [Ab rfl]
 refine Ak (wpAny_tryMethod_slot rb.type F.slot_set_ior (hc _ fun v s' hn q=>⟨hn,?_⟩))
 exact Ak (Bx (Aj q))
theorem yC.walkQuiet (ra:yC ρ s.heap a es ep t) (rb:yC ρ s.heap b eb epb tb) {Q:List (Int×Value)→Shared→Prop} (h:Q es.toList s):wpAny ρ.M A (walkUnseen a b) Q E s:=by
 unfold walkUnseen
 refine Ak (ra.entries ?_)
 refine Ak (rb.entries ?_)
 have:∀ (l:List (Int×Value)),(∀ e∈l,∃ k t,e = (ρ.iK.hash k,.int k t))→∀ {β:Type} (c:β) (f:Int×Value→β→Sem (ForInStep β)),(∀ h k t,f (h,.int k t) c = pure (.yield c))→forIn l c f = pure c:=by
  intro l
  induction l with
  | nil=>intro U β c f U;rfl
  | cons e l ih=>
   intro hl β c f hf
   obtain ⟨k,t,rfl⟩:=hl e (.head _)
   rw [Cw,hf,pure_bind]
   exact ih (fun e he=>hl e (.tail _ he)) c f hf
 rw [this (es.toList ++ eb.toList) (fun e he=>(Cx.mp he).elim (xL ra.el) (xL rb.el)) _ _ (fun h k t=>by rfl)]
 exact Ak (Aj (Aj h))
theorem yC.subset {id:String} (ra:yC ρ s.heap a es ep t) (rb:yC ρ s.heap b eb epb tb) {Q:Bool→Shared→Prop} (hsz:¬ es.size > eb.size) (h:∀ r,(r = true↔∀ k,yQ ρ es.toList k→yQ ρ eb.toList k)→Q r s):wpAny ρ.M A (subsetOf id a b) Q E s:=by
  unfold subsetOf
  refine Ak (ra.sizeOf ?_)
  refine Ak (rb.sizeOf ?_)
  rw [Aa hsz]
  refine Ak (ra.epoch ?_)
  refine Ak (ra.walkQuiet rb ?_)
  have key:∀ (l:List (Int×Value)),(∀ e∈l,e∈es.toList)→∀ (Q:Option Bool×Unit→Shared→Prop),((∀ k,yQ ρ l k→yQ ρ eb.toList k)→Q (none,()) s)→((∃ k,yQ ρ l k∧¬ yQ ρ eb.toList k)→Q (some false,()) s)→wpAny ρ.M A (forIn l ((none,()):Option Bool×Unit) fun x __s=>
            match x with
            | (h,x)=>do
              let __do_lift ← holding [x] (setFind b x h)
              if __do_lift.isNone = true then pure (ForInStep.done (some false,()))
                else do
                  Builtin.Frozenset.unchanged id a ep
                  pure (ForInStep.yield (none,()))) Q E s:=by
    intro l
    induction l with
    | nil=>intro U Q h1 h2;rw [List.forIn_nil];exact Aj (h1 fun k q=>absurd q vM)
    | cons e l ih=>
      intro hl Q h1 h2
      obtain ⟨k,tk,rfl⟩:=xL ra.el (hl e (.head _))
      rw [Cw]
      dsimp only
      refine Ak (Ak (Am (rb.find (Br ρ.prog ρ.w k tk) rfl ?_)))
      by_cases hb:yQ ρ eb.toList k
      · have:=uI.mpr hb
        rw [Aa (by rw [Cm];intro q;rw [q] at this;cases this)]
        refine Ak (ra.unchanged (Aj ?_))
        refine ih (fun e he=>hl e (.tail _ he)) Q (fun q=>h1 fun k' q'=>(xT.mp q').elim (fun e=>e ▸ hb) (q k')) fun p1=>p1.elim fun k' p2=>p2.elim fun q1 q2=>h2 ⟨k',xT.mpr (.inr q1),q2⟩
      · rw [Ab (by rw [Cm];cases q:eb.toList.findIdx? fun e=>ρ.iK.is k e.2 with | none=>rfl | some j=>exact absurd (uI.mp (by rw [q];rfl)) hb)]
        exact Aj (Aj (h2 ⟨k,xT.mpr (.inl rfl),hb⟩))
  refine Ak (key es.toList (fun U x=>x) _ (fun q=>Aj (h true ⟨fun U=>q,fun U=>rfl⟩)) fun p1=>p1.elim fun k p2=>p2.elim fun q1 q2=>Aj (h false ⟨fun e=>(by cases e),fun q=>absurd (q k q1) q2⟩))
theorem yC.ne (ra:yC ρ s.heap a es ep t) (rb:yC ρ s.heap b eb epb tb) (hu:A.units < cLine) {Q:Value→Shared→Prop} (h:∀ r,(r = false↔∀ k,yQ ρ es.toList k↔yQ ρ eb.toList k)→Q (.bool r) s):wpAny ρ.M A (compareOp .NotEq (.ref a) (.ref b)) Q E s:=by
 show wpAny _ _ (richCompare .NotEq _ _) _ _ _
 have eqv:es.size = eb.size→(∀ k,yQ ρ es.toList k→yQ ρ eb.toList k)→∀ k,yQ ρ es.toList k↔yQ ρ eb.toList k:=fun hsz hk k=>by
  refine ⟨hk k,fun q=>Ae fun q'=>?_⟩
  have n1:=vI ra.el ra.ap
  have n2:=qJ (xs:=k :: es.toList.map key) (ys:=eb.toList.map key) (Bl.mpr ⟨fun z=>q' ((vY ra.el).mpr z),n1⟩) fun x hx=>by
   rcases Be.mp hx with rfl | hx
   ·exact (vY rb.el).mp q
   ·exact (vY rb.el).mp (hk x ((vY ra.el).mpr hx))
  simp only [Cn,Cp,Co] at n2
  exact zy 2 2 1187933062738 rfl hsz n2
 refine wpAny_richCompare_same_room ra.type rb.type F.slot_set_ne (Bz F.slot_set_ne ra.type entry_set_ne ?_ (F.args_set_ne_2 _ _)) hu
 unfold Builtin.«frozenset.__ne__»
 refine Ak (m:=slot1 "__ne__" ⟨[.ref a,.ref b],[]⟩) (Aj ?_)
 dsimp only
 refine Ak (rb.any ?_)
 simp only [Ax,Ao,Ap]
 refine Ak (m:=addrOf (.ref a)) (Aj ?_)
 refine Ak (m:=addrOf (.ref b)) (Aj ?_)
 refine Ak (ra.sizeOf ?_)
 refine Ak (rb.sizeOf ?_)
 refine Ak ?_
 by_cases hsz:es.size = eb.size
 ·rw [Aa (by simpa using hsz)]
  refine Ak ?_
  refine Ak (wpAny_isInstance ra.type sub_set_fs ?_)
  refine Aj ?_
  rw [Aa Bool.false_ne_true]
  refine ra.subset rb (zy 2 1 1169663551058 rfl hsz) fun r hr=>Aj ⟨_,rfl,by simp,h (!r) ?_⟩
  constructor
  ·intro q;exact eqv hsz (hr.mp (by simpa using q))
  ·intro q;rw [hr.mpr fun k=>(q k).mp];rfl
 ·rw [Ab (by simpa using hsz)]
  refine Aj (Aj ⟨_,rfl,by simp,h true ⟨fun e=>(by cases e),fun q=>absurd ?_ hsz⟩⟩)
  exact Nat.le_antisymm (sZ ra.el ra.ap rb.el fun k=>(q k).mp) (sZ rb.el rb.ap ra.el fun k=>(q k).mpr)
end
end
section
theorem yX:Slot "set_iterator" "__next__" "set_iterator.__next__":=
 .of (owner:="set_iterator") (n:="__next__") (by rw [typeLookup_type,By];kernel_rfl) (by decide +kernel) (by decide +kernel) (by decide +kernel)
  (by first | exact .inl (by decide +kernel) | exact .inr (by decide +kernel)) (by rw [isSubtype_type];kernel_rfl)
theorem tE:entryFor table "set_iterator.__next__" = some Builtin.«set_iterator.__next__»:=entryFor_of_tree (by kernel_rfl)
theorem tW (a:Value):argsOk "set_iterator.__next__" ⟨[a],[]⟩:=by unfold argsOk;kernel_rfl
theorem set_len_slot:typeLookup (.type "set") (Str.ofString "__len__") = pure (some (.builtin "set.__len__")):=by rw [typeLookup_type,By];kernel_rfl
theorem tU:Slot "set_iterator" "__iter__" "set_iterator.__iter__":=
 .of (owner:="set_iterator") (n:="__iter__") (by rw [typeLookup_type,By];kernel_rfl) (by decide +kernel) (by decide +kernel) (by decide +kernel)
  (by first | exact .inl (by decide +kernel) | exact .inr (by decide +kernel)) (by rw [isSubtype_type];kernel_rfl)
theorem pK:entryFor table "set_iterator.__iter__" = some Builtin.«dict_keyiterator.__iter__»:=
 entryFor_alias (id':="dict_keyiterator.__iter__") (by kernel_rfl) rfl (by decide +kernel) (by kernel_rfl)
theorem oQ (a:Value):argsOk "set_iterator.__iter__" ⟨[a],[]⟩:=by unfold argsOk;kernel_rfl
end
section
noncomputable abbrev sitO (f:Value) (i:Nat) (src:Value) (n ep:Nat):Obj:={ cls:=.type "set_iterator",dict:=none,data:=.fields #[f,.int i 0,src,.int n 0,.int ep 0],slots:=#[] }
structure Ord (ρ:Bs) (h:Heap) (a:Addr) (es:Array (Int×Value)) (ep:Nat) (t:SetTable) (f:Nat→Value→Prop) (xs:List (Int×Value)):Prop where
 perm:xs.Perm es.toList
 slot:∀ i v,f i v→(∃ k:Nat,v = .int k 0∧((ρ.w.params.followText "set-order" = true∧xs = (pickOrder (ρ.w.params.setOrder a ep) es).toList) ∨
   (ρ.w.params.followText "set-order" = false∧(t.plain = true∨¬ es.size > 1)∧xs = es.toList∧SetTable.below t.place k = i))) ∨
  (∃ T pl n,v = .ref T∧T ≠ a∧h.get? T = some (tupO pl n)∧∃ ps:List Nat,pl = ps.map (fun (p:Nat)=>Value.int p 0)∧(∀ p∈ps,p < es.size)∧(∀ (i p:Nat),ps[i]? = some p→xs[i]? = es[p]?)∧ps.length = es.size)
section
variable {A:Around} {E:Value→Shared→Prop} {s:Shared} {a I:Addr} {es:Array (Int×Value)} {ep:Nat} {t:SetTable}
theorem stop_ends {s:Shared} {h':Heap} (hh:A.handled = none) :
  wpAny ρ.M A.in1 (do raiseNew (← newExc (.type "StopIteration") []):Sem PySem.Fin) (fun U U=>False) (fun e s'=>∃ h2,(∀ b o,h'.get? b = some o→h2.get? b = some o)∧s' = { s with heap:=h2 }∧s'.TypeIs e "StopIteration") { s with heap:=h' }:=by
 simp only [newExc,newTuple]
 refine Ak ?_
 refine Ak (Bu ?_ (by size_fits))
 refine Ak (m:=firstArgMember _ _) (wpAny_of_eq (a:=Value.none) (by first | rfl | (simp only [firstArgMember];rfl)) ?_)
 refine Bu ?_ (by size_fits)
 unfold raiseNew
 refine Ak (wpAny_handled ?_)
 rw [show A.in1.handled = none from hh]
 refine Ak (Aj (wpAny_throw ?_))
 exact ⟨_,fun b o e=>As _ (As _ e),rfl,⟨_,Au _ rfl,rfl⟩⟩
theorem sit_key {k i:Nat} {xs:List (Int×Value)} (r:yC ρ s.heap a es ep t) (hk:(ρ.w.params.followText "set-order" = true∧xs = (pickOrder (ρ.w.params.setOrder a ep) es).toList)∨(ρ.w.params.followText "set-order" = false∧(t.plain = true∨¬ es.size > 1)∧xs = es.toList∧SetTable.below t.place k = i)) {Q:Option (Value×Nat)→Shared→Prop}
  (h:∀ nx:Nat,(ρ.w.params.followText "set-order" = false→i < es.size→SetTable.below t.place nx = i + 1)→Q ((xs[i]?).map fun e=>(e.2,nx)) s):wpAny ρ.M A.in1 (setNext a k i ep) Q E s:=by
 unfold setNext setsByText
 refine Ak (r.state (Ak (Ak (Bw (Aj ?_)))))
 rcases hk with ⟨hb,rfl⟩ | ⟨hb,hpn,rfl,hbel⟩
 ·rw [show ρ.M.w.params.followText "set-order" = true from hb,Ab rfl,Aa (by rw [bne_self_eq_false];exact Bool.false_ne_true)]
  unfold setWalk setsByText
  refine Ak (Ak (r.state (Ak (Ak (Bw (Aj ?_))))))
  rw [show ρ.M.w.params.followText "set-order" = true from hb,Ab rfl]
  refine Ak (Bw (Aj (Aj ?_)))
  have:=h k fun q=>nomatch q.symm.trans hb
  rw [Array.getElem?_toList] at this
  exact this
 ·rw [show ρ.M.w.params.followText "set-order" = false from hb,Aa Bool.false_ne_true]
  show wpAny _ _ (if (!t.plain && decide (es.size > 1)) = true then _ else ((if (!t.led && !es.isEmpty) = true then _ else pure ()) >>= _)) _ _ _
  rw [Aa (by rcases hpn with q | q <;> simp [q]),r.led hb]
  refine Ak (Aj (Aj ?_))
  rw [hbel]
  by_cases hi:i < es.size
  ·have hip:i < t.place.size:=Nat.lt_of_lt_of_eq hi r.size.1.symm
   have:=h (t.place[i] + 1) fun U U=>below_next r.ris hip
   rw [Array.getElem?_toList,Ca hi] at this
   rw [Ca hi,Ca hip]
   exact this
  ·have:=h 0 fun U q=>absurd q hi
   rw [Array.getElem?_toList,Array.getElem?_eq_none (Nat.not_lt.mp hi)] at this
   rw [Array.getElem?_eq_none (Nat.not_lt.mp hi)]
   exact this
theorem sit_drawn {p:Nat} (r:yC ρ s.heap a es ep t) (hp:p < es.size) {Q:Value→Shared→Prop} (h:Q es[p].2 s):wpAny ρ.M A.in1 (setNextDrawn a p ep) Q E s:=by
 unfold setNextDrawn
 refine Ak (r.state ?_)
 dsimp only
 rw [Aa (by rw [bne_self_eq_false];exact Bool.false_ne_true)]
 rw [Ca hp]
 exact Aj h
theorem sit_body {f:Value} {i:Nat} (r:yC ρ s.heap a es ep t) (hI:s.heap.get? I = some (sitO f i (.ref a) es.size ep)) {P:Nat→Value→Prop} {xs:List (Int×Value)} (o:Ord ρ s.heap a es ep t P xs) (hp:P i f) {Q:PySem.Fin→Shared→Prop}
  (hs:∀ e f' h',xs[i]? = some e→Heap.SameBut I s.heap h'→h'.get? I = some (sitO f' (i + 1) (.ref a) es.size ep)→((f' = f∧∃ T,f = .ref T)∨∃ k k0:Nat,f' = .int k 0∧f = .int k0 0∧(ρ.w.params.followText "set-order" = false→SetTable.below t.place k = i + 1))→Q (.done (.ret e.2)) { s with heap:=h' })
  (hn:xs[i]? = none→∀ h',(∀ b o,b ≠ I→s.heap.get? b = some o→h'.get? b = some o)→wpAny ρ.M A.in1 (do raiseNew (← newExc (.type "StopIteration") []):Sem PySem.Fin) Q E { s with heap:=h' }):wpAny ρ.M A.in1 (Builtin.«set_iterator.__next__» ⟨[.ref I],[]⟩) Q E s:=by
 have hl:∀ {e},xs[i]? = some e→i < es.size:=fun e=>Nat.lt_of_lt_of_eq (Bc.mp e).1 (o.perm.length_eq.trans Co)
 unfold Builtin.«set_iterator.__next__»
 refine Ak (m:=slotArgs "__next__" 0 ⟨[.ref I],[]⟩) (Aj (Ak (wpAny_fieldsOf hI rfl ?_)))
 dsimp only
 refine Ak (r.entries ?_)
 rw [Aa (by rw [bne_self_eq_false];exact Bool.false_ne_true)]
 rcases o.slot i f hp with ⟨k,rfl,hk⟩ | ⟨T,pl,n,rfl,hTa,hT,ps,rfl,hps,hxs,hpl⟩
 ·refine Ak (sit_key r hk fun nx hnx=>?_)
  cases hx:xs[i]? with
  | some e=>exact Ak (De hI (by simp) fun h1 hg1 hs1=>Ak (De hg1 (by simp) fun h2 hg2 hs2=>Aj (hs e (.int nx 0) h2 hx (hs1.trans hs2) hg2 (.inr ⟨nx,k,rfl,rfl,fun q=>hnx q (hl hx)⟩))))
  | none=>exact Ak (De hI (by simp) fun h1 hg1 hs1=>hn hx h1 fun b o hb e=>(hs1.2 b hb).trans e)
 ·refine Ak (wpAny_seqItems hT rfl ?_)
  dsimp only
  rw [show ((ps.map fun (p:Nat)=>Value.int p 0).toArray)[(i:Int).toNat]? = (ps[i]?).map fun (p:Nat)=>Value.int p 0 from (List.getElem?_toArray ..).trans (Bg ..)]
  cases hq:ps[i]? with
  | some p=>
   have hpi:=hps p (Dr hq)
   exact Ak (sit_drawn r hpi (Ak (De hI (by simp) fun h1 hg1 hs1=>Aj (hs es[p] (.ref T) h1 ((hxs i p hq).trans (Ca hpi)) hs1 hg1 (.inl ⟨rfl,T,rfl⟩)))))
  | none=>
   have hx:xs[i]? = none:=List.getElem?_eq_none (Ah (Nat.le_of_eq (o.perm.length_eq.trans (Co.trans hpl.symm))) (List.getElem?_eq_none_iff.mp hq))
   exact Ak (De hI (by simp) fun h1 hg1 hs1=>Ak (De hg1 (by simp) fun h2 hg2 hs2=>hn hx h2 fun b o hb e=>(hs2.2 b hb).trans ((hs1.2 b hb).trans e)))
theorem sit_next {f:Value} {i:Nat} (r:yC ρ s.heap a es ep t) (hI:s.heap.get? I = some (sitO f i (.ref a) es.size ep)) {P:Nat→Value→Prop} {xs:List (Int×Value)} (o:Ord ρ s.heap a es ep t P xs) (hp:P i f) (hi:i < es.size) {Q:Option Value→Shared→Prop}
  (h:∀ h' f' e,xs[i]? = some e→Heap.SameBut I s.heap h'→h'.get? I = some (sitO f' (i + 1) (.ref a) es.size ep)→((f' = f∧∃ T,f = .ref T)∨∃ k k0:Nat,f' = .int k 0∧f = .int k0 0∧(ρ.w.params.followText "set-order" = false→SetTable.below t.place k = i + 1))→Q (some e.2) { s with heap:=h' }):wpAny ρ.M A (pyNext (.ref I)) Q E s:=by
 unfold pyNext
 exact Ak (wpAny_attempt (wpAny_callSpecial?_slot (name:=Str.ofString "__next__") ⟨_,hI,rfl⟩ yX (Bz yX ⟨_,hI,rfl⟩ tE (sit_body r hI o hp (fun e f' h' hx hs hg hf=>⟨_,rfl,Aj (h h' f' e hx hs hg hf)⟩)
  fun q=>absurd hi (Nat.not_lt.mpr (Ah (Nat.le_of_eq (Co.symm.trans o.perm.length_eq.symm)) (List.getElem?_eq_none_iff.mp q)))) (tW _))))
theorem sit_end {f:Value} (hh:A.handled = none) (r:yC ρ s.heap a es ep t) (hI:s.heap.get? I = some (sitO f es.size (.ref a) es.size ep)) {P:Nat→Value→Prop} {xs:List (Int×Value)} (o:Ord ρ s.heap a es ep t P xs) (hp:P es.size f) {Q:Option Value→Shared→Prop}
  (h:∀ h',(∀ b o,b ≠ I→s.heap.get? b = some o→h'.get? b = some o)→Q none { s with heap:=h' }):wpAny ρ.M A (pyNext (.ref I)) Q E s:=by
 unfold pyNext
 refine Ak (wpAny_attempt (wpAny_callSpecial?_slot (name:=Str.ofString "__next__") ⟨_,hI,rfl⟩ yX (Bz yX ⟨_,hI,rfl⟩ tE (sit_body r hI o hp
  (fun e f' h' hx U U U=>absurd (Bc.mp hx).1 (Nat.not_lt.mpr (Nat.le_of_eq (o.perm.length_eq.trans Co))))
  fun U h1 hk=>Ai (stop_ends hh) (fun U U x=>x.elim) fun e s' p=>p.elim fun h2 p=>?_) (tW _))))
 obtain ⟨hk2,rfl,hT⟩:=p
 exact Ak (wpAny_isInstance (b:=true) hT isSubtype_stop (Aj (h h2 fun b o hb e=>hk2 b o (hk b o hb e))))
noncomputable def SW (ρ:Bs) (a I:Addr) (es:Array (Int×Value)) (ep:Nat) (t:SetTable) (P:Nat→Value→Prop) (xs:List (Int×Value)) (i:Nat) (h:Heap):Prop:=
 yC ρ h a es ep t∧Ord ρ h a es ep t P xs∧∃ f,h.get? I = some (sitO f i (.ref a) es.size ep)∧P i f
theorem Ord.frame {h h':Heap} {P:Nat→Value→Prop} {xs:List (Int×Value)} (o:Ord ρ h a es ep t P xs) (hk:∀ T i ob,P i (.ref T)→h.get? T = some ob→h'.get? T = some ob):Ord ρ h' a es ep t P xs:=by
 refine ⟨o.perm,fun i v hp=>(o.slot i v hp).imp_right ?_⟩
 rintro ⟨T,pl,n,rfl,h1,h2,h3⟩
 exact ⟨T,pl,n,rfl,h1,hk T i _ hp h2,h3⟩
theorem set_walks {P:Nat→Value→Prop} {xs:List (Int×Value)} {tl:List Addr} (hh:A.handled = none) (hIa:I ≠ a) (hIt:I ∉ tl) (ht:∀ i T,P i (.ref T)→T∈tl)
  (hs1:∀ i T,P i (.ref T)→P (i + 1) (.ref T)) (hs2:∀ i (k k0:Nat),P i (.int k0 0)→(ρ.w.params.followText "set-order" = false→SetTable.below t.place k = i + 1)→P (i + 1) (.int k 0)) :
  Walks ρ.prog ρ.w A I (I :: a :: tl) [I] es.size (fun i v=>∃ e,xs[i]? = some e∧v = e.2) (SW ρ a I es ep t P xs) where
 sub:=fun b hb=>by rw [Bf.mp hb];exact .head _
 frame:=fun i h h' p1 hk=>p1.elim fun r p2=>p2.elim fun o p3=>p3.elim fun f p4=>p4.elim fun hI hp=>⟨⟨hk a (.tail _ (.head _)) _ r.at_,r.el,r.sz,r.fit,r.ap,r.led,r.ris⟩,o.frame fun T j ob hp e=>hk T (.tail _ (.tail _ (ht j T hp))) ob e,f,hk I (.head _) _ hI,hp⟩
 item:=fun i s Q E hi p1 hQ=>p1.elim fun r p2=>p2.elim fun o p3=>p3.elim fun f p4=>p4.elim fun hI hp=>by
  refine sit_next r hI o hp hi fun h' f' e he hsb hg hf=>?_
  have hk:∀ b o,b ∉ [I]→s.heap.get? b = some o→h'.get? b = some o:=fun b ob hb e=>(hsb.2 b fun q=>hb (q ▸ .head _)).trans e
  have hne:∀ b∈a :: tl,b ∉ [I]:=fun b hb q=>by
   have:=Bf.mp q
   subst this
   rcases Be.mp hb with q | q
   ·exact hIa q
   ·exact hIt q
  refine hQ e.2 h' s.toks ⟨e,he,rfl⟩ ⟨⟨hk a _ (hne a (.head _)) r.at_,r.el,r.sz,r.fit,r.ap,r.led,r.ris⟩,o.frame fun T j ob hp e=>hk T ob (hne T (.tail _ (ht j T hp))) e,f',hg,?_⟩ hk
  rcases hf with ⟨rfl,T,rfl⟩ | ⟨k,k0,rfl,rfl,hb⟩
  ·exact hs1 i T hp
  ·exact hs2 i k k0 hp hb
 done:=fun s Q E p1 hQ=>p1.elim fun r p2=>p2.elim fun o p3=>p3.elim fun f p4=>p4.elim fun hI hp=>sit_end hh r hI o hp fun h' hk=>hQ h' s.toks fun b ob hb e=>hk b ob (fun q=>hb (q ▸ .head _)) e
 self:=fun i s Q E p1 hQ=>p1.elim fun r p2=>p2.elim fun o p3=>p3.elim fun f p4=>p4.elim fun hI hp=>by
  refine wpAny_pyIter_slot ⟨_,hI,rfl⟩ tU (Bz tU ⟨_,hI,rfl⟩ pK ?_ (oQ _))
  show wpAny _ _ (ret (.ref I)) _ _ s
  exact Aj ⟨_,rfl,"set_iterator",_,⟨_,hI,rfl⟩,yX.lookup,hQ⟩
theorem fm_at {es:Array (Int×Value)}:∀ {ys:List Nat},(∀ p∈ys,p < es.size)→∀ (i p:Nat),ys[i]? = some p→(ys.filterMap (es[·]?))[i]? = es[p]?
 | [],_,i,p,e=>by simp at e
 | y :: ys,hy,i,p,e=>by
  have h0:=hy y (.head _)
  rw [Cd,show (es[y]?) = some es[y] from Ca h0]
  cases i with
  | zero=>simp at e;subst e;simp [h0]
  | succ i=>simp only [List.getElem?_cons_succ] at e ⊢;exact fm_at (fun p hp=>hy p (.tail _ hp)) i p e
theorem set_iter (r:yC ρ s.heap a es ep t) (hh:A.handled = none) (hb:es.size ≤ 4000) {Q:Value→Shared→Prop}
  (h:∀ (h':Heap) (dr:Drawn) (I:Addr) (xs:List (Int×Value)) (St:Nat→Heap→Prop) (fp:List Addr),(∀ c o,s.heap.get? c = some o→h'.get? c = some o)→s.heap.get? I = none→xs.Perm es.toList→(∀ c∈fp,∃ o,h'.get? c = some o∧o.cls ≠ .type "list")→Walks ρ.prog ρ.w A I fp [I] es.size (fun i v=>∃ e,xs[i]? = some e∧v = e.2) St→St 0 h'→Q (.ref I) { s with heap:=h',drawn:=dr }) :
  wpAny ρ.M A (pyIter (.ref a)) Q E s:=by
 have hlt:a < s.heap.objs.size:=Aq r.at_
 have hnone:∀ n,s.heap.get? (s.heap.objs.size + n) = none:=fun n=>by
  cases q:s.heap.get? (s.heap.objs.size + n) with
  | none=>rfl
  | some o=>exact absurd (Aq q) (Nat.not_lt.mpr (Nat.le_add_right _ _))
 refine wpAny_pyIter_slot r.type F.slot_set_iter (Bz F.slot_set_iter r.type nR ?_ (F.args_set_iter_1 _))
 unfold Builtin.«frozenset.__iter__»
 refine Ak (m:=Builtin.Frozenset.slot0 "__iter__" ⟨[.ref a],[]⟩) (Aj ?_)
 refine Ak (r.sizeOf ?_)
 unfold setDrawn setsByText
 refine Ak (Ak (r.state ?_))
 dsimp only
 refine Ak (Ak (Bw (Aj ?_)))
 rw [show ρ.M.w = ρ.w from rfl]
 refine Aj ?_
 show wpAny _ _ (if (!ρ.w.params.followText "set-order" && (!t.plain && decide (es.size > 1))) = true then _ else _) _ _ _
 have plainCase:∀ (xs:List (Int×Value)) (P:Nat→Value→Prop),Ord ρ s.heap a es ep t P xs→P 0 (.int (0:Nat) 0)→(∀ i T,¬ P i (.ref T))→(∀ i (k k0:Nat),P i (.int k0 0)→(ρ.w.params.followText "set-order" = false→SetTable.below t.place k = i + 1)→P (i + 1) (.int k 0)) →
   wpAny ρ.M A.in1 (do let __do_lift ← setEpoch a;let __do_lift ← newFields "set_iterator" [rawInt 0,rawInt 0,Value.ref a,rawInt es.size,rawInt __do_lift];ret __do_lift) (fun fin s'=>∃ v,fin = PySem.Fin.done (.ret v)∧∃ T' r,s'.TypeIs v T'∧typeLookup (.type T') (Str.ofString "__next__") = pure (some r)∧Q v s') E s:=by
  intro xs P o hp0 hnr hst
  refine Ak (r.epoch ?_)
  refine Ak (Bu (Aj ⟨_,rfl,"set_iterator",_,⟨_,Au _ rfl,rfl⟩,yX.lookup,?_⟩))
  have hk:∀ c ob,s.heap.get? c = some ob→(s.heap.push (sitO (.int (0:Nat) 0) 0 (.ref a) es.size ep)).get? c = some ob:=fun c ob e=>As _ e
  refine h _ s.drawn s.heap.objs.size xs (SW ρ a s.heap.objs.size es ep t P xs) (s.heap.objs.size :: a :: []) hk (hnone 0) o.perm ?_ (set_walks (tl:=[]) hh (Nat.ne_of_gt hlt) (by simp) (fun i T q=>absurd q (hnr i T)) (fun i T q=>absurd q (hnr i T)) hst) ?_
  ·intro c hc
   rcases Be.mp hc with rfl | hc
   ·exact ⟨_,Au _ rfl,by simp⟩
   ·rw [Bf.mp hc];exact ⟨_,hk _ _ r.at_,by simp⟩
  ·exact ⟨⟨hk _ _ r.at_,r.el,r.sz,r.fit,r.ap,r.led,r.ris⟩,o.frame fun T i ob q e=>hk _ _ e,_,Au _ rfl,hp0⟩
 split
 ·rename_i hd
  refine Ak (pM _ _ _ _ (by simp) fun ys dr hp=>?_)
  have hys:∀ p∈ys,p < es.size:=fun p q=>Cg.mp (hp.mem_iff.mp q)
  have hyl:ys.length = es.size:=by rw [hp.length_eq,Bh]
  have hT:(ys.map fun (i:Nat)=>rawInt i) = ys.map fun (p:Nat)=>Value.int p 0:=rfl
  refine Ak (wpAny_newTuple ?_ (by rw [Cp,hyl,Cu];exact zy 2 2 0x1100610000007150562fa03150 rfl hb hyl))
  have r1:yC ρ (s.heap.push (tupO (ys.map fun (p:Nat)=>Value.int p 0) 0)) a es ep t:=r.keep ((As _ r.at_).trans r.at_.symm)
  refine Ak (yC.epoch (s:={ s with heap:=s.heap.push (tupO (ys.map fun (p:Nat)=>Value.int p 0) 0),drawn:=dr }) r1 ?_)
  refine Ak (Bu (Aj ⟨_,rfl,"set_iterator",_,⟨_,Au _ rfl,rfl⟩,yX.lookup,?_⟩))
  have hsz:(s.heap.push (tupO (ys.map fun (p:Nat)=>Value.int p 0) 0)).objs.size = s.heap.objs.size + 1:=size_push' _ _
  have hk:∀ c ob,s.heap.get? c = some ob→((s.heap.push (tupO (ys.map fun (p:Nat)=>Value.int p 0) 0)).push (sitO (.ref s.heap.objs.size) 0 (.ref a) es.size ep)).get? c = some ob:=fun c ob e=>As _ (As _ e)
  have hTat:((s.heap.push (tupO (ys.map fun (p:Nat)=>Value.int p 0) 0)).push (sitO (.ref s.heap.objs.size) 0 (.ref a) es.size ep)).get? s.heap.objs.size = some (tupO (ys.map fun (p:Nat)=>Value.int p 0) 0):=As _ (Au _ rfl)
  have o:Ord ρ ((s.heap.push (tupO (ys.map fun (p:Nat)=>Value.int p 0) 0)).push (sitO (.ref s.heap.objs.size) 0 (.ref a) es.size ep)) a es ep t (fun U v=>v = .ref s.heap.objs.size) (ys.filterMap (es[·]?)):=by
   refine ⟨?_,fun i v e=>.inr ⟨_,_,_,e,Nat.ne_of_gt hlt,hTat,ys,rfl,hys,fm_at hys,hyl⟩⟩
   have:=(hp.filterMap (es[·]?))
   rw [filterMap_getElem?_range] at this
   exact this
  refine h _ dr _ (ys.filterMap (es[·]?)) (SW ρ a _ es ep t (fun U v=>v = .ref s.heap.objs.size) (ys.filterMap (es[·]?))) ((s.heap.push (tupO (ys.map fun (p:Nat)=>Value.int p 0) 0)).objs.size :: a :: [s.heap.objs.size]) hk (by rw [hsz];exact hnone 1) o.perm ?_ (set_walks (tl:=[s.heap.objs.size]) hh (by rw [hsz];exact Nat.ne_of_gt (Nat.lt_succ_of_lt hlt)) (by rw [hsz];simp) (fun i T e=>by cases e;exact .head _) (fun i T e=>e) (fun i k k0 e=>by cases e)) ⟨⟨hk _ _ r.at_,r.el,r.sz,r.fit,r.ap,r.led,r.ris⟩,o,_,Au _ rfl,rfl⟩
  intro c hc
  rcases Be.mp hc with rfl | hc
  ·exact ⟨_,Au _ rfl,by simp⟩
  ·rcases Be.mp hc with rfl | hc
   ·exact ⟨_,hk _ _ r.at_,by simp⟩
   ·rw [Bf.mp hc];exact ⟨_,hTat,by simp⟩
 ·rename_i hd
  refine Ak (Aj ?_)
  cases hb:ρ.w.params.followText "set-order" with
  | true=>
   refine plainCase (pickOrder (ρ.w.params.setOrder a ep) es).toList (fun U v=>∃ k:Nat,v = .int k 0) ⟨sE _ _,fun i v p1=>p1.elim fun k e=>.inl ⟨k,e,.inl ⟨hb,rfl⟩⟩⟩ ⟨0,rfl⟩ (fun i T p1=>p1.elim fun k e=>by cases e) fun i k k0 U U=>⟨k,rfl⟩
  | false=>
   rw [hb] at hd
   have hpl:t.plain = true∨¬ es.size > 1:=by
    cases hp:t.plain with
    | true=>exact .inl rfl
    | false=>rw [hp] at hd;exact .inr (by simpa using hd)
   refine plainCase es.toList (fun i v=>∃ k:Nat,v = .int k 0∧SetTable.below t.place k = i) ⟨.refl _,fun i v p1=>p1.elim fun k p2=>p2.elim fun e q=>.inl ⟨k,e,.inr ⟨hb,hpl,rfl,q⟩⟩⟩ ⟨0,rfl,below_zero r.ris⟩ (fun i T p1=>p1.elim fun k p2=>p2.elim fun e U=>by cases e) fun i k k0 U q=>⟨k,rfl,q hb⟩
end
end
section
section
variable {A:Around} {E:Value→Shared→Prop} {s:Shared} {a:Addr} {es:Array (Int×Value)} {ep:Nat} {t:SetTable}
theorem hint_set {Q:Bool→Shared→Prop} (hT:s.TypeIs (.ref a) "set") (h:Q false s):wpAny ρ.M A (Builtin.List.listLengthHint (.ref a)) Q E s:=by
 unfold Builtin.List.listLengthHint
 refine Ak (wpAny_specialOf hT set_len_slot ?_)
 generalize hid:("set.__len__":String) = id0
 wp_delta
 rw [show splitId id0 = some ("set","__len__") from by subst hid;decide +kernel]
 subst hid
 refine Ak (wpAny_isInstance (T:="set") (b:=true) hT (by rw [isSubtype_type];kernel_rfl) ?_)
 refine wpAny_ite_split (fun hab=>absurd hab (by decide)) (fun U=>?_)
 refine wpAny_ite_split (fun U=>?_) (fun hab=>absurd (by decide +kernel) hab)
 refine Ak (wpAny_typeOf hT ?_)
 exact Aj h
theorem items_list {xs:List (Int×Value)} {acc:Array Value} {n:Nat} (h:ItemsOf (fun i v=>∃ e,xs[i]? = some e∧v = e.2) acc n) (hn:n = xs.length):acc.toList = xs.map (fun p=>p.2):=by
 apply List.ext_getElem?
 intro i
 rw [Array.getElem?_toList,Bg]
 by_cases hi:i < acc.size
 ·rw [Ca hi]
  obtain ⟨e,he,hv⟩:=h.2 i _ (Ca hi)
  rw [he,hv];rfl
 ·rw [Array.getElem?_eq_none (ω39 hi),List.getElem?_eq_none (by have:=h.1;exact zy 4 3 0x10110187605828716652 rfl hn hi this)];rfl
theorem ints_of:∀ {xs:List (Int×Value)},uV ρ xs→IntsAre (xs.map (fun p=>p.2)) (xs.map key)
 | [],_=>.nil
 | e :: xs,h=>by
  obtain ⟨k,t,rfl⟩:=xL h (Db ..)
  exact .cons k t (ints_of h.tail)
theorem collect_set (r:yC ρ s.heap a es ep t) (hh:A.handled = none) (hb:es.size ≤ 4000) {Q:List Value→Shared→Prop}
  (h:∀ h' dr tk vs ns,(∀ c o,s.heap.get? c = some o→h'.get? c = some o)→s.toks ≤ tk→IntsAre vs ns→ns.Perm (es.toList.map key)→Q vs { s with heap:=h',drawn:=dr,toks:=tk }):wpAny ρ.M A (collect (.ref a)) Q E s:=by
 unfold collect
 refine Ak (wpAny_runValue (codeAny_builtin entry_proto_collect' ?_))
 show wpAny _ _ (do again (.builtin "list.__iadd__" ⟨[← newList [],.ref a],[]⟩)) _ _ s
 refine Ak (wpAny_newList (Aj ⟨Code.quiet_builtin _ (by decide +kernel),codeAny_builtin entry_list_iadd' ?_⟩))
 let S:=s.heap.objs.size
 have hSn:s.heap.get? S = none:=by
  cases q:s.heap.get? S with
  | none=>rfl
  | some o=>exact absurd (Aq q) (Ar _)
 have hSa:S ≠ a:=fun q=>by rw [q,r.at_] at hSn;cases hSn
 show wpAny _ _ (Builtin.List.listExtendWith (.ref S) (.ref a) (.ref S)) _ _ { s with heap:=s.heap.push (seqObj "list" #[] 0) }
 unfold Builtin.List.listExtendWith
 have r1:yC ρ (s.heap.push (seqObj "list" #[] 0)) a es ep t:=r.keep ((As _ r.at_).trans r.at_.symm)
 have hS0:(s.heap.push (seqObj "list" #[] 0)).get? S = some (seqObj "list" #[] 0):=Au _ rfl
 refine Ak (wpAny_typeOf (T:="set") ⟨_,r1.at_,rfl⟩ ?_)
 have h1:Builtin.List.listSameRef (.ref S) (.ref a) = false:=by simp [Builtin.List.listSameRef,hSa]
 have h2:(Value.type "set" == Value.type "list") = false:=by decide
 have h3:(Value.type "set" == Value.type "tuple") = false:=by decide
 simp only [h1,h2,h3,Bool.or_false,Ao,Ap]
 refine Ak (set_iter (s:={ s with heap:=s.heap.push (seqObj "list" #[] 0) }) r1 (by exact hh) hb fun h' dr I xs St fp hk hIn hpx hfp W st=>?_)
 have hS1:h'.get? S = some (seqObj "list" #[] 0):=hk _ _ hS0
 have hSfp:S ∉ fp:=fun q=>by obtain ⟨o,ho,hc⟩:=hfp S q;rw [hS1] at ho;cases ho;exact hc rfl
 have hSI:S ≠ I:=fun q=>by rw [← q] at hIn;rw [hIn] at hS0;cases hS0
 refine Ak (Am (hint_set ⟨_,hk _ _ r1.at_,rfl⟩ ?_))
 refine wpAny_ite_split (fun U=>?_) (fun hn=>absurd (by decide +kernel) hn)
 refine Ak (Bx ?_)
 refine Ak ?_
 show wpAny _ _ (updateSeq S (·.push .none) >>= fun U=>updateSeq S (fun p=>p.pop)) _ _ _
 refine Ak (wpAny_updateSeq hS1 rfl ?_)
 have hS2:=Heap.get?_update_self (Obj.mapSeq (·.push Value.none)) hS1 rfl
 refine wpAny_updateSeq (hz:=by seq_fits) hS2 rfl ?_
 have hS3:=Heap.get?_update_self (Obj.mapSeq (fun p=>p.pop)) hS2 rfl
 have oth:∀ b o,b ≠ S→h'.get? b = some o→((h'.update S (Obj.mapSeq (·.push Value.none))).update S (Obj.mapSeq (fun p=>p.pop))).get? b = some o:=
  fun b o hb e=>(Heap.get?_update_other _ _ (Ne.symm hb)).trans ((Heap.get?_update_other _ _ (Ne.symm hb)).trans e)
 refine Aj ⟨plainId_quiet PySem.F.plain_extend_loop _,?_⟩
 have hlen:es.size = xs.length:=by rw [hpx.length_eq,Co]
 refine codeAny_extend_loopS (W.toS) (by rw [Cu];exact zy 2 2 0x1100610000007150652fa03150 rfl hb hlen) S hSfp (.ref S) es.size 0 _ #[] _ rfl (Bv _) (W.frame 0 h' _ st fun b hb o e=>oth b o (fun q=>hSfp (q ▸ hb)) e) hS3 (ItemsOf.nil _) fun s' acc' c' hm hS' hacc=>?_
 have he:=items_list hacc hlen
 show wpAny _ _ (load S >>= _) _ _ s'
 refine Ak (wpAny_load hS' ?_)
 refine Aj ?_
 rw [Moved.eq_with hm,he]
 have hex:uV ρ xs:=fun e he=>r.el e (hpx.mem_iff.mp he)
 refine h s'.heap dr s'.toks _ _ (fun c o e=>?_) hm.toks (ints_of hex) (hpx.map key)
 have hcS:c ≠ S:=fun q=>by rw [q,hSn] at e;cases e
 refine hm.heap c o (fun hc=>?_) (oth c o hcS (hk c o (As _ e)))
 rcases Be.mp hc with q | q
 ·exact hcS q
 ·rw [Bf.mp q] at e
  rw [show (s.heap.push (seqObj "list" #[] 0)).get? I = some o from As _ e] at hIn
  cases hIn
theorem sorted_set (r:yC ρ s.heap a es ep t) (hh:A.handled = none) (hb:es.size < 64) {Q:Value→Shared→Prop}
  (h:∀ h' dr tk L vs n ns,(∀ c o,s.heap.get? c = some o→h'.get? c = some o)→s.toks ≤ tk→s.heap.get? L = none→h'.get? L = some (tV vs n)→IntsAre vs ns→ns.Perm (es.toList.map key)→ns.Pairwise (fun p q=>p≤q)→Q (.ref L) { s with heap:=h',drawn:=dr,toks:=tk }) :
  wpAny ρ.M A (call (.builtin "sorted") [.ref a]) Q E s:=by
 refine Calls.call_function_entry kind_sorted plain_sorted entry_sorted (args_sorted1 _) ?_
 unfold Builtin.«sorted»
 refine Ak (m:=checkCount "sorted" 1 1 _) (Aj ?_)
 refine Ak (collect_set r (by exact hh) (zy 1 1 0x114fa03150402151 rfl hb) fun h' dr tk vs ns hk htk hi hp=>?_)
 have hvl:vs.length = es.size:=by
  have h1:vs.length = ns.length:=by
   clear hp;induction hi with
   | nil=>rfl
   | cons _ _ _ ih=>simp [ih]
  rw [h1,hp.length_eq,Cp,Co]
 refine Ak (wpAny_newList ?_ (by rw [Cu];exact zy 2 2 0x1110610000007160562402151 rfl hb hvl))
 let L:=h'.objs.size
 have hoL:(h'.push (seqObj "list" vs.toArray 0)).get? L = some (seqObj "list" vs.toArray 0):=Au _ rfl
 have hLn:s.heap.get? L = none:=by
  cases q:s.heap.get? L with
  | none=>rfl
  | some o=>exact absurd (Aq (hk _ _ q)) (Ar _)
 refine Ak (Am (Bz slot_list_sort ⟨_,hoL,rfl⟩ entry_list_sort (list_sort_tree hoL hi (zy 2 2 0x11106402161562402151 rfl hb hvl) fun out ns' a1 a2 a3=>⟨_,rfl,?_⟩) (args_list_sort _)))
 obtain ⟨e,he⟩:=sortedHeap_at (out:=out) hoL
 refine Aj ⟨_,rfl,h _ dr tk L out.toList e ns' (fun c o ec=>?_) htk hLn (by simpa using he) a1 (a2.trans hp) a3⟩
 have hc:=hk c o ec
 have hcl:c < h'.objs.size:=Aq hc
 rw [sortedHeap_old (Bb hcl) (by rw [size_push'];exact Nat.lt_succ_of_lt hcl)]
 exact As _ hc
end
end
section
section
variable {l:Nat} {H:zA} {m:zN} {env:Env} {Q:AV→zA→Prop} {B:Bool→zA→Prop}
noncomputable def IsS (H:zA):AV→(Int→Bool)→Nat→Prop
 | .iset S n,S',n'=>S = S'∧n = n'
 | .ref a,S,n=>H a = some (.iset S n)
 | _,_,_=>False
noncomputable def MKS (S:Int→Bool) (n:Nat) (H:zA) (Q:AV→zA→Prop):Prop:=Q (.iset S n) H∨∀ a,H a = none→Q (.ref a) (upd H a (.iset S n))
noncomputable def Few (S:Int→Bool) (n:Nat):Prop:=∀ N:Nat,(∀ k,S k = true→-1 ≤ k∧k < N)→n ≤ N + 1
theorem IsS.at {P s av S n v} (h:IsS H av S n) (g:G ρ P H s) (c:xM ρ s.heap (Dm H P) av v):∃ a es ep t,v = .ref a∧yC ρ s.heap a es ep t∧(∀ k,S k = true↔yQ ρ es.toList k)∧es.size = n∧(n = 0→t.mask = 7∧t.fill = 0)∧((∃ S n,av = .iset S n)→¬ Dm H P a):=by
 cases av with
 | iset S' n'=>
  refine sealG ?_
  intro Gs
  obtain ⟨rfl,rfl⟩:=h
  obtain ⟨a,e,nd,hs⟩:=c
  obtain ⟨es,ep,t,r,hm,hz,h0⟩:=hs.raw
  exact ⟨a,es,ep,t,e,r,hm,hz,h0,fun U=>nd⟩
 | ref a=>
  cases c
  refine sealG ?_
  intro Gs
  obtain ⟨es,ep,t,r,hm,hz,h0⟩:=(show nZ ρ s.heap a S n from g.rep a _ h).raw
  exact ⟨a,es,ep,t,rfl,r,hm,hz,h0,fun p1=>p1.elim fun U p2=>p2.elim fun U q=>by cases q⟩
 | _=>exact h.elim
theorem few_of {es:Array (Int×Value)} {S:Int→Bool} (el:uV ρ es.toList) (ap:tJ ρ es.toList) (hm:∀ k,S k = true↔yQ ρ es.toList k):Few S es.size:=fun N hN=>by
 have:=qJ (ys:=(List.range (N + 1)).map fun (i:Nat)=>(i:Int) - 1) (vI el ap) fun k hk=>by
  obtain ⟨a,b⟩:=hN k ((hm k).mpr ((vY el).mpr hk))
  exact Bm.mpr ⟨(k + 1).toNat,Cg.mpr (zw 1 1 1 2 0x110000811001705461520010401011140301042 rfl a b),zw 0 1 1 1 0x110017110060100107101060001011152030501011140301042 rfl a⟩
 simpa using this
theorem MKS.fin {P s S n} {h':Heap} {a dr tk} (g:G ρ P H s) (hq:MKS S n H Q) (hn:s.heap.get? a = none) (hk:∀ b o,s.heap.get? b = some o→h'.get? b = some o) (hs:nZ ρ h' a S n) (htk:s.toks ≤ tk) :
  FR ρ P s H (tG ρ P Q) (.ref a) { s with heap:=h',drawn:=dr,toks:=tk }:=by
 have st:zX (Dm H P) s.heap (Dm H P) h':=fun b o e n=>⟨hk b o e,n⟩
 have hH:H a = none:=g.rep.new hn
 have nD:¬ Dm H P a:=fun q=>q.elim (fun q=>q hH) fun q=>by obtain ⟨U,o,e⟩:=g.pin _ q;rw [hn] at e;cases e
 rcases hq with q | q
 ·exact ⟨H,⟨fun b o e n=>⟨hk b o e,n⟩,fun b o e=>(g.rep b o e).at st (hk b) fun U d hd=>⟨hd,hk d⟩,rfl,rfl,htk⟩,.iset S n,⟨a,rfl,nD,hs⟩,q⟩
 ·have hs':∀ b ob,b ≠ a→s.heap.get? b = some ob→h'.get? b = some ob:=fun b ob U e=>hk b ob e
  have ha:H a ≠ none∨s.heap.get? a = none:=.inr hn
  have x:pX H s.heap (upd H a (.iset S n)) h':=pX.put hs' ha
  exact ⟨upd H a (.iset S n),⟨x,g.rep.put hs' ha (by rw [hH];intro x q;cases q) hs,rfl,rfl,htk⟩,.ref _,rfl,q _ hH⟩
theorem yI.ninS {av:AV} {S n} {k:Int} (hS:IsS H av S n) (q:B (!S k) H):yI ρ l .NotIn (.int k) av H B:=by
 refine .mk ?_
 rintro P s U U g ⟨t,rfl⟩ ca A hA
 refine sealG ?_
 intro Gs
 obtain ⟨a,es,ep,tt,rfl,r,hm,rfl,U⟩:=hS.at g ca
 exact wpAny_notInSet_of (Br ρ.prog ρ.w k t) rfl ⟨_,es,ep,tt,r.at_,⟨rfl,rfl,rfl⟩,rfl,r.el,hm,r.sz,r.fit,rfl⟩ ⟨H,g.tok (Nat.le_succ _),_,rfl,q⟩
theorem yI.ninU {a:Addr} {S n} {k:Int} (hS:H a = some (.uset S n)) (q:B (!S k) H):yI ρ l .NotIn (.int k) (.ref a) H B:=by
 refine .mk ?_
 rintro P s U U g ⟨t,rfl⟩ rfl A hA
 exact wpAny_notInSet_of (Br ρ.prog ρ.w k t) rfl (show s.heap.SetOf ρ.iK a S n from g.rep a _ hS) ⟨H,g.tok (Nat.le_succ _),_,rfl,q⟩
theorem yI.neS {av bv:AV} {S n T n'} (hS:IsS H av S n) (hT:IsS H bv T n') (hl:l ≤ 50) (q:∀ r,(r = false↔∀ k,S k = T k)→B r H):yI ρ l .NotEq av bv H B:=by
 refine .mk ?_
 rintro P s U U g ca cb A hA
 refine sealG ?_
 intro Gs
 obtain ⟨a,es,ep,tt,rfl,r,hm,rfl,U⟩:=hS.at g ca
 obtain ⟨b,eb,epb,tb,rfl,rb,hmb,rfl,U⟩:=hT.at g cb
 refine r.ne rb (hA.units hl) fun x hx=>⟨H,.refl g.rep,x,rfl,q x (hx.trans ⟨fun h k=>?_,fun h k=>?_⟩)⟩
 ·have:=(hm k).trans ((h k).trans (hmb k).symm)
  cases h1:S k <;> cases h2:T k <;> simp [h1,h2] at this ⊢
 ·rw [← hm,← hmb,h]
theorem pU.setadd {a:Addr} {Q:AV→List AV→Prop} (h:(∃ S n,H a = some (.iset S n))∨∃ S n,H a = some (.uset S n)) (q:Q (.con (.builtin "set.add")) [.ref a]):pU ρ l (.ref a) "add" H Q:=by
 refine .mk ?_
 rintro P s va pl g rfl A hA
 have hs:∃ S n,s.heap.SetOf ρ.iK a S n:=by
  refine sealG ?_
  intro Gs
  rcases h with ⟨S,n,h⟩ | ⟨S,n,h⟩
  ·refine sealG ?_
   intro Gs
   obtain ⟨es,ep,t,r,hm,hz,U⟩:=(show nZ ρ s.heap a S n from g.rep a _ h).raw
   exact ⟨S,es.size,_,es,ep,t,r.at_,⟨rfl,rfl,rfl⟩,rfl,r.el,hm,r.sz,r.fit,rfl⟩
  ·exact ⟨S,n,g.rep a _ h⟩
 refine sealG ?_
 intro Gs
 obtain ⟨S,n,hs⟩:=hs
 exact getMethod_set_add hs ⟨H,.refl g.rep,rfl,.con (.builtin "set.add"),[.ref a],(rfl:Value.builtin "set.add" = _),show zU ρ s.heap (Dm H P) [.ref a] [.ref a] from ⟨_,[],rfl,rfl,rfl⟩,q⟩
theorem zE.addU {a:Addr} {S n} {k:Int} (h:H a = some (.uset S n)) (hn:n < 4000) (q:Q .none (upd H a (.uset (fun k'=>S k' || decide (k' = k)) (if S k then n else n + 1)))):zE ρ l (.con (.builtin "set.add")) [.ref a,.int k] H Q:=by
 refine .mk ?_
 rintro P s U U g rfl ⟨U,U,rfl,rfl,U,U,rfl,⟨t,rfl⟩,rfl⟩ A hA
 refine call_set_add (Br ρ.prog ρ.w k t) rfl (show s.heap.SetOf ρ.iK a S n from g.rep a _ h) (by have:scanBound = 4096:=rfl;exact ω44 hn this) fun h' hsb hS'=>?_
 exact ⟨_,vA (o':=.uset _ _) g h nofun hsb (Nat.le_succ _) fun st=>hS',.none,rfl,q⟩
theorem oA {a:Addr} {S n} {k:Int} (h:H a = some (.iset S n)) (hn:n < 4000) (q:∀ n',Few (fun k'=>S k' || decide (k' = k)) n'→Q .none (upd H a (.iset (fun k'=>S k' || decide (k' = k)) n'))):zE ρ l (.con (.builtin "set.add")) [.ref a,.int k] H Q:=by
 refine .mk ?_
 rintro P s U U g rfl ⟨U,U,rfl,rfl,U,U,rfl,⟨t,rfl⟩,rfl⟩ A hA
 refine sealG ?_
 intro Gs
 obtain ⟨es,ep,tt,r,hm,rfl,h0⟩:=(show nZ ρ s.heap a S n from g.rep a _ h).raw
 refine Bz F.slot_set_add r.type F.entry_set_add ?_ (F.args_set_add_2 _ _)
 unfold Builtin.«set.add» Builtin.Frozenset.oneOther
 simp only [List.isEmpty_nil,bind_assoc]
 unfold Builtin.Frozenset.addrOf setAdd
 refine Ak (Aj ?_)
 try dsimp only
 refine Ak (Aj ?_)
 try dsimp only
 refine Ak ?_
 refine Am ?_
 refine Ak (ρ.iK.pyHash (Br ρ.prog ρ.w k t) ?_)
 have fin:∀ h' es' ep' t',Heap.SameBut a s.heap h'→yC ρ h' a es' ep' t'→(∀ k',(S k' || decide (k' = k)) = true↔yQ ρ es'.toList k')→FR ρ P s H (tG ρ P Q) .none { s with heap:=h',toks:=s.toks + 1 }:=fun h' es' ep' t' hs r' hm'=>
  ⟨_,vA (o':=.iset _ es'.size) g h nofun hs (Nat.le_succ _) fun st=>r'.setL hm' fun q=>absurd q (qN ((hm' k).mp (by simp))),.none,rfl,q _ (few_of r'.el r'.ap hm')⟩
 refine yC.add (s:={ s with toks:=s.toks + 1 }) r (Br ρ.prog ρ.w k t) rfl (by have:scanBound = 4096:=rfl;exact ω44 hn this) (fun hold=>?_) fun hnew h' es' ep' t' hs r' hp=>?_
 ·show wpAny _ _ (ret Value.none) _ _ _
  exact Aj ⟨_,rfl,fin s.heap es ep tt (Heap.SameBut.refl ..) r fun k'=>by
   rw [Df,hm,Bq]
   exact ⟨fun q=>q.elim id fun q=>q ▸ hold,.inl⟩⟩
 ·show wpAny _ _ (ret Value.none) _ _ _
  exact Aj ⟨_,rfl,fin h' es' ep' t' hs r' fun k'=>by
   rw [Df,hm,Bq,yQ.perm hp,rW,xT]
   exact ⟨fun q=>q.imp_right .inl,fun q=>q.imp_right fun q=>q.elim id fun q=>absurd q vM⟩⟩
theorem INP.orS {a:Addr} {bv:AV} {S n T n'} (h:H a = some (.iset S n)) (hT:bv = .iset T n') (h1:n ≤ 60) (h2:n' ≤ 60) (q:∀ n'',Few (fun k=>S k || T k) n''→Q (.ref a) (upd H a (.iset (fun k=>S k || T k) n''))):INP ρ l .BitOr (.ref a) bv H Q:=by
 subst hT
 refine .mk ?_
 rintro P s U U g rfl cb A hA
 refine sealG ?_
 intro Gs
 obtain ⟨es,ep,tt,r,hm,rfl,h0⟩:=(show nZ ρ s.heap a S n from g.rep a _ h).raw
 obtain ⟨b,eb,epb,tb,rfl,rb,hmb,rfl,U,nd⟩:=IsS.at (H:=H) (av:=.iset T n') (S:=T) (n:=n') ⟨rfl,rfl⟩ g cb
 have hab:b ≠ a:=fun q=>nd ⟨_,_,rfl⟩ (.inl (by rw [q,h];simp))
 refine yC.ior hab rb r h1 h2 h0 fun h' dr es' ep' t' hs r' hk hz=>?_
 have hm':∀ k,(S k || T k) = true↔yQ ρ es'.toList k:=fun k=>by rw [Df,hm,hmb,hk]
 have f:=vA (o':=.iset (fun k=>S k || T k) es'.size) (tk:=s.toks) g h nofun hs (Ag _) fun st=>r'.setL hm' hz
 exact ⟨_,⟨f.ext,f.rep,f.gens,f.os,f.tk⟩,.ref a,rfl,q _ (few_of r'.el r'.ap hm')⟩
theorem xW.orS {av bv:AV} {S n T n'} (hS:IsS H av S n) (hT:IsS H bv T n') (h1:n ≤ 60) (h2:n' ≤ 60) (q:∀ n'',Few (fun k=>S k || T k) n''→MKS (fun k=>S k || T k) n'' H Q):xW ρ l .BitOr av bv H Q:=by
 refine .mk ?_
 rintro P s U U g ca cb A hA
 refine sealG ?_
 intro Gs
 obtain ⟨a,es,ep,tt,rfl,r,hm,rfl,h0,U⟩:=hS.at g ca
 obtain ⟨b,eb,epb,tb,rfl,rb,hmb,rfl,U⟩:=hT.at g cb
 refine wpAny_binaryOp_same (op:=.BitOr) (T:="set") r.type rb.type F.fills_set_or F.slot_set_or (r.or rb h2 h1 fun h' dr es' ep' t' x hx hk r' hm' hz=>?_)
 have hm2:∀ k,(S k || T k) = true↔yQ ρ es'.toList k:=fun k=>by rw [Df,hm,hmb,hm']
 exact ⟨by simp,MKS.fin (tk:=s.toks) g (q _ (few_of r'.el r'.ap hm2)) hx hk (r'.setL hm2 hz) (Ag _)⟩
theorem xW.subS {av bv:AV} {S n T n'} (hS:IsS H av S n) (hT:IsS H bv T n') (h1:n ≤ 60) (q:∀ n'',Few (fun k=>S k && !T k) n''→MKS (fun k=>S k && !T k) n'' H Q):xW ρ l .Sub av bv H Q:=by
 refine .mk ?_
 rintro P s U U g ca cb A hA
 refine sealG ?_
 intro Gs
 obtain ⟨a,es,ep,tt,rfl,r,hm,rfl,h0,U⟩:=hS.at g ca
 obtain ⟨b,eb,epb,tb,rfl,rb,hmb,rfl,U⟩:=hT.at g cb
 refine wpAny_binaryOp_same (op:=.Sub) (T:="set") r.type rb.type F.fills_set_sub F.slot_set_sub (r.sub rb h1 fun s' es' ep' t' x hx gw r' hm' hz=>?_)
 obtain ⟨⟨h',dr,rfl⟩,hk⟩:=gw
 have hm2:∀ k,(S k && !T k) = true↔yQ ρ es'.toList k:=fun k=>by rw [Av,hm,hm',Bool.not_eq_true',← Bool.not_eq_true,hmb]
 exact ⟨by simp,MKS.fin (tk:=s.toks) g (q _ (few_of r'.el r'.ap hm2)) hx hk (r'.setL hm2 hz) (Ag _)⟩
theorem qW {av:AV} {S n} (hS:IsS H av S n) (hn:n < 64) (q:∀ ns:List Int,ns.Nodup→(∀ k,S k = true↔k∈ns)→ns.length = n→List.Pairwise (fun p q=>p≤q) ns→MK (iL ns) H Q):zE ρ l (.con (.builtin "sorted")) [av] H Q:=by
 refine .mk ?_
 rintro P s U U g rfl ⟨va,U,rfl,ca,rfl⟩ A hA
 refine sealG ?_
 intro Gs
 obtain ⟨a,es,ep,tt,rfl,r,hm,rfl,h0,U⟩:=hS.at g ca
 refine sorted_set r hA.1 hn fun h' dr tk L vs n ns hk htk hL hg hi hp hs=>?_
 have hq:=q ns (hp.nodup_iff.mpr (vI r.el r.ap)) (fun k=>by rw [hm,vY r.el,hp.mem_iff]) (by rw [hp.length_eq];simp) hs
 refine sealG ?_
 intro Gs
 obtain ⟨H',f,pa,pc,pq⟩:=MK.fin (tk:=tk) g hq hL hk hg (sT hi) htk
 exact ⟨H',⟨f.ext,f.rep,f.gens,f.os,f.tk⟩,pa,pc,pq⟩
theorem zG.main {P:Addr→Prop} {s:Shared} {A:Around} (g:G ρ P H s) (hc:CodeIn ρ.base env.code) {Q:Bool→Shared→Prop} (h:∀ b,Q b s):wpAny ρ.M A (inMainModule env) Q (fun U U=>False) s:=by
 obtain ⟨c,o,vs,e,ho,hd⟩:=hc
 unfold inMainModule
 rw [e]
 rw [Aa (show ¬ ((Value.ref c == Value.none) = true) from Bool.false_ne_true)]
 refine Ak (wpAny_fieldsOf (g.base _ _ ho).1 hd ?_)
 split
 ·exact Ak (Bw (Aj (h _)))
 ·exact Aj (h _)
theorem EX.set1 {i:Int} {ki k:Nat} {ps pos:Pos} (hc:CodeIn ρ.base env.code) (hroad:(displayRoad k [.Constant (.int i) ki ps] == .constants) = false)
  (q:∀ a,H a = none→Q (.ref a) (upd H a (.uset (fun k=>decide (k = i)) 1))):EX ρ l env (.Set [.Constant (.int i) ki ps] k pos) H m Q:=.mk fun P s g F A hA=>by
 rw [arm_eval_Set]
 refine Ak (Al ?_)
 refine Ak (zG.main g hc fun b=>?_)
 refine kds_core (ts:=[do let v ← eval (.Constant (.int i) ki ps) env;standAt pos;pure v]) hroad rfl (by show 1 ≤ 30;decide) rfl fun led=>?_
 have hS:(s.heap.push (tY #[] 0 (.fresh 0 0 led))).SetOf ρ.iK s.heap.objs.size (fun U=>false) 0:=⟨_,#[],0,_,Au _ rfl,⟨rfl,rfl,rfl⟩,rfl,fun e he=>by simp at he,fun k=>by simp,by decide,by rfl,rfl⟩
 refine Ak (Ak (wpAny_Constant_int (Ak (Al (Aj ?_)))))
 refine Ak (Am (Aj (Aj ?_)))
 have fin:∀ (h':Heap) tk,s.toks ≤ tk→Heap.SameBut s.heap.objs.size (s.heap.push (tY #[] 0 (.fresh 0 0 led))) h'→h'.SetOf ρ.iK s.heap.objs.size (fun k=>decide (k = i)) 1→FR ρ P s H (tG ρ P Q) (.ref s.heap.objs.size) { s with heap:=h',toks:=tk }:=fun h' tk htk hsb hs=>by
  have hk:∀ b o,s.heap.get? b = some o→h'.get? b = some o:=fun b o e=>(hsb.2 b (Bb (Aq e))).trans (As _ e)
  have hs':∀ b ob,b ≠ s.heap.objs.size→s.heap.get? b = some ob→h'.get? b = some ob:=fun b ob U e=>hk b ob e
  have ha:H s.heap.objs.size ≠ none∨s.heap.get? s.heap.objs.size = none:=.inr (zW g).1
  exact ⟨upd H s.heap.objs.size (.uset _ 1),⟨pX.put hs' ha,g.rep.put hs' ha (by rw [(zW g).2];intro x q;cases q) hs,rfl,rfl,htk⟩,.ref _,rfl,q _ (zW g).2⟩
 refine kds_fill_cons ?_
 unfold setAdd
 refine Am (Ak (ρ.iK.pyHash (Br ρ.prog ρ.w i _) ?_))
 refine wpAny_setAddHashed_of (knd:=ρ.iK) (s:={ s with heap:=s.heap.push (tY #[] 0 (.fresh 0 0 led)),toks:=s.toks + 1 + 1 }) (Br ρ.prog ρ.w i _) rfl hS (by decide) fun h' hsb hS'=>?_
 have hS2:h'.SetOf ρ.iK s.heap.objs.size (fun k=>decide (k = i)) 1:=by simpa using hS'
 cases hu:(displayRoad k [.Constant (.int i) ki ps] == .unsure) with
 | false=>exact kds_fill_nil rfl (fin h' _ (Nat.le_succ_of_le (Nat.le_succ _)) hsb hS2)
 | true=>
  refine kds_fill_unled rfl ?_
  unfold setUnled
  refine sealG ?_
  intro Gs
  obtain ⟨o,es,ep,t,ho,hex,hd,hel,hmem,hb',hf,hn⟩:=hS2
  refine Ak (wpAny_setState_of ho hd hf ?_)
  dsimp only
  refine wpAny_storeSet_of ho hd ?_ (fits_of_scanBound hb')
  refine sealG ?_
  intro Gs
  obtain ⟨U,hS3⟩:=SetOf_store (knd:=ρ.iK) (t':={ t with led:=false }) ho hex hd hel hmem hb' (by cases t;exact hf)
  rw [hn] at hS3
  exact fin _ _ (Nat.le_succ_of_le (Nat.le_succ _)) (hsb.trans (Heap.SameBut.update ..)) hS3
end
end
section
section
variable {A:Around} {E:Value→Shared→Prop} {s:Shared}
theorem set_new_led {Q₁:Value→Shared→Prop} (h:∀ led:Bool,(ρ.w.params.followText "set-order" = false→led = true)→Q₁ (.ref s.heap.objs.size) { s with heap:=s.heap.push (tY #[] 0 (.fresh 0 0 led)) }) :
  codeAny ρ.M A (.call (.builtin "set.__new__") ⟨[.type "set"],[]⟩) (wants Q₁ E) s:=by
 refine codeAny_of_tree ?_
 show wpAny _ A.in1 (do checkBuiltinCall "set.__new__" ⟨[.type "set"],[]⟩;again (.builtin "set.__new__" ⟨[.type "set"],[]⟩)) _ _ s
 refine Ak (wpAny_of_eq F.newCall_set_0 (Aj ⟨plainId_quiet F.plain_set_new _,codeAny_builtin F.entry_set_new ?_⟩))
 rw [Around.under_plainId F.plain_set_new _]
 unfold Builtin.«set.__new__» Builtin.Frozenset.newClass
 have hsub:=sub_set_self
 obtain ⟨hp,g,d,tk,os⟩:=s
 dsimp only
 wp_walk
 refine Bw (Aj ?_)
 dsimp only
 simp only [newObj]
 refine Ak (wpAny_alloc (Aj ?_))
 exact Aj (h _ fun q=>by rw [show ρ.M.w = ρ.w from rfl,q];rfl)
set_option maxHeartbeats 1000000 in
set_option maxRecDepth 100000 in
theorem set_call_led {Q:Value→Shared→Prop} (h:∀ led:Bool,(ρ.w.params.followText "set-order" = false→led = true)→Q (.ref s.heap.objs.size) { s with heap:=s.heap.push (tY #[] 0 (.fresh 0 0 led)) }) :
  wpAny ρ.M A (call (.type "set") []) Q E s:=by
 obtain ⟨c,tl,hmro⟩:=Dg.mro
 have hmade:=Dg.made
 have hsub:=Dg.sub
 refine wpAny_call (codeAny_of_tree ?_)
 show wpAny _ _ (callAny (.type "set") _) _ _ _
 refine Aj ⟨Code.quiet_builtin _ (by decide +kernel),codeAny_builtin F.entry_type_call ?_⟩
 rw [Around.under_plain (weight_type_call_type "set" [] []) rfl]
 have h1:=Dg.notType
 have h2:=Dg.canCreate
 have hct:=F.typeCall_set_0
 repeat (any_goals (first | assumption | wp_step))
 refine Bd (set_new_led (E:=E) (Q₁:=fun obj s₁=>∃ led:Bool,(ρ.w.params.followText "set-order" = false→led = true)∧obj = .ref s.heap.objs.size∧s₁ = { s with heap:=s.heap.push (tY #[] 0 (.fresh 0 0 led)) }) fun led hl=>⟨led,hl,rfl,rfl⟩) fun r s₁ hr=>?_
 cases r with
 | error e=>exact hr
 | ok fl=>
  cases fl with
  | ret obj=>
   obtain ⟨led,hl,rfl,rfl⟩:=hr
   have hS:(s.heap.push (tY #[] 0 (.fresh 0 0 led))).get? s.heap.objs.size = some (tY #[] 0 (.fresh 0 0 led)):=Au _ rfl
   have hT:Shared.TypeIs { s with heap:=s.heap.push (tY #[] 0 (.fresh 0 0 led)) } (.ref s.heap.objs.size) "set":=⟨_,hS,rfl⟩
   have hli:=Dg.init.lookup
   have hbi:=Dg.init.bind (.ref s.heap.objs.size)
   repeat (any_goals (first | assumption | wp_step))
   refine Bd (codeAny_call_builtin (R:=wants (fun r s₂=>r = .none∧Q (.ref s.heap.objs.size) s₂) E) Dg.init.plain F.entry_set_init (check_set_init hT ?_)) fun r₂ s₂ hr₂=>?_
   ·unfold Builtin.«set.__init__» noKeywords
    wp_walk
    exact ⟨rfl,h led hl⟩
   ·cases r₂ with
    | error e=>exact hr₂
    | ok fl₂=>
     cases fl₂ with
     | ret r=>
      obtain ⟨rfl,hq⟩:=hr₂
      repeat (any_goals (first | assumption | wp_step))
     | _=>exact hr₂.elim
  | _=>exact hr.elim
end
section
variable {base:Heap} {l:Nat} {H:zA} {Q:AV→zA→Prop}
theorem tI (q:MKS (fun _=>false) 0 H Q):zE ρ l (.con (.type "set")) [] H Q:=by
 refine .mk ?_
 rintro P s _ _ g rfl rfl A hA
 refine set_call_led fun led hl=>?_
 have hs:nZ ρ (s.heap.push (tY #[] 0 (.fresh 0 0 led))) s.heap.objs.size (fun _=>false) 0:=⟨#[],0,_,Au _ rfl,fun e he=>by simp at he,fun k=>by simp,by decide,rfl,rfl,List.Pairwise.nil,hl,fun _=>⟨rfl,rfl⟩,List.Pairwise.nil⟩
 exact MKS.fin (dr:=s.drawn) (tk:=s.toks) g q (zW g).1 (fun b o e=>As _ e) hs (Ag _)
end
end
section
inductive Cls (base:Heap) (C:Addr) (fns:List (Str×Addr)) (attrs:List Str):Prop
 | mk:∀ nm q N bs sn sub col dd k0 k1 k2 k3 k5 mN,base.get? C = some (excClassObj nm q C N bs [.type "object"] true sn sub false col dd k0 k1 k2 k3 k5 "object.__new__")→base.Ns N mN →
  mN "__getattribute__" = none→mN "__getattr__" = none→mN "__setattr__" = none→(∀ x∈attrs,mN x = none∧typeLookup (.type "object") x = pure none) →
  (∀ p∈fns,mN p.1 = some (.ref p.2)∧(∃ o,base.get? p.2 = some o∧o.cls = .type "function")∧∃ y,typeLookup (.type "object") p.1 = pure y)→Cls base C fns attrs
noncomputable def given:AV→Bool
 | .con _=>false
 | _=>true
theorem given_in {h D av v} (c:xM ρ h D av v) (hg:given av = true):handedOut v = pure v:=by
 refine handedOut_of ?_
 cases av with
 | con u=>cases hg
 | none=>cases c;rfl
 | bool b=>cases c;rfl
 | int i=>obtain ⟨t,rfl⟩:=c;rfl
 | str x=>obtain ⟨t,rfl⟩:=c;rfl
 | ref a=>cases c;rfl
 | rng lo hi=>obtain ⟨a,t,u,t',rfl,U⟩:=c;rfl
 | tup xs=>obtain ⟨a,vs,n,rfl,U⟩:=c;rfl
 | lst xs=>obtain ⟨a,vs,n,rfl,U⟩:=c;rfl
 | idct ks xs=>obtain ⟨a,vs,rfl,U⟩:=c;rfl
 | iset S n=>obtain ⟨a,rfl,U⟩:=c;rfl
 | obj C ns xs=>obtain ⟨x,dx,kvs,rfl,U⟩:=c;rfl
theorem vU.lookup {h D} {k:Str} {kvs:List (Str×AV)} {cv:List (Str×Value)} (r:vU ρ h D kvs cv):(∀ x,kvs.lookup k = some x→∃ v,cv.lookup k = some v∧xM ρ h D x v)∧(kvs.lookup k = none→cv.lookup k = none):=by
 refine r.ind (M:=fun kvs cv=>(∀ x,kvs.lookup k = some x→∃ v,cv.lookup k = some v∧xM ρ h D x v)∧(kvs.lookup k = none→cv.lookup k = none)) ⟨fun x e=>(nomatch e),fun U=>rfl⟩ fun k' y u kvs cv c ih=>?_
 rw [Bk,Bk]
 by_cases q:k = k'
 ·rw [beq_iff_eq.mpr q]
  exact ⟨fun x e=>⟨u,rfl,Option.some.inj e ▸ c⟩,fun e=>nomatch e⟩
 ·rw [beq_eq_false_iff_ne.mpr q]
  exact ih
section
variable {l:Nat} {H:zA} {Q:AV→zA→Prop} {P:Addr→Prop} {s:Shared}
noncomputable def IsO (H:zA):AV→Addr→List (Str×AV)→Prop
 | .obj C ns xs,C',fs=>C = C'∧fs.map (fun p=>p.1) = ns∧fs.map (fun p=>p.2) = xs
 | .ref a,C,fs=>∃ dx,H a = some (.inst C dx fs)
 | _,_,_=>False
theorem mD.inst {h:Heap} {x C dx:Addr} {mA} (i:mD h x C dx) (n:h.Ns1 dx mA):h.Inst x C mA:=by
 refine sealG ?_
 intro Gs
 obtain ⟨hne,ob,ho,hc,hd,hn⟩:=i
 exact ⟨ob,ho,hc,hn,.inr ⟨dx,hd,hne,n⟩⟩
theorem IsO.at {av C fs v} (hO:IsO H av C fs) (g:G ρ P H s) (c:xM ρ s.heap (Dm H P) av v):∃ x dx cv,v = .ref x∧mD s.heap x C dx∧s.heap.Ns1 dx (fun y=>cv.lookup y)∧vU ρ s.heap (Dm H P) fs cv:=by
 cases av with
 | obj C' ns xs=>
  refine sealG ?_
  intro Gs
  obtain ⟨rfl,rfl,rfl⟩:=hO
  obtain ⟨x,dx,kvs,e,U,U,hi,hn,hk,cl⟩:=c
  exact ⟨x,dx,kvs,e,hi,hn,hk,cl⟩
 | ref a=>
  cases c
  refine sealG ?_
  intro Gs
  obtain ⟨dx,hO⟩:=hO
  obtain ⟨cv,U,hi,hn,hk,cl⟩:=g.rep a _ hO
  exact ⟨a,dx,cv,rfl,hi,hn,hk,cl⟩
 | _=>exact hO.elim
theorem xX.obj {av:AV} {C:Addr} {fns attrs} {fs:List (Str×AV)} {x:Str} {v:AV} (hC:Cls ρ.base C fns attrs) (hO:IsO H av C fs) (hx:x∈attrs) (hv:fs.lookup x = some v) (hg:given v = true) (q:Q v H):xX ρ l av x H Q:=by
 refine .mk ?_
 rintro P s va g ca A hA
 refine sealG ?_
 intro Gs
 obtain ⟨a,dx,cv,rfl,hi,hn,r⟩:=hO.at g ca
 obtain ⟨u,hu,cu⟩:=r.lookup.1 v hv
 obtain ⟨nm,qq,N,bs,sn,sub,col,dd,k0,k1,k2,k3,k5,mN,hc,hN,h1,h2,h3,h4,h5⟩:=hC
 have kb:∀ b o,ρ.base.get? b = some o→s.heap.get? b = some o:=fun b o e=>(g.base b o e).1
 exact load_attr (d:=s.drawn) (kb _ _ hc) (hN.keeps kb) h1 (h4 x hx).1 (h4 x hx).2 (hi.inst hn) hu (given_in cu hg) ⟨H,g.tok (Nat.le_succ _),v,cu,q⟩
theorem pU.obj {av:AV} {C f:Addr} {fns attrs} {fs:List (Str×AV)} {x:Str} {Q:AV→List AV→Prop} (hC:Cls ρ.base C fns attrs) (hO:IsO H av C fs) (hx:(x,f)∈fns) (hv:fs.lookup x = none) (q:Q (.ref f) [av]):pU ρ l av x H Q:=by
 refine .mk ?_
 rintro P s va pl g ca A hA
 refine sealG ?_
 intro Gs
 obtain ⟨a,dx,cv,rfl,hi,hn,r⟩:=hO.at g ca
 obtain ⟨nm,qq,N,bs,sn,sub,col,dd,k0,k1,k2,k3,k5,mN,hc,hN,h1,h2,h3,h4,h5⟩:=hC
 have kb:∀ b o,ρ.base.get? b = some o→s.heap.get? b = some o:=fun b o e=>(g.base b o e).1
 obtain ⟨hf,⟨o,ho,hoc⟩,y,hy⟩:=h5 _ hx
 exact method_of (d:=s.drawn) (kb _ _ hc) (hN.keeps kb) h1 h2 hf (kb _ _ ho) hoc hy (hi.inst hn) (r.lookup.2 hv) ⟨H,.refl g.rep,rfl,.ref f,[av],(rfl:Value.ref f = _),show zU ρ s.heap (Dm H P) [av] [.ref a] from ⟨_,[],rfl,ca,rfl⟩,q⟩
noncomputable def oP {α:Type} (kvs:List (Str×α)) (k:Str) (v:α):List (Str×α):=if (kvs.lookup k).isSome then kvs.map (fun p=>if p.1 = k then (p.1,v) else p) else kvs ++ [(k,v)]
theorem lk_map {α:Type} {k y:Str} {v:α} (l:List (Str×α)):(l.map (fun p=>if p.1 = k then (p.1,v) else p)).lookup y = if y = k then (l.lookup y).map fun U=>v else l.lookup y:=by
 induction l with
 | nil=>exact (ite_self _).symm
 | cons p l ih=>
  rw [Ba,Bk,Bk,ih]
  by_cases hp:p.1 = k
  ·rw [Ab hp,hp]
   by_cases hy:y = k
   ·rw [hy,beq_self_eq_true];exact (Ab rfl).symm
   ·rw [beq_eq_false_iff_ne.mpr hy,Aa hy]
  ·rw [Aa hp]
   by_cases hy:y = p.1
   ·rw [hy,beq_self_eq_true];exact (Aa hp).symm
   ·rw [beq_eq_false_iff_ne.mpr hy]
theorem putK_lookup {α:Type} (kvs:List (Str×α)) (k:Str) (v:α) (y:Str):(oP kvs k v).lookup y = if y = k then some v else kvs.lookup y:=by
 unfold oP
 cases h:kvs.lookup k with
 | some z=>
  refine (lk_map kvs).trans ?_
  by_cases hy:y = k
  ·rw [Ab hy,Ab hy,hy,h];rfl
  ·rw [Aa hy,Aa hy]
 | none=>
  refine (List.lookup_append ..).trans ?_
  by_cases hy:y = k
  ·rw [Ab hy,hy,h,Bk,beq_self_eq_true];rfl
  ·rw [Aa hy,Bk,beq_eq_false_iff_ne.mpr hy]
   exact Option.or_none
theorem vU.put {h D} {k:Str} {x:AV} {v:Value} {kvs:List (Str×AV)} {cv:List (Str×Value)} (r:vU ρ h D kvs cv) (c:xM ρ h D x v):vU ρ h D (oP kvs k x) (oP cv k v):=by
 unfold oP
 have:(cv.lookup k).isSome = (kvs.lookup k).isSome:=by
  cases e:kvs.lookup k with
  | none=>rw [r.lookup.2 e];rfl
  | some y=>obtain ⟨u,hu,U⟩:=r.lookup.1 y e;rw [hu];rfl
 rw [this]
 split
 ·exact r.over c
 ·exact r.snoc c
theorem lookup_keys {α:Type} {kvs:List (Str×α)} {y:Str} (h:kvs.lookup y ≠ none):y∈kvs.map (fun p=>p.1):=by
 induction kvs with
 | nil=>simp at h
 | cons p l ih=>
  obtain ⟨a,b⟩:=p
  rw [Bk] at h
  by_cases q:y = a
  ·subst q;simp
  ·simp only [show (y == a) = false from by simp [q]] at h
   exact Dh _ (ih h)
theorem Obj.same {o o':Obj} (a:o'.cls = o.cls) (b:o'.data = o.data) (c:o'.slots = o.slots) (d:o'.dict = o.dict):o' = o:=by
 cases o;cases o';cases a;cases b;cases c;cases d;rfl
theorem inst_keep {h h':Heap} {a dx:Addr} {ob:Obj} (hob:h.get? a = some ob) (hd:ob.dict = some dx) (hk:∀ b o,b ≠ a→(∀ o₀ d,h.get? a = some o₀→o₀.dict = some d→b ≠ d)→h.get? b = some o→h'.get? b = some o)
  (hs:∀ o₀,h.get? a = some o₀→∃ o₁,h'.get? a = some o₁∧o₁.cls = o₀.cls∧o₁.data = o₀.data∧o₁.slots = o₀.slots∧∀ d,o₀.dict = some d→o₁.dict = some d) (b:Addr) (o:Obj) (hb:b ≠ dx) (e:h.get? b = some o):h'.get? b = some o:=by
 by_cases hba:b = a
 ·subst hba
  cases Option.some.inj (e.symm.trans hob)
  exact (hs _ e).elim fun o1 p=>p.1.trans (congrArg some (Obj.same p.2.1 p.2.2.1 p.2.2.2.1 ((p.2.2.2.2 dx hd).trans hd.symm)))
 ·refine hk b o hba (fun o₀ d h0 hd0 q=>hb (q.trans ?_)) e
  cases Option.some.inj (h0.symm.trans hob)
  exact Option.some.inj (hd0.symm.trans hd)
theorem inst_ns {h:Heap} {x C dx:Addr} {m:Str→Option Value} {ob:Obj} (i:h.Inst x C m) (e:h.get? x = some ob) (hd:ob.dict = some dx):dx ≠ x∧h.Ns1 dx m:=by
 obtain ⟨o,e',U,U,d⟩:=i
 cases Option.some.inj (e.symm.trans e')
 refine d.elim (fun q=>nomatch hd.symm.trans q.1) fun q=>q.elim fun d p=>?_
 cases Option.some.inj (hd.symm.trans p.1)
 exact p.2
theorem Fin.inst {h':Heap} {tk:Nat} {a C dx:Addr} {fs fs':List (Str×AV)} {cs:List (Str×Value)} (g:G ρ P H s) (hO:H a = some (.inst C dx fs)) (hdx:H dx = some (.attrs a)) (hi:mD h' a C dx) (hk:∀ b o,b ≠ dx→s.heap.get? b = some o→h'.get? b = some o)
  (hns:h'.Ns1 dx fun y=>cs.lookup y) (r:zX (Dm H P) s.heap (Dm (upd H a (.inst C dx fs')) P) h'→vU ρ h' (Dm (upd H a (.inst C dx fs')) P) fs' cs) (htk:s.toks ≤ tk):Fin ρ P s H { s with heap:=h',toks:=tk } (upd H a (.inst C dx fs')):=by
 have hda:dx ≠ a:=hi.1
 have ext:pX H s.heap (upd H a (.inst C dx fs')) h':=fun b o e n=>⟨hk b o (zA.ne hdx n) e,(zB (zA.ne hO n)).trans n⟩
 have st:=ext.stays (P:=P)
 refine ⟨ext,fun b o e=>?_,rfl,rfl,htk⟩
 by_cases hba:b = a
 ·subst hba
  cases Option.some.inj (zC.symm.trans e)
  exact ⟨cs,(zB hda).trans hdx,hi,hns,(r st).keys,(r st).vals⟩
 ·replace e:=(zB hba).symm.trans e
  by_cases hbd:b = dx
  ·subst hbd
   cases Option.some.inj (hdx.symm.trans e)
   exact hns.elim fun o p=>p.elim fun es p=>p.elim fun ep p=>⟨o,p.1⟩
  ·refine (g.rep b o e).at st (fun ob=>hk b ob hbd) fun U d hd=>?_
   have hd1:d ≠ dx:=fun q=>by subst q;cases Option.some.inj (hdx.symm.trans hd);exact hba rfl
   exact ⟨(zB fun q=>by subst q;cases Option.some.inj (hO.symm.trans hd)).trans hd,fun o=>hk d o hd1⟩
theorem pR.obj {a C dx:Addr} {fns attrs} {fs:List (Str×AV)} {x:Str} {v:AV} {Q:zA→Prop} (hC:Cls ρ.base C fns attrs) (hO:H a = some (.inst C dx fs)) (hx:x∈attrs) (hz:fs.length ≤ 1000) (q:Q (upd H a (.inst C dx (oP fs x v)))):pR ρ l (.ref a) x v H Q:=.mk fun P s va vv g ca cv A hA=>by
 cases ca
 refine sealG ?_
 intro Gs
 obtain ⟨cs,hdx,hi,hn,hk,cl⟩:=g.rep a _ hO
 have r:vU ρ s.heap (Dm H P) fs cs:=⟨hk,cl⟩
 obtain ⟨nm,qq,N,bs,sn,sub,col,dd,k0,k1,k2,k3,k5,mN,hc,hN,h1,h2,h3,h4,h5⟩:=hC
 have kb:∀ b o,ρ.base.get? b = some o→s.heap.get? b = some o:=fun b o e=>(g.base b o e).1
 have hne:a ≠ C:=fun e=>zA.ne hO (g.base _ _ hc).2.1 e.symm
 refine vB (store_attr (ns:=cs.map (fun p=>p.1)) (d:=s.drawn) F.store_object (kb _ _ hc) (hN.keeps kb) h3 (h4 x hx).1 (h4 x hx).2 hne (hi.inst hn) (fun h' tk' hi' hkeep hsame htk=>?_) (fun y hy=>lookup_keys hy) (by rw [Cp,r.length,Cu];exact zy 2 2 0x11006100000071505623e83150 rfl hz r.length))
 refine sealG ?_
 intro Gs
 obtain ⟨hda,ob,hob,hcls,hdict,hcl⟩:=hi
 have hk':=inst_keep hob hdict hkeep hsame
 have hoa:=hk' a ob (Ne.symm hda) hob
 have hns:=(inst_ns hi' hoa hdict).2
 rw [← show (fun y=>(oP cs x vv).lookup y) = fun y=>if y = x then some vv else cs.lookup y from funext fun y=>putK_lookup cs x vv y] at hns
 exact ⟨_,Fin.inst g hO hdx ⟨hda,ob,hoa,hcls,hdict,hcl⟩ hk' hns (fun st=>(r.put (k:=x) cv).mono st) htk,q⟩
theorem tN.frag (S:SF K ρ.base) {f:Addr} (hk:keepIn K (.ref f) = true):tN ρ (.ref f):=.mk fun P H s vf g c=>by
 cases c
 obtain ⟨k,hk,L⟩:=looks_keep (M:=ρ.M) (h:=s.heap) hk (S.X.keeps fun b o e=>(g.base b o e).1)
 exact ⟨k,hk.elim .inl fun q=>.inr (.inl q),L⟩
theorem sW.call {A:Around} {C:Addr} {rest:List Value} (h:sW l A):sW (l + 1) (A.under (.builtin "type.__call__" ⟨.ref C :: rest,[]⟩)):=by
 refine sealG ?_
 intro Gs
 obtain ⟨h1,h2,h3⟩:=h
 have hw:(Code.builtin "type.__call__" ⟨.ref C :: rest,[]⟩).weight ≤ 10:=by
  have:(Code.builtin "type.__call__" ⟨.ref C :: rest,[]⟩).weight = 1:=by kernel_rfl
  exact zy 1 1 4791264004346194 rfl this
 have hu:(Code.builtin "type.__call__" ⟨.ref C :: rest,[]⟩).cUnits ≤ 100:=by
  have:(Code.builtin "type.__call__" ⟨.ref C :: rest,[]⟩).cUnits = 1:=by kernel_rfl
  exact zy 1 1 76656035485520210 rfl this
 exact ⟨h1,by show A.depth + _ ≤ _;exact zy 3 2 0x111564a1501903127520a11706a15019031250 rfl h2 hw,by show A.units + _ ≤ _;exact zy 3 2 0x11156464250c82127520642170664250c821250 rfl h3 hu⟩
theorem Fin.newInst {h':Heap} {x C dx:Addr} (g:G ρ P H s) (Hx:H x = none) (Hd:H dx = none) (ne:dx ≠ x) (hk:∀ b o,s.heap.get? b = some o→h'.get? b = some o) (hxn:s.heap.get? x = none) (hdn:s.heap.get? dx = none) (hi:mD h' x C dx) (hns:h'.Ns1 dx fun U=>none) :
  Fin ρ P s H { s with heap:=h' } (upd (upd H x (.inst C dx [])) dx (.attrs x)):=by
 have up:∀ {b},b ≠ x→b ≠ dx→upd (upd H x (.inst C dx [])) dx (.attrs x) b = H b:=fun h1 h2=>(zB h2).trans (zB h1)
 have ext:pX H s.heap (upd (upd H x (.inst C dx [])) dx (.attrs x)) h':=fun b o e n=>⟨hk b o e,(up (wX e hxn) (wX e hdn)).trans n⟩
 refine ⟨ext,fun b o e=>?_,rfl,rfl,Ag _⟩
 by_cases hb2:b = dx
 ·subst hb2
  cases Option.some.inj (zC.symm.trans e)
  exact hns.elim fun o p=>p.elim fun es p=>p.elim fun ep p=>⟨o,p.1⟩
 ·by_cases hb1:b = x
  ·subst hb1
   cases Option.some.inj (((zB hb2).trans zC).symm.trans e)
   exact ⟨[],zC,hi,hns,rfl,rfl⟩
  ·exact (g.rep b o ((up hb1 hb2).symm.trans e)).at ext.stays (hk b) fun U d hd=>⟨(up (Ne.symm (zA.ne hd Hx)) (Ne.symm (zA.ne hd Hd))).trans hd,hk d⟩
theorem zE.new {C f:Addr} {fns attrs} {args:List AV} (hC:Cls ρ.base C fns attrs) (hf:((Str.ofString "__init__",f):Str×Addr)∈fns)
  (h:∀ x dx,H x = none→H dx = none→x ≠ dx→zE ρ (l + 1) (.ref f) (.ref x :: args) (upd (upd H x (.inst C dx [])) dx (.attrs x)) fun r H'=>r = .none∧Q (.ref x) H'):zE ρ l (.ref C) args H Q:=.mk fun P s vf us g cf cl A hA=>by
 cases cf
 refine sealG ?_
 intro Gs
 obtain ⟨nm,qq,N,bs,sn,sub,col,dd,k0,k1,k2,k3,k5,mN,hc,hN,h1,h2,h3,h4,h5⟩:=hC
 have kb:∀ b o,ρ.base.get? b = some o→s.heap.get? b = some o:=fun b o e=>(g.base b o e).1
 obtain ⟨hfi,⟨o,ho,hoc⟩,U⟩:=h5 _ hf
 refine wpAny_call_obj_init (d:=s.drawn) F.objNew (kb _ _ hc) (hN.keeps kb) hfi (kb _ _ ho) hoc fun h' x dx hm=>?_
 refine sealG ?_
 intro Gs
 obtain ⟨hk,hxn,hdn,hi,hdict,U⟩:=hm
 have Hx:=g.rep.new hxn
 have Hd:=g.rep.new hdn
 obtain ⟨ob,hob,hcls,hcl,U⟩:=id hi
 have z:=inst_ns hi hob (hdict ob hob)
 have f1:=Fin.newInst g Hx Hd z.1 hk hxn hdn ⟨z.1,ob,hob,hcls,hdict ob hob,hcl⟩ z.2
 refine ((h x dx Hx Hd (Ne.symm z.1)).out P { s with heap:=h' } (.ref f) (.ref x :: us) (g.fin f1) rfl ⟨_,_,rfl,rfl,cl.mono f1.ext.stays⟩).run hA.call fun r s2 H2 f2 p=>?_
 obtain ⟨av,c,e,q⟩:=p
 subst e
 cases c
 exact ⟨rfl,H2,f1.trans f2,.ref x,rfl,q⟩
end
end
section
section
variable {l:Nat} {env:Env} {H H':zA} {m:zN} {P:Addr→Prop} {s:Shared}
noncomputable def sP (H H':zA):Prop:=∀ b,H' b = H b∨H' b = none
theorem sP.none {b} (h:sP H H') (e:H b = none):H' b = none:=(h b).elim (fun q=>q.trans e) id
theorem sP.stays (h:sP H H') {hp:Heap}:zX (Dm H P) hp (Dm H' P) hp:=fun a o e n=>⟨e,fun q=>q.elim (fun q=>n (.inl fun z=>q (h.none z))) fun q=>n (.inr q)⟩
theorem sP.ext (h:sP H H') {hp:Heap}:pX H hp H' hp:=fun b o e n=>⟨e,h.none n⟩
noncomputable def Whole (H H':zA):Prop:=∀ b C dx fs,H' b = some (.inst C dx fs)→H dx = some (.attrs b)→H' dx = some (.attrs b)
theorem sP.rep (h:sP H H') (hw:Whole H H') {hp:Heap} (R:vG ρ hp H P):vG ρ hp H' P:=fun b o e=>by
 have e0:H b = some o:=by rcases h b with q | q;(exact q ▸ e);(rw [q] at e;cases e)
 have c:=R b o e0
 cases o with
 | list xs=>obtain ⟨vs,n,ho,cl⟩:=c;exact ⟨vs,n,ho,cl.mono h.stays⟩
 | idict kvs=>obtain ⟨cv,a1,a2,k,cl⟩:=c;exact ⟨cv,a1,a2,k,cl.mono h.stays⟩
 | sdict kvs=>obtain ⟨cv,a1,a2,k,cl⟩:=c;exact ⟨cv,a1,a2,k,cl.mono h.stays⟩
 | iset S n=>exact c
 | uset S n=>exact c
 | inst C dx fs=>obtain ⟨cv,a1,a2,a3,k,cl⟩:=c;exact ⟨cv,hw b C dx fs e a1,a2,a3,k,cl.mono h.stays⟩
 | attrs x=>exact c
theorem G.less (g:G ρ P H s) (h:sP H H') (hw:Whole H H'):G ρ P H' s:=
 ⟨fun b o e=>let ⟨x,n,p⟩:=g.base b o e;⟨x,h.none n,p⟩,h.rep hw g.rep,fun a p=>let ⟨n,o⟩:=g.pin a p;⟨h.none n,o⟩,g.tk⟩
theorem uG {a:Addr}:sP H (del H a):=fun b=>by unfold del;split;(exact .inr rfl);(exact .inl rfl)
theorem pA {a:Addr} (hat:∀ x,H a ≠ some (.attrs x)):Whole H (del H a):=fun b C dx fs e1 e2=>by
 have:dx ≠ a:=fun q=>hat b (q ▸ e2)
 rw [zR this];exact e2
noncomputable def wH (ρ:Bs) (av:AV) (H:zA) (av':AV) (H':zA):Prop:=
 sP H H'∧Whole H H'∧∀ P s v,G ρ P H s→xM ρ s.heap (Dm H P) av v→xM ρ s.heap (Dm H' P) av' v
noncomputable def wU (ρ:Bs) (av:List AV) (H:zA) (av':List AV) (H':zA):Prop:=
 sP H H'∧Whole H H'∧∀ P s v,G ρ P H s→zU ρ s.heap (Dm H P) av v→zU ρ s.heap (Dm H' P) av' v
theorem wH.refl {av}:wH ρ av H av H:=⟨fun U=>.inl rfl,fun U U U U U e=>e,fun U U U U c=>c⟩
theorem nD_del {a:Addr} (g:G ρ P H s) (hH:H a ≠ none):¬ Dm (del H a) P a:=fun q=>q.elim (fun q=>q xB) fun q=>hH (g.pin a q).1
theorem wH.list {a xs} (h:H a = some (.list xs)):wH ρ (.ref a) H (.lst xs) (del H a):=by
 refine ⟨uG,pA (by rw [h];intro x q;cases q),fun P s v g c=>?_⟩
 cases c
 obtain ⟨vs,n,ho,cl⟩:=g.rep a _ h
 exact ⟨a,vs,n,rfl,nD_del g (by rw [h];simp),ho,cl.mono uG.stays⟩
theorem wH.idict {a kvs} (h:H a = some (.idict kvs)):wH ρ (.ref a) H (.idct (kvs.map (fun p=>p.1)) (kvs.map (fun p=>p.2))) (del H a):=by
 refine ⟨uG,pA (by rw [h];intro x q;cases q),fun P s v g c=>?_⟩
 cases c
 obtain ⟨cv,hs,ho,hk,cl⟩:=g.rep a _ h
 exact ⟨a,cv,rfl,nD_del g (by rw [h];simp),hs,ho,hk,cl.mono uG.stays⟩
theorem wH.iset {a S n} (h:H a = some (.iset S n)):wH ρ (.ref a) H (.iset S n) (del H a):=by
 refine ⟨uG,pA (by rw [h];intro x q;cases q),fun P s v g c=>?_⟩
 cases c
 exact ⟨a,rfl,nD_del g (by rw [h];simp),g.rep a _ h⟩
theorem wH.inst {a C dx fs} (h:H a = some (.inst C dx fs)) (h':H dx = some (.attrs a)):wH ρ (.ref a) H (.obj C (fs.map (fun p=>p.1)) (fs.map (fun p=>p.2))) (del (del H a) dx):=by
 have hl:sP H (del (del H a) dx):=fun b=>by
  rcases uG (H:=del H a) (a:=dx) b with q | q
  ·rw [q];exact uG b
  ·exact .inr q
 refine ⟨hl,fun b C' d fs' e1 e2=>?_,fun P s v g c=>?_⟩
 ·have hb:b ≠ dx:=fun q=>by subst q;rw [xB] at e1;cases e1
  rw [zR hb] at e1
  have hba:b ≠ a:=fun q=>by subst q;rw [xB] at e1;cases e1
  have h1:d ≠ a:=fun q=>by rw [q,h] at e2;cases e2
  by_cases h2:d = dx
  ·subst h2;rw [h'] at e2;cases e2;exact absurd rfl hba
  ·rw [zR h2,zR h1];exact e2
 ·cases c
  obtain ⟨cv,hd,hi,hn,hk,cl⟩:=g.rep a _ h
  have nP:∀ b o,H b = some o→¬ P b:=fun b o e q=>by rw [(g.pin b q).1] at e;cases e
  have hda:=hi.1
  refine ⟨a,dx,cv,rfl,fun q=>q.elim (fun q=>q ?_) (nP a _ h),fun q=>q.elim (fun q=>q xB) (nP dx _ hd),hi,hn,hk,cl.mono hl.stays⟩
  rw [zR (Ne.symm hda),xB]
theorem wU.nil:wU ρ [] H [] H:=⟨fun U=>.inl rfl,fun U U U U U e=>e,fun U U U U c=>c⟩
theorem sP.trans {H1 H2:zA} (a:sP H H1) (b:sP H1 H2):sP H H2:=fun x=>by
 rcases b x with q | q
 ·rw [q];exact a x
 ·exact .inr q
theorem wU.cons {av av':AV} {avs avs':List AV} {H1 H2:zA} (a:wH ρ av H av' H1) (b:wU ρ avs H1 avs' H2):wU ρ (av :: avs) H (av' :: avs') H2:=by
 refine ⟨a.1.trans b.1,fun x C dx fs e1 e2=>?_,fun P s v g p1=>p1.rec fun u us e c cl=>?_⟩
 ·have:H1 x = some (.inst C dx fs):=by rcases b.1 x with q | q;(exact q ▸ e1);(rw [q] at e1;cases e1)
  exact b.2.1 x C dx fs e1 (a.2.1 x C dx fs this e2)
 ·subst e
  have g1:=g.less a.1 a.2.1
  have c1:=a.2.2 P s u g c
  have cl1:=b.2.2 P s us g1 (cl.mono a.1.stays)
  exact ⟨u,us,rfl,c1.mono b.1.stays,cl1⟩
theorem wH.lsts {xs xs':List AV} (h:wU ρ xs H xs' H'):wH ρ (.lst xs) H (.lst xs') H':=by
 refine ⟨h.1,h.2.1,fun P s v g ⟨a,vs,n,e,nd,ho,cl⟩=>⟨a,vs,n,e,fun q=>nd (q.elim (fun q=>.inl fun z=>q (h.1.none z)) .inr),ho,h.2.2 P s vs g cl⟩⟩
theorem zG.take {x:Str} {av av':AV} (F:zG ρ env P H s.heap m) (g:G ρ P H s) (hx:m x = some av) (f:wH ρ av H av' H'):zG ρ env P H' s.heap (wA m x av'):=by
 have F1:=F.ext (f.1.ext (hp:=s.heap))
 have key:∀ {y u},wA m x av' y = some u→∃ w,m y = some w∧∀ v,xM ρ s.heap (Dm H P) w v→xM ρ s.heap (Dm H' P) u v:=fun {y u} e=>by
  by_cases q:y = x
  ·subst q
   cases Option.some.inj ((Ab rfl).symm.trans e)
   exact ⟨av,hx,fun v=>f.2.2 P s v g⟩
  ·exact ⟨u,(Aa q).symm.trans e,fun v c=>c.mono f.1.stays⟩
 exact ⟨F.fn,F.gl,F.bi,F.ns.elim fun mc p=>⟨mc,p.1,fun y u e k=>(key e).elim fun w z=>(p.2 y w z.1 k).elim fun v c=>⟨v,c.1,z.2 v c.2⟩⟩,fun y u e k=>(key e).elim fun w z=>(F.cl y w z.1 k).elim fun c p=>p.elim fun v p=>⟨c,v,p.1,p.2.1,z.2 v p.2.2⟩,F1.own,F1.ownC,F.apart⟩
theorem ST.take {ss:List Stmt} {x:Str} {av av':AV} {Q:AF→zA→zN→Prop} (hx:m x = some av) (f:wH ρ av H av' H') (h:ST ρ l env ss H' (wA m x av') Q):ST ρ l env ss H m Q:=.mk fun P s g F A hA=>
 (h.out P s (g.less f.1 f.2.1) (F.take g hx f)).run hA fun fl s' H2 m2 f2 F2 q=>⟨H2,m2,⟨fun a o e n no=>f2.keep a o e (f.1.none n) no,f2.rep,f2.gens,f2.os,f2.tk⟩,F2,q⟩
theorem EX.take {e:Expr} {Q:AV→zA→Prop} (h:EX ρ l env e H m fun av H1=>∃ av' H2,wH ρ av H1 av' H2∧Q av' H2):EX ρ l env e H m Q:=.mk fun P s g F A hA=>
 (h.out P s g F).run hA fun v s1 H1 f1 p1=>p1.rec fun av c p2=>p2.elim fun av' p3=>p3.elim fun H2 p4=>p4.elim fun f q=>⟨H2,⟨fun b o e n=>let z:=f1.ext b o e n;⟨z.1,f.1.none z.2⟩,f.1.rep f.2.1 f1.rep,f1.gens,f1.os,f1.tk⟩,av',f.2.2 P s1 v (g.fin f1) c,q⟩
theorem sM {x y:Str} {px py tp pos:Pos} {k:Nat} {e:Expr} {Q:AF→zA→zN→Prop} (h:EX ρ l env e H m fun av H'=>∃ a b,av = .tup [a,b]∧Q .nxt H' (wA (wA m y b) x a)) (hx:SK env x) (hy:SK env y)
  (h1:autoParam (swapsWithSole [.Tuple [.Name x px,.Name y py] k tp] e pos.line env = pure false) rt) (h2:autoParam (swappedStores [.Tuple [.Name x px,.Name y py] k tp] e env = pure (some [x,y])) rt):S1 ρ l env (.Assign [.Tuple [.Name x px,.Name y py] k tp] e pos) H m Q:=.mk fun P s g F A hA=>by
 refine Assign_Tuple_swapped (names:=[x,y]) ((h.out P s g F).run hA fun v s1 H1 f1 p1=>p1.rec fun av c p2=>p2.elim fun a p3=>p3.elim fun b p4=>p4.elim fun ea q=>?_) h1 h2
 subst ea
 refine sealG ?_
 intro Gs
 obtain ⟨t,cvs,n,rfl,nd,ho,va,U,rfl,ca,vb,U,rfl,cb,rfl⟩:=c
 have g1:=g.fin f1
 have F1:=F.ext f1.ext
 refine wpAny_unpackItems_tuple (items:=#[va,vb]) hA.1 ⟨_,ho,rfl,n,rfl⟩ fun h' hx'=>?_
 have f2:Fin ρ P s1 H1 { s1 with heap:=h' } H1:=vR g1 (fun b o e=>hx' b o (Bb (Aq e)) e) (Ag _)
 have g2:=g1.fin f2
 have F2:=F1.ext f2.ext
 have bn:∀ {s2:Shared} {H2:zA} {m2:zN} {z:Str} {av:AV} {v:Value} {R:Unit→Shared→Prop},G ρ P H2 s2→zG ρ env P H2 s2.heap m2→xM ρ s2.heap (Dm H2 P) av v→SK env z →
   (∀ s3,sB ρ env P s2 H2 s3 H2→zG ρ env P H2 s3.heap (wA m2 z av)→R () s3)→wpAny ρ.M A (bindName env z v) R (fun U U=>False) s2:=fun g F c hk hR=>by
  unfold bindName
  refine Ak (Am (wpAny_point ?_))
  refine Ak ((STN g F c hk).run hA fun U s3 H3 m3 f3 F3 p1=>p1.rec fun e1 e2=>?_)
  subst e1;subst e2
  exact wpAny_point (hR s3 f3 F3)
 refine wpAny_assignInOrder_more (bn g2 F2 (cb.mono f2.ext.stays) hy fun s3 f3 F3=>?_)
 refine wpAny_assignInOrder_more (bn (g2.finS F2 f3 F3) F3 ((ca.mono f2.ext.stays).mono (f3.stays F2)) hx fun s4 f4 F4=>?_)
 exact Aj ⟨H1,_,(f1.trans f2).toS.trans (f3.trans f4),F4,.nxt,rfl,q⟩
structure PRS (ρ:Bs) (l:Nat) (env:Env) (p:Pos) (ks:List (Option Expr)) (vs:List Expr) (H:zA) (m:zN) (Q:List (AV×AV)→zA→Prop):Prop where
 mk ::
 out:∀ P s,G ρ P H s→zG ρ env P H s.heap m→WP ρ l P H s (evalPairs (pairTrees ks vs env p)) fun kvs s' H'=>∃ xs:List (AV×AV),zU ρ s'.heap (Dm H' P) (xs.map (fun p=>p.1)) (kvs.map (fun p=>p.1))∧zU ρ s'.heap (Dm H' P) (xs.map (fun p=>p.2)) (kvs.map (fun p=>p.2))∧Q xs H'
theorem PRS.nil {p:Pos} {Q:List (AV×AV)→zA→Prop} (q:Q [] H):PRS ρ l env p [] [] H m Q:=.mk fun P s g F A hA=>Aj ⟨H,.refl g.rep,[],rfl,rfl,q⟩
theorem PRS.cons {p:Pos} {k v:Expr} {ks:List (Option Expr)} {vs:List Expr} {Q:List (AV×AV)→zA→Prop} (h:EX ρ l env k H m fun a H1=>EX ρ l env v H1 m fun b H2=>PRS ρ l env p ks vs H2 m fun xs H3=>Q ((a,b) :: xs) H3):PRS ρ l env p (some k :: ks) (v :: vs) H m Q:=.mk fun P s g F A hA=>by
 show wpAny _ _ (evalPairs ((eval k env,do let x ← eval v env;standAt p;pure x) :: pairTrees ks vs env p)) _ _ _
 unfold evalPairs
 refine Ak ((h.out P s g F).run hA fun kv s1 H1 f1 p1=>p1.rec fun a ca q1=>?_)
 have g1:=g.fin f1
 have F1:=F.ext f1.ext
 refine Ak (Am (Ak ((q1.out P s1 g1 F1).run hA fun vv s2 H2 f2 p1=>p1.rec fun b cb q2=>Ak (Al (Aj ?_)))))
 have g2:=g1.fin f2
 refine Ak (Am ((q2.out P s2 g2 (F1.ext f2.ext)).run hA fun kvs s3 H3 f3 p1=>p1.elim fun xs p2=>p2.elim fun c1 p3=>p3.elim fun c2 q3=>Aj ?_))
 exact ⟨H3,(f1.trans f2).trans f3,(a,b) :: xs,⟨kv,_,rfl,(ca.mono f2.ext.stays).mono f3.ext.stays,c1⟩,⟨vv,_,rfl,cb.mono f3.ext.stays,c2⟩,q3⟩
theorem stored_new' {κ:Type} [DecidableEq κ] {cv:List (κ×Value)} {k:κ} {v:Value} (h:k ∉ cv.map (fun p=>p.1)):stored cv k v = cv ++ [(k,v)]:=by
 unfold stored
 rw [Aa]
 intro q
 simp only [Bp,Bq] at q
 obtain ⟨p,hp,e⟩:=q
 exact h (Bm.mpr ⟨p,hp,e⟩)
theorem store_all {κ:Type} [DecidableEq κ] {knd:PySem.KeyKind ρ.prog ρ.w κ} {A:Around} {E:Value→Shared→Prop} {D:Addr} {mk:κ→AV} {hp:Heap} {Dd:Addr→Prop} (hmk:∀ k v,xM ρ hp Dd (mk k) v→knd.is k v = true) (kv:List (κ×AV)):∀ (kvs:List (Value×Value)) (done:List (κ×Value)) (s:Shared) (Q:PUnit→Shared→Prop),zU ρ hp Dd (kv.map fun p=>mk p.1) (kvs.map (fun p=>p.1)) →
  (done.map (fun p=>p.1) ++ kv.map (fun p=>p.1)).Nodup→s.heap.DictOf knd D done→done.length + kv.length ≤ 1000→(∀ h' tk,s.toks ≤ tk→Heap.SameBut D s.heap h'→h'.DictOf knd D (done ++ kv.zipWith (fun p v=>(p.1,v.2)) kvs)→Q PUnit.unit { s with heap:=h',toks:=tk })→wpAny ρ.M A (storeAll D kvs) Q E s:=by
 induction kv with
 | nil=>
  intro kvs done s Q c U hd U k
  cases kvs with
  | cons p r=>exact nomatch (show _ :: _ = [] from c)
  | nil=>
   unfold storeAll
   rw [List.forIn_nil]
   exact Aj (k s.heap s.toks (Ag _) (Heap.SameBut.refl ..) ((List.append_nil _).symm ▸ hd))
 | cons y kv ih=>
  intro kvs done s Q c hn hd hz k
  obtain ⟨v,vs,e,c,r⟩:=c
  cases kvs with
  | nil=>exact nomatch e
  | cons p kvs=>
   obtain ⟨rfl,rfl⟩:=List.cons.inj e
   have hni:y.1 ∉ done.map (fun p=>p.1):=fun hm=>(Di.mp hn).2.2 y.1 hm y.1 (.head _) rfl
   unfold storeAll
   rw [Cw]
   have hz':(done ++ [(y.1,p.2)]).length + kv.length ≤ 1000:=by rw [Ct,Nat.add_assoc,Nat.add_comm [(y.1,p.2)].length];exact hz
   refine Ak (Ak (wpAny_dictSet_pairs (hmk _ _ c) hd (fun h' hd' hs=>Aj ?_) (by rw [Cu];exact Ah (Nat.le_add_right _ (kv.length + 1)) (Ah hz (by decide)))))
   rw [stored_new' hni] at hd'
   refine ih kvs (done ++ [(y.1,p.2)]) _ Q r (by rw [Bt,Cv];exact hn) hd' hz' fun h2 tk htk hs2 hd2=>?_
   rw [Cv] at hd2
   exact k h2 tk (Ah (Nat.le_succ _) htk) (hs.trans hs2) hd2
theorem zip_rel {κ:Type} {h:Heap} {D:Addr→Prop} (kv:List (κ×AV)):∀ (kvs:List (Value×Value)),zU ρ h D (kv.map (fun p=>p.2)) (kvs.map (fun p=>p.2))→vU ρ h D kv (kv.zipWith (fun p v=>(p.1,v.2)) kvs):=by
 induction kv with
 | nil=>exact fun kvs U=>⟨rfl,rfl⟩
 | cons y kv ih=>
  intro kvs c
  obtain ⟨v,vs,e,c,r⟩:=c
  cases kvs with
  | nil=>exact nomatch e
  | cons p kvs=>
   obtain ⟨rfl,rfl⟩:=List.cons.inj e
   exact .cons c (ih kvs r)
theorem vG.born {P P':Addr→Prop} {h h':Heap} {D:Addr} {ao:AO} (r:vG ρ h H P') (n:H D = none) (hk:∀ b o,b ≠ D→h.get? b = some o→h'.get? b = some o) (st:zX (Dm H P') h (Dm (upd H D ao) P) h') (c:ConO ρ h' (upd H D ao) P D ao):vG ρ h' (upd H D ao) P:=fun b o e=>by
 by_cases hb:b = D
 ·subst hb
  cases Option.some.inj (zC.symm.trans e)
  exact c
 ·exact (r b o ((zB hb).symm.trans e)).at st (fun ob=>hk b ob hb) fun U d hd=>
   have hdD:=Ne.symm (zA.ne hd n)
   ⟨(zB hdD).trans hd,fun o=>hk d o hdD⟩
inductive DctP {κ:Type} (mk:κ→AV) (ao:List (κ×AV)→AO) (Q:AV→zA→Prop) (xs:List (AV×AV)) (H:zA):Prop
 | mk:∀ kvs:List (κ×AV),xs = kvs.map (fun p=>(mk p.1,p.2))→(kvs.map (fun p=>p.1)).Nodup→kvs.length ≤ 1000→(∀ a,H a = none→Q (.ref a) (upd H a (ao kvs)))→DctP mk ao Q xs H
theorem dct_run {env:Env} {ks:List (Option Expr)} {vs:List Expr} {pos:Pos} {κ:Type} [DecidableEq κ] {knd:PySem.KeyKind ρ.prog ρ.w κ} (mk:κ→AV) (hmk:∀ h D k v,xM ρ h D (mk k) v→knd.is k v = true) {Q:AV→zA→Prop} (ao:List (κ×AV)→AO)
  (hao:∀ h (H:zA) P a kvs (cv:List (κ×Value)),(a == sysModules) = false→h.DictOf knd a cv→vU ρ h (Dm H P) kvs cv→ConO ρ h H P a (ao kvs))
  (S:SF K ρ.base) (hall:ks.all (fun p=>p.isSome) = true) (hl:ks.length = vs.length) (h0:ks ≠ []) (hlen:ks.length ≤ 15)
  (h:PRS ρ l env pos ks vs H m (DctP mk ao Q)):EX ρ l env (.Dict ks vs pos) H m Q:=.mk fun P s g F A hA=>by
 refine wpAny_Dict_any hall hl h0 hlen ?_
 have hDn:s.heap.get? s.heap.objs.size = none:=(zW g).1
 have hDs:=pJ S g
 have hk1:∀ b o,s.heap.get? b = some o→(s.heap.push { cls:=.type "dict",data:=.dict #[] }).get? b = some o:=fun b o e=>As _ e
 have hD1:∃ o,(s.heap.push { cls:=.type "dict",data:=.dict #[] }).get? s.heap.objs.size = some o:=⟨_,Au _ rfl⟩
 have hd0:=Heap.DictOf.new (knd:=knd) s.heap
 generalize s.heap.push { cls:=.type "dict",data:=.dict #[] } = h1 at hk1 hD1 hd0 ⊢
 generalize s.heap.objs.size = D at hDn hDs hD1 hd0 ⊢
 have g1:G ρ (fun b=>P b∨b = D) H { s with heap:=h1 }:=g.more (wr:=[D]) (fun b=>or_congr_right Bf.symm) hk1 fun b hb=>Bf.mp hb ▸ ⟨hDn,hD1⟩
 have F1:zG ρ env (fun b=>P b∨b = D) H h1 m:=F.move (fun b o e n=>⟨hk1 b o e,fun q=>q.elim (fun q=>n (.inl q)) fun q=>q.elim (fun q=>n (.inr q)) (wX e hDn)⟩) fun a ua o e=>⟨hk1 a o e,(F.useP ua).2.1,.inl (F.useP ua).1⟩
 refine (h.out _ _ g1 F1).run hA fun kvs s2 H2 f2 p=>?_
 refine sealG ?_
 intro Gs
 obtain ⟨xs,ck,cv,kv,rfl,hnd,hz,q⟩:=p
 rw [Bj] at ck cv
 have g2:=g1.fin f2
 have n2:=(g2.pin D (.inr rfl)).1
 have hd2:s2.heap.DictOf knd D []:=hd0.elim fun o p=>p.elim fun es p=>p.elim fun ep p=>⟨o,es,ep,(f2.ext D o p.1 (g1.pin D (.inr rfl)).1).1,p.2⟩
 refine vB (store_all (hmk _ _) kv kvs [] s2 _ ck hnd hd2 ((Nat.zero_add _).symm ▸ hz) fun h3 tk htk hs hd3 U=>?_)
 have hsk:∀ b o,b ≠ D→s2.heap.get? b = some o→h3.get? b = some o:=fun b o hb e=>(hs.2 b hb).trans e
 have st3:zX (Dm H2 fun b=>P b∨b = D) s2.heap (Dm (upd H2 D (ao kv)) P) h3:=fun b o e n=>by
  have hb:b ≠ D:=fun q=>n (.inr (.inr q))
  exact ⟨hsk b o hb e,fun q=>q.elim (fun q=>n (.inl fun e=>q ((zB hb).trans e))) fun q=>n (.inr (.inl q))⟩
 refine ⟨upd H2 D (ao kv),⟨fun b o e n=>?_,f2.rep.born n2 hsk st3 (hao _ _ _ _ _ _ hDs hd3 ((zip_rel kv kvs cv).mono st3)),f2.gens,f2.os,Ah f2.tk htk⟩,.ref D,rfl,q D n2⟩
 have hb:=wX e hDn
 have z:=f2.ext b o (hk1 b o e) n
 exact ⟨hsk b o hb z.1,(zB hb).trans z.2⟩
theorem EX.sdct {env:Env} {ks:List (Option Expr)} {vs:List Expr} {pos:Pos} {Q:AV→zA→Prop} (S:SF K ρ.base) (h:PRS ρ l env pos ks vs H m (DctP .str .sdict Q))
  (hall:autoParam (ks.all (fun p=>p.isSome) = true) rt) (hl:autoParam (ks.length = vs.length) rt) (h0:ks ≠ []:=by nofun) (hlen:ks.length ≤ 15:=by decide):EX ρ l env (.Dict ks vs pos) H m Q:=
 dct_run (knd:=ρ.sK) .str (fun h D k v p1=>p1.rec fun t e=>e ▸ strKind_is ρ.prog ρ.w k t) .sdict (fun h H P a kvs cv e hd r=>⟨cv,e,hd,r.keys,r.vals⟩) S hall hl h0 hlen h
theorem EX.idct {env:Env} {ks:List (Option Expr)} {vs:List Expr} {pos:Pos} {Q:AV→zA→Prop} (S:SF K ρ.base) (h:PRS ρ l env pos ks vs H m (DctP .int .idict Q))
  (hall:autoParam (ks.all (fun p=>p.isSome) = true) rt) (hl:autoParam (ks.length = vs.length) rt) (h0:ks ≠ []:=by nofun) (hlen:ks.length ≤ 15:=by decide):EX ρ l env (.Dict ks vs pos) H m Q:=
 dct_run (knd:=ρ.iK) .int (fun h D k v p1=>p1.rec fun t e=>e ▸ Br ρ.prog ρ.w k t) .idict (fun h H P a kvs cv e hd r=>⟨cv,e,hd,r.keys,r.vals⟩) S hall hl h0 hlen h
end
end
section
noncomputable abbrev kP (l:Nat) (env:Env) (f:AV) (e:Expr) (m:zN) (Q:AV→zA→Prop):AV→zA→Prop:=fun ov H=>(∃ ys,yJ H ov ys)∧EX ρ l env e H m (kF1 l f ov Q)
noncomputable abbrev kQ (l:Nat) (env:Env) (f:AV) (e2:Expr) (ov:AV) (m:zN) (Q:AV→zA→Prop):AV→zA→Prop:=fun v H=>EX ρ l env e2 H m (kF2 l f ov v Q)
noncomputable abbrev kW (l:Nat) (env:Env) (ss:List Stmt) (x:Str) (m:zN) (Q:AF→zA→zN→Prop):AV→zA→Prop:=fun av H=>ST ρ l env ss H (wA m x av) Q
noncomputable abbrev kY (l:Nat) (env:Env) (ss:List Stmt) (m:zN) (Q:AF→zA→zN→Prop):AV→zA→Prop:=fun U H=>ST ρ l env ss H m Q
section
variable {l:Nat} {env:Env} {H:zA} {m:zN} {Q:AV→zA→Prop}
theorem qT {o:Expr} {x:Str} {id:String} {apos pos:Pos} {es:List Expr} (slot:Slot "list" x id) (ty:typeOf (.builtin id) = pure (.type "method_descriptor"))
  (h:EX ρ l env o H m fun ov H1=>(∃ ys,yJ H1 ov ys)∧yO ρ l env pos es H1 m fun vs H2=>zE ρ l (.con (.builtin id)) (ov :: vs) H2 Q)
  (he:es.all (fun e=>!isStarred e) = true) (hn:es.length < 30) (hb:attributeBase o x env (eval o env) = eval o env) (hp:(apos.endLine == pos.line) = true):EX ρ l env (.Call (.Attribute o x apos) es [] pos) H m Q:=
 oZ (h.mono fun ov H1 p1=>p1.rec fun p2 q=>p2.elim fun ys hL=>pU.list hL slot ty ⟨tN.builtin,q⟩) he hn hb hp
theorem mF {o:Expr} {x:Str} {id:String} {apos pos:Pos} {es:List Expr} (slot:Slot "dict" x id) (ty:typeOf (.builtin id) = pure (.type "method_descriptor"))
  (h:EX ρ l env o H m fun ov H1=>(∃ kvs,uZ H1 ov kvs)∧yO ρ l env pos es H1 m fun vs H2=>zE ρ l (.con (.builtin id)) (ov :: vs) H2 Q)
  (he:es.all (fun e=>!isStarred e) = true) (hn:es.length < 30) (hb:attributeBase o x env (eval o env) = eval o env) (hp:(apos.endLine == pos.line) = true):EX ρ l env (.Call (.Attribute o x apos) es [] pos) H m Q:=
 oZ (h.mono fun ov H1 p1=>p1.rec fun p2 q=>p2.elim fun ys hL=>pU.idict hL slot ty ⟨tN.builtin,q⟩) he hn hb hp
section
variable {o e e2:Expr} {apos pos:Pos}
theorem EX.append (h:EX ρ l env o H m (kP l env (.con (.builtin "list.append")) e m Q))
  (hst:autoParam (isStarred e = false) rt) (hst2:autoParam (starEach [e] env = (false,eval e env) :: starEach [] env) rt) (hb:autoParam (attributeBase o "append" env (eval o env) = eval o env) rt) (hp:autoParam ((apos.endLine == pos.line) = true) rt):EX ρ l env (.Call (.Attribute o "append" apos) [e] [] pos) H m Q:=
 qT F.slot_list_append F.type_list_append (h.mono fun ov H1 p1=>p1.rec fun a q=>⟨a,yO.cons (q.mono fun v H2 q=>yO.nil q) hst2⟩) (by simp [hst]) (by simp) hb hp
theorem EX.extend (h:EX ρ l env o H m (kP l env (.con (.builtin "list.extend")) e m Q))
  (hst:autoParam (isStarred e = false) rt) (hst2:autoParam (starEach [e] env = (false,eval e env) :: starEach [] env) rt) (hb:autoParam (attributeBase o "extend" env (eval o env) = eval o env) rt) (hp:autoParam ((apos.endLine == pos.line) = true) rt):EX ρ l env (.Call (.Attribute o "extend" apos) [e] [] pos) H m Q:=
 qT F.slot_list_extend F.type_list_extend (h.mono fun ov H1 p1=>p1.rec fun a q=>⟨a,yO.cons (q.mono fun v H2 q=>yO.nil q) hst2⟩) (by simp [hst]) (by simp) hb hp
theorem EX.index (h:EX ρ l env o H m (kP l env (.con (.builtin "list.index")) e m Q))
  (hst:autoParam (isStarred e = false) rt) (hst2:autoParam (starEach [e] env = (false,eval e env) :: starEach [] env) rt) (hb:autoParam (attributeBase o "index" env (eval o env) = eval o env) rt) (hp:autoParam ((apos.endLine == pos.line) = true) rt):EX ρ l env (.Call (.Attribute o "index" apos) [e] [] pos) H m Q:=
 qT F.slot_list_index F.type_list_index (h.mono fun ov H1 p1=>p1.rec fun a q=>⟨a,yO.cons (q.mono fun v H2 q=>yO.nil q) hst2⟩) (by simp [hst]) (by simp) hb hp
theorem EX.pop0 (h:EX ρ l env o H m fun ov H1=>(∃ ys,yJ H1 ov ys)∧zE ρ l (.con (.builtin "list.pop")) [ov] H1 Q)
  (hb:autoParam (attributeBase o "pop" env (eval o env) = eval o env) rt) (hp:autoParam ((apos.endLine == pos.line) = true) rt):EX ρ l env (.Call (.Attribute o "pop" apos) [] [] pos) H m Q:=
 qT F.slot_list_pop F.type_list_pop (h.mono fun ov H1 p1=>p1.rec fun a q=>⟨a,yO.nil q⟩) rfl (by simp) hb hp
theorem qU (h:EX ρ l env o H m fun ov H1=>(∃ ys,uZ H1 ov ys)∧EX ρ l env e H1 m (kQ l env (.con (.builtin "dict.get")) e2 ov m Q))
  (hst:autoParam (isStarred e = false) rt) (hst':autoParam (isStarred e2 = false) rt) (hst2:autoParam (starEach [e,e2] env = (false,eval e env) :: starEach [e2] env) rt) (hst3:autoParam (starEach [e2] env = (false,eval e2 env) :: starEach [] env) rt) (hb:autoParam (attributeBase o "get" env (eval o env) = eval o env) rt) (hp:autoParam ((apos.endLine == pos.line) = true) rt):EX ρ l env (.Call (.Attribute o "get" apos) [e,e2] [] pos) H m Q:=
 mF F.slot_dict_get F.type_dict_get (h.mono fun ov H1 p1=>p1.rec fun a q=>⟨a,yO.cons (q.mono fun v H2 q=>yO.cons (q.mono fun v2 H3 q=>yO.nil q) hst3) hst2⟩) (by simp [hst,hst']) (by simp) hb hp
theorem mG (h:EX ρ l env o H m fun ov H1=>(∃ ys,uZ H1 ov ys)∧EX ρ l env e H1 m (kQ l env (.con (.builtin "dict.pop")) e2 ov m Q))
  (hst:autoParam (isStarred e = false) rt) (hst':autoParam (isStarred e2 = false) rt) (hst2:autoParam (starEach [e,e2] env = (false,eval e env) :: starEach [e2] env) rt) (hst3:autoParam (starEach [e2] env = (false,eval e2 env) :: starEach [] env) rt) (hb:autoParam (attributeBase o "pop" env (eval o env) = eval o env) rt) (hp:autoParam ((apos.endLine == pos.line) = true) rt):EX ρ l env (.Call (.Attribute o "pop" apos) [e,e2] [] pos) H m Q:=
 mF F.slot_dict_pop F.type_dict_pop (h.mono fun ov H1 p1=>p1.rec fun a q=>⟨a,yO.cons (q.mono fun v H2 q=>yO.cons (q.mono fun v2 H3 q=>yO.nil q) hst3) hst2⟩) (by simp [hst,hst']) (by simp) hb hp
theorem EX.dpop1 (h:EX ρ l env o H m fun ov H1=>(∃ ys,uZ H1 ov ys)∧EX ρ l env e H1 m (kF1 l (.con (.builtin "dict.pop")) ov Q))
  (hst:autoParam (isStarred e = false) rt) (hst2:autoParam (starEach [e] env = (false,eval e env) :: starEach [] env) rt) (hb:autoParam (attributeBase o "pop" env (eval o env) = eval o env) rt) (hp:autoParam ((apos.endLine == pos.line) = true) rt):EX ρ l env (.Call (.Attribute o "pop" apos) [e] [] pos) H m Q:=
 mF F.slot_dict_pop F.type_dict_pop (h.mono fun ov H1 p1=>p1.elim fun a q=>⟨a,yO.cons (q.mono fun v H2 q=>yO.nil q) hst2⟩) (by simp [hst]) (by simp) hb hp
theorem oY (h:EX ρ l env o H m fun ov H1=>∃ a,ov = .ref a∧((∃ S n,H1 a = some (.iset S n))∨∃ S n,H1 a = some (.uset S n))∧EX ρ l env e H1 m (kF1 l (.con (.builtin "set.add")) ov Q))
  (hst:autoParam (isStarred e = false) rt) (hst2:autoParam (starEach [e] env = (false,eval e env) :: starEach [] env) rt) (hb:autoParam (attributeBase o "add" env (eval o env) = eval o env) rt) (hp:autoParam ((apos.endLine == pos.line) = true) rt):EX ρ l env (.Call (.Attribute o "add" apos) [e] [] pos) H m Q:=
 oZ (h.mono fun ov H1 p1=>p1.elim fun a p2=>p2.elim fun ea p3=>p3.elim fun hs q=>ea ▸ pU.setadd hs ⟨tN.builtin,yO.cons (ea ▸ q.mono fun v H2 q=>yO.nil q) hst2⟩) (by simp [hst]) (by simp) hb hp
end
end
section
variable {l:Nat} {env:Env} {H:zA} {m:zN}
theorem yG {x:Str} {pos:Pos} {av:AV} {Q:AV→zA→Prop} (q:Q av H) (hm:autoParam (m x = some av) rt) (hk:autoParam (env.kindOf x = some .local) rt) (hd:autoParam ((x == ("__debug__":Str)) = false) rt):EX ρ l env (.Name x pos) H m Q:=tP hm hk hd q
theorem xH {x:Str} {pos:Pos} {av:AV} {Q:AV→zA→Prop} (q:Q av H) (hm:m x = some av:=by assumption) (hk:autoParam (env.kindOf x = some .local) rt) (hd:autoParam ((x == ("__debug__":Str)) = false) rt):EX ρ l env (.Name x pos) H m Q:=tP hm hk hd q
theorem EX.cc {x:Str} {pos:Pos} {av:AV} {Q:AV→zA→Prop} (q:Q av H) (hm:autoParam (m x = some av) rt) (hk:autoParam (env.kindOf x = some .cell) rt) (hd:autoParam ((x == ("__debug__":Str)) = false) rt):EX ρ l env (.Name x pos) H m Q:=EX.cell hm hk hd q
variable {Q:AF→zA→zN→Prop} {ss:List Stmt}
theorem sN {x:Str} {p pos:Pos} {e:Expr} (h:let Q':AV→zA→Prop:=kW l env ss x m Q;EX ρ l env e H m Q') (hk:SK env x:=by first | exact .inl (by rfl) | exact .inr ⟨by rfl,by rfl,by rfl⟩) (hs:autoParam (swapsWith e (some (.Name x p)) pos.line env = pure false) rt) :
  ST ρ l env (.Assign [.Name x p] e pos :: ss) H m Q:=ST.cons (S1.name h hk hs)
theorem sN0 {x:Str} {p pos:Pos} {e:Expr} (h:let Qs:=Q;let Q':AV→zA→Prop:=kW l env ss x m Qs;EX ρ l env e H m Q') (hk:SK env x:=by first | exact .inl (by rfl) | exact .inr ⟨by rfl,by rfl,by rfl⟩) (hs:autoParam (swapsWith e (some (.Name x p)) pos.line env = pure false) rt) :
  ST ρ l env (.Assign [.Name x p] e pos :: ss) H m Q:=ST.cons (S1.name h hk hs)
theorem sR {e:Expr} {pos:Pos} (h:EX ρ l env e H m (kR m Q)):ST ρ l env (.Return (some e) pos :: ss) H m Q:=ST.cons (S1.ret h)
theorem sX {e:Expr} {pos:Pos} (h:EX ρ l env e H m (kY l env ss m Q)) (h1:autoParam (interactive env = false) rt) (h2:autoParam (swapsWith e none pos.line env = pure false) rt):ST ρ l env (.Expr e pos :: ss) H m Q:=ST.cons (zV h h1 h2)
end
end
section
section
noncomputable def evN (env:Env) (m:zN) (x:Str):Option AV:=if (x == ("__debug__":Str)) || (x == ("__classdict__":Str)) then none else match env.kindOf x with
 | some .local=>m x
 | some .cell=>m x
 | some .free=>m x
 | _=>none
inductive PK where
 | nm (x:Str) (p:Pos)
 | cn (c:Const) (k:Nat) (p:Pos)
 | tp (es:List Expr) (k:Nat) (p:Pos)
 | ls (es:List Expr) (p:Pos)
 | no
noncomputable def pk:Expr→PK
 | .Name x p=>.nm x p
 | .Constant c k p=>.cn c k p
 | .Tuple es k p=>.tp es k p
 | .List es p=>.ls es p
 | _=>.no
noncomputable def PK.ex:PK→Expr→Prop
 | .nm x p,e=>e = .Name x p
 | .cn c k p,e=>e = .Constant c k p
 | .tp es k p,e=>e = .Tuple es k p
 | .ls es p,e=>e = .List es p
 | .no,_=>True
theorem pk_ex (e:Expr):(pk e).ex e:=by cases e <;> first | exact rfl | exact trivial
noncomputable def evC:Const→Option AV
 | .int i=>some (.int i)
 | .bool b=>some (.bool b)
 | .none=>some .none
 | .str x=>some (.str x)
 | _=>none
noncomputable def c2:Option AV→Option (List AV)→Option (List AV)
 | some v,some vs=>some (v :: vs)
 | _,_=>none
noncomputable def c1 (f:List AV→AV):Option (List AV)→Option AV
 | some vs=>some (f vs)
 | none=>none
theorem c2_ok {a b vs} (h:c2 a b = some vs):∃ v vs',a = some v∧b = some vs'∧vs = v :: vs':=by
 cases a <;> cases b <;> cases h;exact ⟨_,_,rfl,rfl,rfl⟩
theorem c1_ok {f a v} (h:c1 f a = some v):∃ vs,a = some vs∧v = f vs:=by
 cases a <;> cases h;exact ⟨_,rfl,rfl⟩
mutual
noncomputable def evS:Nat→Env→zN→PK→Option AV
 | 0,_,_,_=>none
 | n + 1,env,m,e=>match e with
  | .nm x _=>evN env m x
  | .cn c _ _=>evC c
  | .tp es _ _=>c1 .tup (evL n env m es)
  | .ls es _=>c1 .lst (evL n env m es)
  | .no=>none
noncomputable def evL:Nat→Env→zN→List Expr→Option (List AV)
 | 0,_,_,_=>none
 | n + 1,env,m,es=>match es with
  | []=>some []
  | e :: es=>c2 (evS n env m (pk e)) (evL n env m es)
end
variable {l:Nat} {env:Env} {H:zA} {m:zN}
theorem evN_ok {x:Str} {pos:Pos} {av:AV} {Q:AV→zA→Prop} (h:evN env m x = some av) (q:Q av H):EX ρ l env (.Name x pos) H m Q:=by
 unfold evN at h
 by_cases d:((x == ("__debug__":Str)) || (x == ("__classdict__":Str))) = true
 ·rw [Ab d] at h;cases h
 ·rw [Aa d] at h
  rw [Df,not_or,Bool.not_eq_true,Bool.not_eq_true] at d
  cases hk:env.kindOf x with
  | none=>rw [hk] at h;cases h
  | some k=>
   rw [hk] at h
   cases k <;> first | (cases h;done) | skip
   ·exact tP h hk d.1 q
   ·exact EX.cell h hk d.1 q
   ·exact EX.free h hk d.1 d.2 q
theorem evC_ok {c:Const} {k:Nat} {pos:Pos} {av:AV} {Q:AV→zA→Prop} (h:evC c = some av) (q:Q av H):EX ρ l env (.Constant c k pos) H m Q:=by
 cases c <;> first | (cases h;done) | skip <;> cases h <;> first | exact EX.int q | exact EX.bool q | exact EX.non q | exact EX.str q
theorem ev_ok {n:Nat}:n ≤ 1000→(∀ {k:PK} {e av} {Q:AV→zA→Prop},k.ex e→evS n env m k = some av→Q av H→EX ρ l env e H m Q∧isStarred e = false)∧∀ {p es vs} {Q:List AV→zA→Prop},evL n env m es = some vs→vs.length ≤ n∧(Q vs H→yO ρ l env p es H m Q):=by
 induction n with
 | zero=>exact fun U=>⟨fun {k e av Q} hx h=>(nomatch h),fun {p es vs Q} h=>(nomatch h)⟩
 | succ n ih=>
  intro hn
  replace ih:=ih (Nat.le_of_succ_le hn)
  have hz:n ≤ sizeLine:=by rw [Cu];exact Ah (Nat.le_of_succ_le hn) (by decide)
  refine ⟨fun {k e av Q} hx h q=>?_,fun {p es vs Q} h=>?_⟩
  ·cases k with
   | nm x p=>cases (show e = _ from hx);exact ⟨evN_ok h q,rfl⟩
   | cn c k p=>cases (show e = _ from hx);exact ⟨evC_ok h q,rfl⟩
   | tp es k p=>
    cases (show e = _ from hx)
    refine (c1_ok (show c1 .tup (evL n env m es) = some av from h)).elim fun vs v=>?_
    have z:=ih.2 (p:=p) (Q:=kT Q) v.1
    exact ⟨EX.tup (z.2 ⟨Ah z.1 hz,v.2 ▸ q⟩),rfl⟩
   | ls es p=>
    cases (show e = _ from hx)
    refine (c1_ok (show c1 .lst (evL n env m es) = some av from h)).elim fun vs v=>?_
    have z:=ih.2 (p:=p) (Q:=kS Q) v.1
    exact ⟨EX.lst (z.2 ⟨Ah z.1 hz,v.2 ▸ q⟩),rfl⟩
   | no=>exact nomatch h
  ·cases es with
   | nil=>cases h;exact ⟨Bv _,yO.nil⟩
   | cons e es=>
    refine (c2_ok (show c2 (evS n env m (pk e)) (evL n env m es) = some vs from h)).elim fun v w=>w.elim fun vs' w=>?_
    have z:=ih.2 (p:=p) (Q:=kL2 v Q) w.2.1
    rw [w.2.2]
    exact ⟨Nat.succ_le_succ z.1,fun q=>let y:=ih.1 (Q:=kL l env p es m Q) (pk_ex e) w.1 (z.2 q);yO.cons y.1 (star_no y.2)⟩
theorem EX.pl {e av} {Q:AV→zA→Prop} (h:evS 40 env m (pk e) = some av) (q:Q av H):EX ρ l env e H m Q:=((ev_ok (by decide)).1 (pk_ex e) h q).1
theorem yO.pl {p es vs} {Q:List AV→zA→Prop} (h:evL 40 env m es = some vs) (q:Q vs H):yO ρ l env p es H m Q:=((ev_ok (by decide)).2 h).2 q
theorem EX.pl2 {a b va vb} {R:AV→AV→zA→Prop} (ha:evS 40 env m (pk a) = some va) (hb:evS 40 env m (pk b) = some vb) (q:R va vb H):EX ρ l env a H m fun va H1=>EX ρ l env b H1 m fun vb H2=>R va vb H2:=EX.pl ha (EX.pl hb q)
end
end
section
theorem int_cases {n:Nat} {P:Int→Prop} (h:∀ k,k < n→P (k:Nat)) {v:Int} (h0:0 ≤ v) (h1:v < (n:Nat)):P v:=Int.toNat_of_nonneg h0 ▸ h v.toNat ((Int.toNat_lt h0).mpr h1)
theorem mod_small {x m:Int} (hm:0 < m) (hb:m ≤ 2147483648):0 ≤ x % m∧x % m < 2 ^ 31:=⟨Int.emod_nonneg _ (Int.ne_of_gt hm),Int.lt_of_lt_of_le (Int.emod_lt_of_pos _ hm) hb⟩
noncomputable abbrev onN (R:zA→zN→Prop):AF→zA→zN→Prop:=fun af H m=>match af with | .nxt=>R H m | _=>False
structure Prog (K:Frag) (base:Heap) (fa:Nat→Addr):Prop where
 S:SF K base
 fn:∀ n∈fnIdx,oX K (wW (zJ n)) (.ref (fa n))∧FnAt base (fa n) (yL (zJ n)) (xD (zJ n)) (yR (zJ n))
 len:oX K "len" (.builtin "len")
 sorted:oX K "sorted" (.builtin "sorted")
 min:oX K "min" (.builtin "min")
 isinst:oX K "isinstance" (.builtin "isinstance")
 list:oX K "list" (.type "list")
 range:oX K "range" (.type "range")
 set:oX K "set" (.type "set")
 str:oX K "str" (.type "str")
 dict:oX K "dict" (.type "dict")
 enum:oX K "enumerate" (.type "enumerate")
structure Well (H:zA) (wl nu:Addr) (k:Nat):Prop where
 ne:wl ≠ nu
 ex:∃ ns:List Int,∃ p:Nat,H wl = some (.list [.ref nu,.int p])∧H nu = some (.list (iL ns))∧0 < ns.length∧p ≤ ns.length∧ns.length ≤ 60 + k∧p ≤ k∧∀ n∈ns,0 ≤ n∧n < 2 ^ 31
section
variable {l:Nat} {H:zA} {Q:AV→zA→Prop}
section
variable {env:Env} {m:zN}
theorem EX.callF (S:SF K ρ.base) {x:Str} {np pos:Pos} {es:List Expr} {a:Addr} {ps body sc} (h2:oX K x (.ref a)∧FnAt ρ.base a ps body sc) (hk:env.kindOf x = some .globalImplicit) (hd:(x == ("__debug__":Str)) = false)
  (h:yO ρ l env pos es H m (kF l (.ref a) Q)) (he:es.all (fun e=>!isStarred e) = true):EX ρ l env (.Call (.Name x np) es [] pos) H m Q:=
 EX.call (tQ S h2.1 hk hd (av:=.ref a) (fun U U U U=>rfl) ⟨tN.fn h2.2,h⟩) he
theorem EX.callB (S:SF K ρ.base) {x:Str} {np pos:Pos} {es:List Expr} {T:String} (hg:oX K x (.builtin T)) (hk:env.kindOf x = some .globalImplicit) (hd:(x == ("__debug__":Str)) = false)
  (h:yO ρ l env pos es H m (kF l (.con (.builtin T)) Q)) (he:es.all (fun e=>!isStarred e) = true):EX ρ l env (.Call (.Name x np) es [] pos) H m Q:=
 EX.call (tQ S hg hk hd (av:=.con (.builtin T)) (fun U U U U=>rfl) ⟨tN.builtin,h⟩) he
theorem EX.callT (S:SF K ρ.base) {x:Str} {np pos:Pos} {es:List Expr} {T:String} (hg:oX K x (.type T)) (hk:env.kindOf x = some .globalImplicit) (hd:(x == ("__debug__":Str)) = false)
  (h:yO ρ l env pos es H m (kF l (.con (.type T)) Q)) (he:es.all (fun e=>!isStarred e) = true):EX ρ l env (.Call (.Name x np) es [] pos) H m Q:=
 EX.call (tQ S hg hk hd (av:=.con (.type T)) (fun U U U U=>rfl) ⟨tN.type,h⟩) he
theorem zO (X:Prog K ρ.base fa) (n:Nat) {np pos:Pos} {es:List Expr} (h:yO ρ l env pos es H m (kF l (.ref (fa n)) Q)) (hn:autoParam (fnIdx.contains n = true) rt) (hk:autoParam (env.kindOf (wW (zJ n)) = some .globalImplicit) rt) (hd:autoParam ((wW (zJ n) == ("__debug__":Str)) = false) rt) (he:autoParam (es.all (fun e=>!isStarred e) = true) rt):EX ρ l env (.Call (.Name (wW (zJ n)) np) es [] pos) H m Q:=
 EX.callF X.S (X.fn n (List.contains_iff_mem.mp hn)) hk hd h he
theorem xU (X:Prog K ρ.base fa) {x:Str} {np pos:Pos} {es:List Expr} {T:String} (hg:oX K x (.builtin T)) (h:yO ρ l env pos es H m (kF l (.con (.builtin T)) Q)) (hk:autoParam (env.kindOf x = some .globalImplicit) rt) (hd:autoParam ((x == ("__debug__":Str)) = false) rt) (he:autoParam (es.all (fun e=>!isStarred e) = true) rt):EX ρ l env (.Call (.Name x np) es [] pos) H m Q:=EX.callB X.S hg hk hd h he
theorem yW (X:Prog K ρ.base fa) {x:Str} {np pos:Pos} {es:List Expr} {T:String} (hg:oX K x (.type T)) (h:yO ρ l env pos es H m (kF l (.con (.type T)) Q)) (hk:autoParam (env.kindOf x = some .globalImplicit) rt) (hd:autoParam ((x == ("__debug__":Str)) = false) rt) (he:autoParam (es.all (fun e=>!isStarred e) = true) rt):EX ρ l env (.Call (.Name x np) es [] pos) H m Q:=EX.callT X.S hg hk hd h he
end
end
end
local macro_rules | `(tactic| lk) => `(tactic| repeat (first | refine yO.pl rfl ?_ | refine EX.pl rfl ?_ | refine yY ?_ | refine EX.neg ?_ | refine yO.cons ?_ | refine EX.sub ?_ rfl | refine xH ?_ | refine EX.tup ?_ | refine EX.lst ?_ | refine szA rfl ?_))
section
section
variable {l:Nat} {H:zA} {Q:AV→zA→Prop}
theorem mul5 (a:Int) {b:Int} (h1:-(2 ^ 64) < b) (h2:b < 2 ^ 64):IntMulOk a b:=.of_right (intBits_le_64 h1 h2)
theorem mul5n (a:Int) {n:Nat} (h:n ≤ sizeLine):IntMulOk a n:=mul5 a (Int.lt_of_lt_of_le (by decide) (Int.natCast_nonneg n)) (Int.lt_of_le_of_lt (Int.ofNat_le.mpr h) (by decide))
theorem zP (ns:List Int):(iL ns).length = ns.length:=by simp [iL]
theorem iLle {ns:List Int} {n:Nat} (h:ns.length ≤ n) (hn:autoParam (Nat.ble n sizeLine = true) rt):(iL ns).length ≤ sizeLine:=zP ns ▸ Ah h (Af hn)
theorem vX (ns:List Int) (n:Int):iL ns ++ [.int n] = iL (ns ++ [n]):=by simp [iL]
theorem iL_last {ns:List Int} (h:ns ≠ []):(iL ns).getLast? = some (.int (ns.getLast h)):=by unfold iL;rw [List.getLast?_map,List.getLast?_eq_some_getLast h];rfl
theorem vE {ns:List Int} {i:Nat} (h:i < ns.length):(iL ns)[i]? = some (.int ns[i]):=by simp [iL,h]
theorem xZ (X:Prog K ρ.base fa) (hl:l ≤ 30) {wl nu:Addr} {k:Nat} {size:Int} (W:Well H wl nu k) (hk:k ≤ 10000) (hs:0 < size) (q:∀ H' v,Well H' wl nu (k + 1)→(∀ a,a ≠ wl→a ≠ nu→H' a = H a)→0 ≤ v→v < size→Q (.int v) H') :
  zE ρ l (.ref (fa 22)) [.ref wl,.int size] H Q:=by
 refine sealG ?_
 intro Gs
 obtain ⟨hne,ns,p,hw,hn,h1,h2,h3,h4,h5⟩:=W
 have f:=(X.fn 22 (by decide)).2
 refine zE.fn X.S (zy 1 1 77731217115324752 rfl hl) f rfl (by decide) (fun L qual code hc=>?_) (by intro x hx;left;revert x hx;decide)
 have hz:(60:Nat) + k ≤ sizeLine:=Ah (Nat.add_le_add_left hk 60) (Af rfl)
 have tail:∀ (H1:zA) (ns1:List Int) (m:zN),m = wA (wA (nJ (yL (zJ 22)) [AV.ref wl,AV.int size]) "numbers" (AV.ref nu)) "place" (AV.int p)→H1 wl = some (.list [.ref nu,.int p])→H1 nu = some (.list (iL ns1))→p < ns1.length→ns1.length ≤ 60 + (k + 1)→(∀ n∈ns1,0 ≤ n∧n < 2 ^ 31)→(∀ a,a ≠ wl→a ≠ nu→H1 a = H a) →
   ST ρ (l + 1) (wN (yR (zJ 22)) L qual (fa 22) code) ((xD (zJ 22)).drop 2) H1 m (RQ Q):=by
  rintro H1 ns1 m rfl hw1 hn1 hp1 hl1 hb1 hk1
  refine ST.cons (S1.sub ?_)
  lk
  refine xW.add ?_
  lk
  refine wT.list hw1 (by simp;rw [Cu];decide) (by decide) (by simp) ?_
  refine ST.cons (S1.ret ?_)
  lk
  have hn2:upd H1 wl (.list ([AV.ref nu,AV.int p].set (1:Int).toNat (.int (p + 1)))) nu = some (.list (iL ns1)):=by rw [zB (Ne.symm hne)];exact hn1
  refine zY.list (k:=(p:Int)) hn2 (wM 324141075 rfl) (iLle (Ah hl1 (Nat.add_le_add_left (Nat.succ_le_succ hk) 60))) (by simpa using vE hp1) ?_
  lk
  refine xW.mod hs ?_
  refine q _ _ ⟨hne,ns1,p + 1,by rw [zC];rfl,hn2,zy 2 1 74188920401 rfl hp1,zy 2 1 74194355793 rfl hp1,zy 2 1 0x114643c21250643c21250 rfl hl1,zy 2 1 1187094201936 rfl h4,hb1⟩ (fun a ha hb=>by rw [zB ha];exact hk1 a ha hb) (Int.emod_nonneg _ (ω409 hs)) (Int.emod_lt_of_pos _ hs)
 refine ST.cons (S1.tup ?_)
 refine yG ?_
 refine AS.unp (vs:=[.ref nu,.int p]) hw (xN.cons (AS.name (xN.cons (AS.name (xN.nil ?_)))))
 refine ST.cons (zK (zH ?_))
 refine yG ?_
 refine xU X (Prog.len X) ?_
 lk
 refine zE.len hn (iLle (Ah h3 (Nat.add_le_add_left hk 60))) (wY ?_)
 by_cases hp:(p:Int) = ((iL ns).length:Int)
 ·have hpl:p = ns.length:=by have:=zP ns;exact zy 3 2 0x11010710101707527626205205 rfl hp this
  have hne0:ns ≠ []:=by rintro rfl;simp at h1
  rw [Dc hp]
  refine ST.cons (zV (EX.append ?_))
  refine yG ?_
  refine ⟨⟨_,hn⟩,?_⟩
  lk
  refine mB hn (iLle (n:=10000) (hpl ▸ Ah h4 hk)) (iL_last hne0) ?_
  lk
  refine qX (mul5 _ (by decide) (by decide)) ?_
  lk
  refine xW.div (by decide) (by decide) ?_
  refine zY.list (k:=(p:Int) / 2) hn (ω478 hk h1 h4 hp hpl) (iLle (n:=10000) (hpl ▸ Ah h4 hk)) (vE (i:=((p:Int) / 2).toNat) (by exact ω479 hk h1 h4 hp hpl)) ?_
  refine xW.add ?_
  lk
  refine xW.add ?_
  lk
  refine xW.mod (by decide) ?_
  refine zE.append hn (iLle (n:=10000) (hpl ▸ Ah h4 hk)) ?_
  refine ST.nil ?_
  rw [vX]
  refine tail _ _ _ rfl (by rw [zB hne];exact hw) zC (by simp;exact zy 3 2 0x10010774517526205205 rfl hp hpl) (by simp;exact zy 4 3 0x1100018643c2128408527205205650 rfl h4 hp hpl) (fun n hn'=>?_) fun a U hb=>zB hb
  rcases Cx.mp hn' with h | h
  ·exact h5 n h
  ·rw [Bf.mp h];exact mod_small (by decide) (by decide)
 ·have:(p:Int) ≠ (ns.length:Int):=by have:=zP ns;exact zy 3 2 0x1010171110607205205676262052056 rfl hp this
  rw [Dj hp]
  refine ST.nil ?_
  exact tail H ns _ rfl hw hn (zy 2 2 0x1141015065162052056650 rfl h2 this) (zy 2 1 0x114643c2125063c21250 rfl h3) h5 fun a U U=>rfl
end
end
section
structure GA where
 wl:Addr
 nu:Addr
 bk:Addr
 hm:Addr
 kn:Addr
noncomputable def GA.all (A:GA):List Addr:=[A.wl,A.nu,A.bk,A.hm,A.kn]
noncomputable def yP (L:List Addr) (H H':zA):Prop:=∀ a,a ∉ L→H' a = H a
theorem yP.refl {L H}:yP L H H:=fun U U=>rfl
theorem yP.trans {L H H1 H2} (a:yP L H H1) (b:yP L H1 H2):yP L H H2:=fun x h=>(b x h).trans (a x h)
theorem yP.mono {L L' H H1} (a:yP L H H1) (h:∀ x∈L,x∈L'):yP L' H H1:=fun x hx=>a x fun q=>hx (h x q)
theorem yP.w {A:GA} {H H1} (a:yP [A.wl,A.nu] H H1):yP A.all H H1:=a.mono fun x h=>Cy [A.bk,A.hm,A.kn] h
theorem yP.k {A:GA} {H H1} (a:yP [A.bk,A.kn] H H1):yP A.all H H1:=a.mono (by simp [GA.all])
theorem yP.up {A:GA} {rw:Addr} {H H1} (a:yP A.all H H1):yP (rw :: A.all) H H1:=a.mono fun x hx=>Dh _ hx
structure GB (H:zA) (A:GA) (k nx:Nat) (hs ks:List Int):Prop where
 well:Well H A.wl A.nu k
 book:H A.bk = some (.sdict [("next",.int nx),("homes",.ref A.hm)])
 homes:H A.hm = some (.idict (hs.map fun c=>(c,.bool true)))
 known:H A.kn = some (.list (iL ks))
 nodup:A.all.Nodup
 hsz:hs.length ≤ nx
 ksz:ks.length ≤ nx
 k0:0 < ks.length
 kin:∀ c∈ks,0 ≤ c∧c < nx
 kb:k ≤ 10000
 nb:nx ≤ 1000
theorem GB.kl {H A k nx hs ks} (g:GB H A k nx hs ks):(iL ks).length ≤ sizeLine:=iLle (Ah g.ksz g.nb)
section
variable {l:Nat} {H:zA} {Q:AV→zA→Prop} {A:GA} {k nx:Nat} {hs ks:List Int}
theorem GB.ne (g:GB H A k nx hs ks):A.wl ≠ A.bk∧A.wl ≠ A.hm∧A.wl ≠ A.kn∧A.nu ≠ A.bk∧A.nu ≠ A.hm∧A.nu ≠ A.kn∧A.bk ≠ A.hm∧A.bk ≠ A.kn∧A.hm ≠ A.kn:=by
 have:=g.nodup
 simp only [GA.all,Bl,Be,Dk,Dl,not_or] at this
 refine sealG ?_
 intro Gs
 obtain ⟨⟨U,a,b,c⟩,⟨d,e,f⟩,⟨h,i⟩,j,U⟩:=this
 exact ⟨a,b,c,d,e,f,h,i,j⟩
theorem wF (X:Prog K ρ.base fa) (hl:l ≤ 30) {size:Int} (g:GB H A k nx hs ks) (hk:k + 1 ≤ 10000) (hs0:0 < size) (q:∀ H' v,GB H' A (k + 1) nx hs ks→yP [A.wl,A.nu] H H'→0 ≤ v→v < size→Q (.int v) H'):zE ρ l (.ref (fa 22)) [.ref A.wl,.int size] H Q:=by
 obtain ⟨n1,n2,n3,n4,n5,n6,n7,n8,n9⟩:=g.ne
 refine xZ X hl g.well g.kb hs0 fun H' v w' hsame h0 h1=>q H' v ⟨w',?_,?_,?_,g.nodup,g.hsz,g.ksz,g.k0,g.kin,hk,g.nb⟩ (fun a ha=>?_) h0 h1
 ·rw [hsame _ (Ne.symm n1) (Ne.symm n4)];exact g.book
 ·rw [hsame _ (Ne.symm n2) (Ne.symm n5)];exact g.homes
 ·rw [hsame _ (Ne.symm n3) (Ne.symm n6)];exact g.known
 ·simp only [Be,Dk,Dl,not_or] at ha
  exact hsame a ha.1 ha.2
theorem uJ (X:Prog K ρ.base fa) (hl:l ≤ 30) (g:GB H A k nx hs ks) (hn:nx + 1 ≤ 1000) (q:∀ H',GB H' A k (nx + 1) hs (ks ++ [(nx:Int)])→yP [A.bk,A.kn] H H'→Q (.int nx) H'):zE ρ l (.ref (fa 23)) [.ref A.bk,.ref A.kn] H Q:=by
 refine sealG ?_
 intro Gs
 obtain ⟨n1,n2,n3,n4,n5,n6,n7,n8,n9⟩:=g.ne
 refine zE.fn X.S (ω54 hl) (X.fn 23 (by decide)).2 rfl (by decide) (fun L qual code hc=>?_) (by intro x hx;left;revert x hx;decide)
 have hz:=g.ksz
 have hz2:=g.nb
 refine sN ?_
 lk
 refine zY.sdict g.book (x:=.int nx) (by rfl) ?_
 refine ST.cons (S1.sub ?_)
 lk
 refine xW.add ?_
 lk
 refine wT.sdict g.book (by simp;rw [Cu];decide) ?_
 refine ST.cons (zV (EX.append ?_))
 have hk:upd H A.bk (.sdict (keep [("next",.int nx),("homes",.ref A.hm)] "next" (.int (nx + 1)))) A.kn = some (.list (iL ks)):=by rw [zB (Ne.symm n8)];exact g.known
 refine yG ?_
 refine ⟨⟨_,hk⟩,?_⟩
 lk
 refine zE.append hk (by rw [zP,Cu];exact ω55 hn hz) ?_
 rw [vX]
 refine ST.cons (S1.ret ?_)
 lk
 refine q _ ⟨⟨g.well.ne,?_⟩,?_,?_,zC,g.nodup,by have:=g.hsz;exact ω56 this,by simp;exact ω57 hz,by simp,fun c hc=>?_,g.kb,zy 1 1 0x1143e8315403e831540 rfl hn⟩ fun a ha=>?_
 ·refine sealG ?_
  intro Gs
  obtain ⟨ns,p,h1,h2,h3⟩:=g.well.ex
  exact ⟨ns,p,by rw [zB n3,zB n1];exact h1,by rw [zB n6,zB n4];exact h2,h3⟩
 ·rw [zB n8,zC];rfl
 ·rw [zB n9,zB (Ne.symm n7)];exact g.homes
 ·rcases Cx.mp hc with h | h
  ·have:=g.kin c h;exact zw 1 1 0 1 0x10151105054200104010013752001040100137 rfl this
  ·rw [Bf.mp h];exact zy 1 1 0x10410405420520452001373e831540 rfl hn
 ·simp only [Be,Dk,Dl,not_or] at ha
  rw [zB ha.2,zB ha.1]
end
end
section
noncomputable abbrev xA:=Str×Int
noncomputable def uX (t:xA):AV:=.tup [.str t.1,.int t.2]
structure rQ where
 op:Str
 dst:Int
 terms:List xA
 more:AV
noncomputable def xG (r:rQ):AV:=.tup [.str r.op,.int r.dst,.lst (r.terms.map uX),r.more]
noncomputable def TOK (ks:List Int) (t:xA):Prop:=(t.1 = "r"∧t.2∈ks)∨t.1 = "k"
section
variable {l:Nat} {H:zA} {Q:AV→zA→Prop} {A:GA} {k nx:Nat} {hs ks:List Int}
theorem sY (X:Prog K ρ.base fa) (hl:l ≤ 29) (g:GB H A k nx hs ks) (hk:k + 2 ≤ 10000) (q:∀ H' k' t,GB H' A k' nx hs ks→k ≤ k'→k' ≤ k + 2→yP [A.wl,A.nu] H H'→TOK ks t→Q (uX t) H'):zE ρ l (.ref (fa 24)) [.ref A.wl,.ref A.kn] H Q:=by
 refine zE.fn X.S (ω59 hl) (X.fn 24 (by decide)).2 rfl (by decide) (fun L qual code hc=>?_) (by intro x hx;left;revert x hx;decide)
 refine sN ?_
 refine zO X 22 ?_
 lk
 refine xU X (Prog.len X) ?_
 lk
 refine zE.len g.known g.kl ?_
 lk
 refine xW.add ?_
 lk
 refine wF X (ω60 hl) g (ω61 hk) (by rw [zP];exact wM 5186273300 rfl) fun H1 v g1 s1 h0 h1=>?_
 refine ST.cons (zK (zH ?_))
 lk
 refine xU X (Prog.len X) ?_
 lk
 refine zE.len g1.known g1.kl (yI.lt ?_)
 rw [zP] at h1 ⊢
 by_cases hv:v < (ks.length:Int)
 ·rw [Dc hv]
  refine ST.cons (S1.ret (EX.tup ?_))
  lk
  refine zY.list g1.known h0 g1.kl (vE (i:=v.toNat) (nB h0 hv)) ?_
  lk
  refine q H1 (k + 1) ("r",ks[v.toNat]'(nB h0 hv)) g1 ω63 (wM 5135217984 rfl) s1 (.inl ⟨rfl,Cr _⟩)
 ·rw [Dj hv]
  refine ST.nil (ST.cons (S1.ret (EX.tup ?_)))
  lk
  refine zO X 22 ?_
  lk
  refine wF X (ω60 hl) g1 (zy 1 1 0x114271041544027104121530 rfl hk) (by decide) fun H2 v2 g2 s2 h2 h3=>?_
  have:∃ n,([AV.int 0,.int 1,.int 255,.int 4294967295]:List AV)[v2.toNat]? = some (.int n):=by
   have:v2 = 0∨v2 = 1∨v2 = 2∨v2 = 3:=by exact ω66 h2 h3
   rcases this with rfl | rfl | rfl | rfl <;> exact ⟨_,rfl⟩
  obtain ⟨n,hn⟩:=this
  refine zY.list (show yJ _ (.lst _) _ from rfl) h2 (pC rfl) hn ?_
  lk
  exact q H2 (k + 2) ("k",n) g2 (wM 320951120 rfl) (wM 1314615596336 rfl) (s1.trans s2) (.inr rfl)
theorem rF (hs:List Int) (c:Int):(yE (hs.map fun c=>(c,AV.bool true)) c).isSome = decide (c∈hs):=by
 unfold yE
 induction hs with
 | nil=>rfl
 | cons x hs ih=>
  simp only [Ba,List.find?_cons]
  by_cases q:x = c
  ·subst q;simp
  ·simp only [q,decide_false];rw [ih];simp [show ¬ c = x from fun e=>q e.symm]
theorem tA (X:Prog K ρ.base fa) (hl:l ≤ 29) (g:GB H A k nx hs ks) (hk:k + 2 ≤ 10000) (hn:nx + 1 ≤ 1000) (q:∀ H' nx' ks' c,GB H' A (k + 1) nx' hs ks'→nx ≤ nx'→nx' ≤ nx + 1→yP A.all H H'→(∀ x∈ks',x∈ks∨x = c)→(∀ x∈ks,x∈ks')→0 ≤ c→c < nx'→Q (.int c) H'):zE ρ l (.ref (fa 25)) [.ref A.wl,.ref A.bk,.ref A.kn] H Q:=by
 refine zE.fn X.S (ω59 hl) (X.fn 25 (by decide)).2 rfl (by decide) (fun L qual code hc=>?_) (by intro x hx;left;revert x hx;decide)
 have hz:=g.ksz
 have hz2:=g.nb
 have hk0:=g.k0
 refine sN ?_
 refine zO X 22 ?_
 lk
 refine xU X (Prog.len X) ?_
 lk
 refine zE.len g.known g.kl (qX (mul5n _ g.kl) ?_)
 lk
 refine wF X (ω60 hl) g (ω61 hk) (by rw [zP];exact zy 1 1 0x12452021500145011 rfl hk0) fun H1 v g1 s1 h0 h1=>?_
 have s1':yP A.all H H1:=s1.w
 have fin:∀ m,m = wA (nJ (yL (zJ 25)) [AV.ref A.wl,AV.ref A.bk,AV.ref A.kn]) "pick" (.int v)→ST ρ (l + 1) (wN (yR (zJ 25)) L qual (fa 25) code) ((xD (zJ 25)).drop 2) H1 m (RQ Q):=by
  rintro m rfl
  refine ST.cons (S1.ret ?_)
  refine zO X 23 ?_
  lk
  refine uJ X (ω60 hl) g1 hn fun H2 g2 s2=>?_
  refine q H2 (nx + 1) _ (nx:Int) g2 ω63 (wM 20268352 rfl) (s1'.trans (s2.k)) (fun x hx=>?_) (fun x hx=>Cy _ hx) (zy 1 1 0x1045200133e831540 rfl hn) (wM 83015782916 rfl)
  rcases Cx.mp hx with h | h
  ·exact .inl h
  ·exact .inr (Bf.mp h)
 refine ST.cons (zK (TR.bool (sC.cons (zH ?_))))
 lk
 refine xU X (Prog.len X) ?_
 lk
 refine zE.len g1.known g1.kl (yI.lt ?_)
 rw [zP]
 by_cases hv:v < (ks.length:Int)
 ·rw [Dc hv]
  have hget:(iL ks)[v.toNat]? = some (.int (ks[v.toNat]'(nB h0 hv))):=vE (nB h0 hv)
  refine sC.cons (zH ?_)
  lk
  refine zY.list g1.known h0 g1.kl hget ?_
  lk
  refine yI.ne ?_
  by_cases hz0:ks[v.toNat]'(nB h0 hv) ≠ 0
  ·rw [Dc hz0]
   refine sC.cons (zH ?_)
   lk
   refine zY.list g1.known h0 g1.kl hget ?_
   lk
   refine zY.sdict g1.book (x:=.ref A.hm) (by rfl) ?_
   refine sU (show uZ _ (.ref A.hm) _ from g1.homes) ?_
   rw [rF]
   by_cases hh:ks[v.toNat]'(nB h0 hv)∈hs
   ·rw [Dc hh]
    exact ST.nil (fin _ rfl)
   ·rw [Dj hh]
    refine sC.nil ?_
    refine ST.cons (S1.ret ?_)
    lk
    refine zY.list g1.known h0 g1.kl hget ?_
    have:=g.kin _ (Cr (show v.toNat < ks.length by exact nB h0 hv))
    exact q H1 nx ks _ g1 (zw 2 1 0 2 0x10056605200104010013 rfl h0 hv) (zw 2 1 0 2 0x100564605200104010013 rfl h0 hv) s1' (fun x hx=>.inl hx) (fun x hx=>hx) this.1 this.2
  ·rw [Dj hz0]
   exact ST.nil (fin _ rfl)
 ·rw [Dj hv]
  exact ST.nil (fin _ rfl)
end
end
section
noncomputable def oW:List Str:=["slot","name","call","callreg","and","add","store","store!","sub","xor","mul","ltu","copy","const","neg","not","sx8","load","load!","move","move!"]
noncomputable def Def (K0:List Int) (rs:List rQ) (c:Int):Prop:=c∈K0∨∃ r∈rs,r.dst = c
structure ROW (K0:List Int) (nx:Nat) (pre:List rQ) (r:rQ):Prop where
 op:r.op∈oW
 dst:r.dst = -1∨(0 ≤ r.dst∧r.dst < nx)
 terms:∀ t∈r.terms,(t.1 = "r"∧Def K0 pre t.2∧0 ≤ t.2∧t.2 < nx)∨t.1 = "k"
 tl:r.terms.length ≤ 10
noncomputable def sO (K0:List Int) (nx:Nat) (rs:List rQ):Prop:=∀ i r,rs[i]? = some r→ROW K0 nx (rs.take i) r
theorem ROW.mono {K0 nx nx' pre r} (h:ROW K0 nx pre r) (hn:nx ≤ nx'):ROW K0 nx' pre r:=
 ⟨h.op,h.dst.imp_right fun p1=>p1.elim fun a b=>⟨a,by exact zw 2 1 0 2 0x11016620010452001040100137650 rfl hn ‹_›⟩,fun t ht=>(h.terms t ht).imp_left fun p1=>p1.elim fun a p2=>p2.elim fun b p3=>p3.elim fun c d=>⟨a,b,c,by exact ω71 hn ‹_›⟩,h.tl⟩
theorem sO.mono {K0 nx nx' rs} (h:sO K0 nx rs) (hn:nx ≤ nx'):sO K0 nx' rs:=fun i r e=>(h i r e).mono hn
theorem sO.snoc {K0 nx rs r} (h:sO K0 nx rs) (hr:ROW K0 nx rs r):sO K0 nx (rs ++ [r]):=fun i r' e=>by
 by_cases hi:i < rs.length
 ·rw [List.getElem?_append_left hi] at e
  rw [List.take_append_of_le_length (Nat.le_of_lt hi)]
  exact h i r' e
 ·have:i = rs.length:=by
   have:=(Bc.mp e).1
   simp at this;exact zy 2 2 0x10151105065264516516 rfl hi this
  subst this
  rw [List.getElem?_append_right (Ag _)] at e
  simp at e;subst e
  rw [List.take_left']
  ·exact hr
  ·rfl
theorem Def.more {K0 rs rs' c} (h:Def K0 rs c):Def K0 (rs ++ rs') c:=h.imp_right fun p1=>p1.elim fun r p2=>p2.elim fun a b=>⟨r,Cy _ a,b⟩
structure GR (H:zA) (A:GA) (rw:Addr) (k nx:Nat) (hs ks K0:List Int) (rs:List rQ):Prop where
 gb:GB H A k nx hs ks
 rows:H rw = some (.list (rs.map xG))
 rnot:rw ∉ A.all
 rok:sO K0 nx rs
 rsz:rs.length ≤ 1000
noncomputable def KD (K0:List Int) (rs:List rQ) (ks:List Int):Prop:=∀ c∈ks,Def K0 rs c
section
variable {l:Nat} {H:zA} {Q:AV→zA→Prop} {A:GA} {rw:Addr} {k nx:Nat} {hs ks K0:List Int} {rs:List rQ}
theorem keep_homes (hs:List Int) (c:Int):∃ hs':List Int,keep (hs.map fun c=>(c,AV.bool true)) c (.bool true) = (hs'.map fun c=>(c,AV.bool true))∧hs'.length ≤ hs.length + 1:=by
 unfold keep
 split
 ·refine ⟨hs,?_,ω63⟩
  rw [Bj]
  apply Cf
  intro a U
  simp only [Function.comp]
  split <;> simp_all
 ·exact ⟨hs ++ [c],by simp,by simp⟩
inductive JND0 (H:zA) (A:GA) (ks:List Int) (i:Nat) (ys:List AV) (H':zA) (m':zN):Prop
 | mk:H' = del H A.kn→m' "book" = some (.ref A.bk)→∀ zs:List Int,ys = iL zs→(∀ z∈zs,z∈ks)→zs.length ≤ i→JND0 H A ks i ys H' m'
theorem oU (X:Prog K ρ.base fa) (hl:l ≤ 29) (g:GR H A rw k nx hs ks K0 rs) (kd:KD K0 rs ks) (hk:k + 3 ≤ 10000) (hn:nx + 1 ≤ 1000) (hr:rs.length + 1 ≤ 1000)
  (q:∀ H' k' nx' hs' ks' rs' c,GR H' A rw k' nx' hs' ks' K0 rs'→KD K0 rs' ks'→k ≤ k'→k' ≤ k + 3→nx ≤ nx'→nx' ≤ nx + 1→rs'.length ≤ rs.length + 1→(∃ r2,rs' = rs ++ r2)→(∀ x∈ks,x∈ks')→c∈ks'→yP (rw :: A.all) H H'→Q (.int c) H') :
  zE ρ l (.ref (fa 26)) [.ref A.wl,.ref A.bk,.ref A.kn,.ref rw] H Q:=by
 refine zE.fn X.S (ω59 hl) (X.fn 26 (by decide)).2 rfl (by decide) (fun L qual code hc=>?_) (by
  intro x hx
  have:x = "well"∨x = "book"∨x = "known"∨x = "rows":=by revert x hx;decide
  refine sealG ?_
  intro Gs
  rcases this with rfl | rfl | rfl | rfl
  ·exact .inl (by rfl)
  ·exact .inr ⟨by rfl,fun n=>by rfl⟩
  ·exact .inl (by rfl)
  ·exact .inl (by rfl))
 refine ST.c ?_
 intro Qc
 refine S1.comp1L X.S (cl:=[("book",L + 1)]) ["book"] (.of (by rfl) (by rfl) (by rfl) (by rfl)) (.inl (by rfl)) ?_
 refine sealG ?_
 intro Gs
 obtain ⟨n1,n2,n3,n4,n5,n6,n7,n8,n9⟩:=g.gb.ne
 have gb:=g.gb
 have hksz:=gb.ksz
 have hnb:=gb.nb
 have hrw:rw ≠ A.wl∧rw ≠ A.nu∧rw ≠ A.bk∧rw ≠ A.hm∧rw ≠ A.kn:=by
  have:=g.rnot
  simp only [GA.all,Be,Dk,Dl,not_or] at this
  exact this
 refine yG ?_
 refine ⟨A.kn,_,_,rfl,gb.known,by simp,by simp,sQ.list,JND0 H A ks,⟨rfl,rfl,[],rfl,by simp,Ag _⟩,?_,?_⟩
 ·rintro L' i x ys H' m' hx ⟨rfl,hm,zs,rfl,hz,hzl⟩
  have hilt:i < ks.length:=by have:=(Bc.mp hx).1;simpa [iL] using this
  rw [vE hilt] at hx
  cases hx
  refine AS.name ?_
  refine (show TR ρ _ _ _ _ _ _ from zH ?_)
  refine yG ?_
  refine EX.sub (EX.cell (show wA m' "cell" _ "book" = _ from hm) (by rfl) (by rfl) ?_) (by rfl)
  lk
  refine zY.sdict (show del H A.kn A.bk = _ by rw [zR n8];exact gb.book) (x:=.ref A.hm) (by rfl) ?_
  refine wK (show uZ _ (.ref A.hm) _ from by show del H A.kn A.hm = _;rw [zR n9];exact gb.homes) ?_
  rw [rF]
  by_cases hh:ks[i]∈hs
  ·rw [Dc hh]
   refine (show EX ρ _ _ _ _ _ _ from ?_)
   refine yG ?_
   refine ⟨by rw [zP,Cu];exact zy 4 4 0x111117100000071706818705603e831540 rfl hn hksz hzl hilt,rfl,hm,zs ++ [ks[i]],vX ..,fun z hz'=>?_,by simp;exact ω57 hzl⟩
   rcases Cx.mp hz' with h | h
   ·exact hz z h
   ·rw [Bf.mp h];exact Cr _
  ·rw [Dj hh]
   exact ⟨rfl,hm,zs,rfl,hz,ω56 hzl⟩
 ·rintro ys H' m' ⟨rfl,hm,zs,rfl,hz,hzl⟩
  have hback:upd (del H A.kn) A.kn (.list (iL ks)) = H:=funext fun b=>by
   by_cases hb:b = A.kn
   ·subst hb;rw [zC];exact gb.known.symm
   ·rw [zB hb,zR hb]
  rw [hback]
  have hzs:zs.length ≤ nx:=by rw [zP] at hzl;exact zy 3 2 300537926321744 rfl hksz hzl
  refine .inl (show ST ρ _ _ _ _ _ _ from ?_)
  refine sN ?_
  intro Qc
  refine zO X 22 ?_
  lk
  refine xU X (Prog.len X) ?_
  lk
  refine zE.len (show yJ _ (.lst _) _ from rfl) (by rw [zP,Cu];exact ω55 hn hzs) ?_
  lk
  refine xW.add ?_
  lk
  refine wF X (ω60 hl) gb (zy 1 1 0x11427104154027104131530 rfl hk) (wM 5186273300 rfl) fun H1 v g1 s1 h0 h1=>?_
  have s1':yP (rw :: A.all) H H1:=s1.w.up
  have row1:H1 rw = some (.list (rs.map xG)):=by rw [s1 rw (by simp [hrw])];exact g.rows
  refine ST.c ?_
  intro Qc
  refine zK (zH ?_)
  lk
  refine xU X (Prog.len X) ?_
  lk
  refine zE.len (show yJ _ (.lst _) _ from rfl) (by rw [zP,Cu];exact ω55 hn hzs) (yI.lt ?_)
  rw [zP] at h1 ⊢
  by_cases hv:v < (zs.length:Int)
  ·rw [Dc hv]
   refine ST.c ?_
   intro Qc
   refine S1.ret ?_
   lk
   refine zY.list (show yJ _ (.lst _) _ from rfl) h0 (by rw [zP,Cu];exact ω55 hn hzs) (vE (i:=v.toNat) (nB h0 hv)) ?_
   exact q H1 (k + 1) nx hs ks rs _ ⟨g1,row1,g.rnot,g.rok,g.rsz⟩ kd ω63 (wM 5151995200 rfl) ω76 ω63 ω63 ⟨[],by simp⟩ (fun x hx=>hx) (hz _ (Cr _)) s1'
  ·rw [Dj hv]
   refine ST.nil ?_
   refine sN ?_
   intro Qc
   refine zO X 22 ?_
   lk
   refine wF X (ω60 hl) g1 (zy 1 1 0x114271041544027104131530 rfl hk) (by decide) fun H2 v2 g2 s2 h2 h3=>?_
   have s2':yP (rw :: A.all) H H2:=s1'.trans s2.w.up
   have row2:H2 rw = some (.list (rs.map xG)):=by rw [s2 rw (by simp [hrw])];exact row1
   refine sN ?_
   intro Qc
   refine zO X 23 ?_
   refine yO.cons ?_
   refine EX.cc ?_
   lk
   refine uJ X (ω60 hl) g2 hn fun H3 g3 s3=>?_
   have s3':yP (rw :: A.all) H H3:=s2'.trans s3.k.up
   have row3:H3 rw = some (.list (rs.map xG)):=by rw [s3 rw (by simp [hrw])];exact row2
   refine ST.c ?_
   intro Qc
   refine S1.sub ?_
   lk
   refine zY.sdict g3.book (x:=.ref A.hm) (by rfl) ?_
   lk
   have hhs:=g3.hsz
   refine wT.idict g3.homes (by rw [Cp,Cu];exact zy 2 2 0x11151000000716054603e831540 rfl hn hhs) ?_
   obtain ⟨hs',hkeep,hsl⟩:=keep_homes hs (nx:Int)
   rw [hkeep]
   have g4:GB (upd H3 A.hm (.idict (hs'.map fun c=>(c,.bool true)))) A (k + 2) (nx + 1) hs' (ks ++ [(nx:Int)]):=by
    refine sealG ?_
    intro Gs
    obtain ⟨ns,p,e1,e2,e3⟩:=g3.well.ex
    exact ⟨⟨g3.well.ne,ns,p,by rw [zB n2];exact e1,by rw [zB n5];exact e2,e3⟩,by rw [zB n7];exact g3.book,zC,by rw [zB (Ne.symm n9)];exact g3.known,g3.nodup,by have:=gb.hsz;exact zy 3 2 76938622630126672 rfl hsl this,g3.ksz,g3.k0,g3.kin,g3.kb,g3.nb⟩
   have row4:upd H3 A.hm (.idict (hs'.map fun c=>(c,.bool true))) rw = some (.list (rs.map xG)):=by rw [zB hrw.2.2.2.1];exact row3
   have s4':yP (rw :: A.all) H (upd H3 A.hm (.idict (hs'.map fun c=>(c,.bool true)))):=fun a ha=>by
    have:a ≠ A.hm:=fun e=>ha (by rw [e];simp [GA.all])
    rw [zB this];exact s3' a ha
   have hrs:=g.rsz
   have fin:∀ r:rQ,r.op∈oW→r.dst = nx→r.terms = []→Q (.int nx) (upd (upd H3 A.hm (.idict (hs'.map fun c=>(c,.bool true)))) rw (.list (rs.map xG ++ [xG r]))):=fun r ho hd ht=>by
    refine q _ (k + 2) (nx + 1) hs' (ks ++ [(nx:Int)]) (rs ++ [r]) nx ⟨⟨⟨g4.well.ne,?_⟩,?_,?_,?_,g4.nodup,g4.hsz,g4.ksz,g4.k0,g4.kin,g4.kb,g4.nb⟩,by rw [zC];simp,g.rnot,(g.rok.mono nA).snoc ⟨ho,.inr (zw 1 1 0 2 0x1010610016054200104010013752001053e831540 rfl hn hd),by rw [ht];simp,by rw [ht];simp⟩,by simp;exact zy 1 1 0x1143e731503e831540 rfl hr⟩ ?_ (wM 320951120 rfl) (wM 1318910563632 rfl) nA (wM 20268352 rfl) (by simp) ⟨[r],rfl⟩ (fun x hx=>Cy _ hx) (by simp) fun a ha=>?_
    ·refine sealG ?_
     intro Gs
     obtain ⟨ns,p,e1,e2,e3⟩:=g4.well.ex
     exact ⟨ns,p,by rw [zB (Ne.symm hrw.1)];exact e1,by rw [zB (Ne.symm hrw.2.1)];exact e2,e3⟩
    ·rw [zB (Ne.symm hrw.2.2.1)];exact g4.book
    ·rw [zB (Ne.symm hrw.2.2.2.1)];exact g4.homes
    ·rw [zB (Ne.symm hrw.2.2.2.2)];exact g4.known
    ·intro c hc
     rcases Cx.mp hc with h | h
     ·exact (kd c h).more
     ·rw [Bf.mp h];exact .inr ⟨r,by simp,hd⟩
    ·have:a ≠ rw:=fun e=>ha (by rw [e];simp)
     rw [zB this];exact s4' a ha
   have hz:(rs.map xG).length ≤ sizeLine:=by rw [Cp,Cu];exact ω80 hr
   refine ST.c ?_
   intro Qc
   refine zK (zH ?_)
   lk
   refine wY ?_
   by_cases hv2:v2 = 2
   ·rw [Dc hv2]
    refine ST.c ?_
    intro Qc
    refine zV (EX.append ?_)
    refine yG ?_
    refine ⟨⟨_,row4⟩,EX.tup ?_⟩
    lk
    refine zE.append row4 hz ?_
    refine ST.nil (ST.cons (S1.ret ?_))
    lk
    exact fin ⟨"name",nx,[],.tup [.str "g",.int 0]⟩ (show Str.ofString "name"∈oW by decide) rfl rfl
   ·rw [Dj hv2]
    refine ST.c ?_
    intro Qc
    refine zV (EX.append ?_)
    refine yG ?_
    refine ⟨⟨_,row4⟩,EX.tup ?_⟩
    lk
    refine zE.append row4 hz ?_
    refine ST.nil (ST.cons (S1.ret ?_))
    lk
    exact fin ⟨"slot",nx,[],.int v2⟩ (show Str.ofString "slot"∈oW by decide) rfl rfl
end
end
section
theorem pT.no {ρ:Bs} {l:Nat} {env:Env} {H:zA} {m:zN} {Q:Option Int→zA→Prop} (q:Q none H):pT ρ l env none H m Q:=.mk q
theorem pT.ex {ρ:Bs} {l:Nat} {env:Env} {H:zA} {m:zN} {e:Expr} {Q:Option Int→zA→Prop} (h:EX ρ l env e H m fun v H'=>∃ k,v = .int k∧Q (some k) H'):pT ρ l env (some e) H m Q:=.mk h
section
variable {l:Nat} {H:zA} {Q:AV→zA→Prop} {A:GA} {rw:Addr} {k nx:Nat} {hs ks K0:List Int} {rs:List rQ}
theorem GA.rwne {a:Addr} (h:rw ∉ A.all):rw ≠ A.wl∧rw ≠ A.nu∧rw ≠ A.bk∧rw ≠ A.hm∧rw ≠ A.kn:=by
 simp only [GA.all,Be,Dk,Dl,not_or] at h
 exact h
theorem GB.other {a:Addr} {o:AO} (g:GB H A k nx hs ks) (h:a ∉ A.all):GB (upd H a o) A k nx hs ks:=by
 refine sealG ?_
 intro Gs
 obtain ⟨h1,h2,h3,h4,h5⟩:=GA.rwne (rw:=a) (A:=A) (a:=a) h
 obtain ⟨ns,p,e1,e2,e3⟩:=g.well.ex
 exact ⟨⟨g.well.ne,ns,p,by rw [zB (Ne.symm h1)];exact e1,by rw [zB (Ne.symm h2)];exact e2,e3⟩,by rw [zB (Ne.symm h3)];exact g.book,by rw [zB (Ne.symm h4)];exact g.homes,by rw [zB (Ne.symm h5)];exact g.known,g.nodup,g.hsz,g.ksz,g.k0,g.kin,g.kb,g.nb⟩
theorem GR.push {r:rQ} (g:GR H A rw k nx hs ks K0 rs) (hr:ROW K0 nx rs r) (hz:rs.length + 1 ≤ 1000):GR (upd H rw (.list (rs.map xG ++ [xG r]))) A rw k nx hs ks K0 (rs ++ [r]):=
 ⟨g.gb.other g.rnot,by rw [zC];simp,g.rnot,g.rok.snoc hr,by simp;exact zy 1 1 0x1143e731503e831540 rfl hz⟩
theorem GR.step {H1 k1 nx1 hs1 ks1} (g:GR H A rw k nx hs ks K0 rs) (g1:GB H1 A k1 nx1 hs1 ks1) (hs0:yP A.all H H1) (hn:nx ≤ nx1):GR H1 A rw k1 nx1 hs1 ks1 K0 rs:=
 ⟨g1,by rw [hs0 rw g.rnot];exact g.rows,g.rnot,g.rok.mono hn,g.rsz⟩
theorem sub_of {cells:List (Str×Addr)}:∀ (cl:List (Str×Addr)),(∀ p∈cl,cells.lookup p.1 = some p.2)→∀ n c,cl.lookup n = some c→cells.lookup n = some c
 | [],_,n,c,h=>nomatch h
 | (a,b) :: t,h0,n,c,h=>by
  rw [Bk] at h
  cases e:n == a
  ·rw [e] at h
   exact sub_of t (fun p hp=>h0 p (Dh _ hp)) n c h
  ·rw [e] at h
   have:=h0 (a,b) Db
   rw [eq_of_beq e];simp only [Option.some.injEq] at h;rw [← h];exact this
theorem bnd_bnd {m:zN} {x:Str} {a b:AV}:wA (wA m x a) x b = wA m x b:=funext fun y=>by
 unfold wA
 split <;> rfl
inductive JNE0 (H:zA) (A:GA) (k nx:Nat) (hs ks:List Int) (i:Nat) (ys:List AV) (H':zA) (m':zN):Prop
 | mk:m' "well" = some (.ref A.wl)→m' "known" = some (.ref A.kn)→∀ (ts:List xA) (k':Nat),ys = ts.map uX→(∀ t∈ts,TOK ks t)→ts.length ≤ i→GB H' A k' nx hs ks→k ≤ k'→k' ≤ k + 1 + 2 * i→yP [A.wl,A.nu] H H'→JNE0 H A k nx hs ks i ys H' m'
theorem call_ok (X:Prog K ρ.base fa) (hl:l ≤ 28) (g:GR H A rw k nx hs ks K0 rs) (kd:KD K0 rs ks) (hk:k + 20 ≤ 10000) (hn:nx + 1 ≤ 1000) (hr:rs.length + 1 ≤ 1000) (b:Bool)
  (q:∀ H' k' nx' ks' rs',GR H' A rw k' nx' hs ks' K0 rs'→KD K0 rs' ks'→k ≤ k'→k' ≤ k + 20→nx ≤ nx'→nx' ≤ nx + 1→rs'.length ≤ rs.length + 1→(∃ r2,rs' = rs ++ r2)→(∀ x∈ks,x∈ks')→yP (rw :: A.all) H H'→Q .none H') :
  zE ρ l (.ref (fa 27)) [.ref A.wl,.ref A.bk,.ref A.kn,.ref rw,.bool b] H Q:=by
 refine zE.fn X.S (ω83 hl) (X.fn 27 (by decide)).2 rfl (by decide) (fun L qual code hc=>?_) (by
  intro x hx
  have:x = "well"∨x = "book"∨x = "known"∨x = "rows"∨x = "is_named":=by revert x hx;decide
  rcases this with rfl | rfl | rfl | rfl | rfl
  ·exact .inr ⟨by rfl,fun n=>by rfl⟩
  ·exact .inl (by rfl)
  ·exact .inr ⟨by rfl,fun n=>by rfl⟩
  ·exact .inl (by rfl)
  ·exact .inl (by rfl))
 have gb:=g.gb
 refine ST.c ?_
 intro Qc
 refine tF X.S (cl:=[("well",L + 1),("known",L + 1 + 1)]) ["well","known"] (.of (by rfl) (by rfl) (by rfl) (by rfl)) (.inl (by rfl)) ?_
 have hrw:=GA.rwne (a:=rw) g.rnot
 refine yW X (Prog.range X) ?_
 refine yO.cons ?_
 refine zO X 22 ?_
 refine yO.cons ?_
 refine EX.cc ?_
 lk
 refine wF X (ω84 hl) gb (zy 1 1 0x114271041540271041142530 rfl hk) (by decide) fun H1 v g1 s1 h0 h1=>?_
 lk
 refine xP ?_
 obtain ⟨c,rfl⟩:∃ c:Nat,v = c:=⟨v.toNat,zw 0 1 1 2 0x10010081010070110010811000700520010541101040100130102 rfl h0 h1⟩
 have hc4:c < 4:=by exact zy 1 2 0x1015411514115204520013 rfl h0 h1
 have hsm:Builtin.Range.small 0 (c:Int) 1 = true:=by
  have:c = 0∨c = 1∨c = 2∨c = 3:=by exact zy 1 2 0x10151100601100610110061101005111031152211528111528015284115204520013 rfl h0 h1
  rcases this with rfl | rfl | rfl | rfl <;> decide
 refine ⟨_,yM.rng hsm,JNE0 H A k nx hs ks,⟨rfl,rfl,[],k + 1,rfl,by simp,Ag _,g1,ω63,(wM 5349267150742848 rfl),s1⟩,?_,?_⟩
 ·rintro L' i x ys H' m' hx ⟨hm1,hm2,ts,k',rfl,ht,htl,g',hk0,hk1,s'⟩
  have hi:i < c:=by have:=(Bc.mp hx).1;simpa [wC] using this
  refine AS.name ?_
  refine (show EX ρ _ _ _ _ _ _ from ?_)
  refine zO X 24 ?_
  refine yO.cons (EX.cell (show wA m' "turn" _ "well" = _ from hm1) (by rfl) (by rfl) ?_)
  refine yO.cons (EX.cell (show wA m' "turn" _ "known" = _ from hm2) (by rfl) (by rfl) ?_)
  lk
  refine sY X (ω87 hl) g' (zy 4 5 0x11021282710412173068182150542704116204620013271041142530 rfl hk h0 h1 hk1 hi) fun H2 k2 t g2 hk2 hk3 s2 tok=>?_
  refine ⟨by rw [Cp,Cu];exact zy 3 4 0x101117100000071605717604115204520013 rfl h0 h1 htl hi,hm1,hm2,ts ++ [t],k2,by simp,fun u hu=>?_,by simp;exact ω57 htl,g2,zy 5 7 0x10010010a96021739097058182150642707604115204520013 rfl h0 h1 hk0 hk1 hi hk2 hk3,zy 4 3 0x11016742150642802153808507215064250 rfl hk1 hk2 hk3,s'.trans s2⟩
  rcases Cx.mp hu with h | h
  ·exact ht u h
  ·rw [Bf.mp h];exact tok
 rintro ys H' m' ⟨hm1,hm2,ts,k',rfl,ht,htl,g',hk0,hk1,s'⟩
 have htl':ts.length ≤ 3:=by simp [wC] at htl;exact zy 2 3 0x10116311605604115204520013 rfl h0 h1 htl
 have hk1':k' ≤ k + 7:=by simp [wC] at hk1;exact zy 3 3 0x1021671736052150742604115204520013 rfl h0 h1 hk1
 refine .inl (show ST ρ _ _ _ _ _ _ from ?_)
 have fin:∀ (H2:zA) (k2:Nat) (ts2:List xA),GB H2 A k2 nx hs ks→k ≤ k2→k2 ≤ k + 8→yP [A.wl,A.nu] H H2→ts2.length ≤ 3→(∀ t∈ts2,TOK ks t) →
   ST ρ (l + 1) (wN (yR (zJ 27)) L qual (fa 27) code) ((xD (zJ 27)).drop 2) H2 (wA (nJ (yL (zJ 27)) [AV.ref A.wl,AV.ref A.bk,AV.ref A.kn,AV.ref rw,AV.bool b]) "terms" (.lst (ts2.map uX))) (RQ Q):=by
  intro H2 k2 ts2 g2 hk2 hk3 s2 hl2 ht2
  refine sN ?_
  intro Qc
  lk
  refine ST.c ?_
  intro Qc
  refine zK (zH ?_)
  refine zO X 22 ?_
  refine yO.cons ?_
  refine EX.cc ?_
  lk
  refine wF X (ω84 hl) g2 (zy 2 3 0x11016271041640815360650271041142530 rfl hk hk2 hk3) (by decide) fun H3 v3 g3 s3 h30 h31=>?_
  lk
  refine yI.gt ?_
  have s3':yP A.all H H3:=(s2.trans s3).w
  have tl:∀ (H4:zA) (k4 nx4:Nat) (ks4:List Int) (d:Int),GB H4 A k4 nx4 hs ks4→k ≤ k4→k4 ≤ k + 20→nx ≤ nx4→nx4 ≤ nx + 1→yP A.all H H4→(∀ x∈ks4,x∈ks∨x = d)→(∀ x∈ks,x∈ks4)→(d = -1∨(0 ≤ d∧d < nx4)) →
    ST ρ (l + 1) (wN (yR (zJ 27)) L qual (fa 27) code) ((xD (zJ 27)).drop 4) H4 (wA (wA (nJ (yL (zJ 27)) [AV.ref A.wl,AV.ref A.bk,AV.ref A.kn,AV.ref rw,AV.bool b]) "terms" (.lst (ts2.map uX))) "dst" (.int d)) (RQ Q):=by
   intro H4 k4 nx4 ks4 d g4 a1 a2 a3 a4 s4 hs1 hs2 hd
   have row4:H4 rw = some (.list (rs.map xG)):=by rw [s4 rw g.rnot];exact g.rows
   have g4':GR H4 A rw k4 nx4 hs ks4 K0 rs:=⟨g4,row4,g.rnot,g.rok.mono a3,g.rsz⟩
   have fin2:∀ r:rQ,r.op∈oW→r.dst = d→r.terms = ts2→Q .none (upd H4 rw (.list (rs.map xG ++ [xG r]))):=fun r ho hrd hrt=>by
    refine q _ k4 nx4 ks4 (rs ++ [r]) (g4'.push ⟨ho,by rw [hrd];exact hd,fun t ht=>?_,by rw [hrt];exact zy 1 1 304157051523408 rfl hl2⟩ hr) ?_ a1 a2 a3 a4 (by simp) ⟨[r],rfl⟩ hs2 fun a ha=>?_
    ·rw [hrt] at ht
     rcases ht2 t ht with ⟨e1,e2⟩ | e1
     ·have e3:=gb.kin _ e2
      exact .inl ⟨e1,kd _ e2,e3.1,zw 2 1 0 3 0x1100176200104520010401001375460650 rfl a3 a4 e3⟩
     ·exact .inr e1
    ·intro c hc
     rcases hs1 c hc with h | h
     ·exact (kd c h).more
     ·subst h;exact .inr ⟨r,by simp,hrd⟩
    ·have:a ≠ rw:=fun e=>ha (by rw [e];simp)
     rw [zB this];exact s4 a (fun h=>ha (Dh _ h))
   have hz:(rs.map xG).length ≤ sizeLine:=by have:=g.rsz;rw [Cp,Cu];exact ω80 hr
   refine ST.c ?_
   intro Qc
   refine zV (EX.append ?_)
   refine yG ?_
   refine ⟨⟨_,row4⟩,uO (TR.val ?_)⟩
   refine yG ?_
   refine TRU.bool ?_
   cases b
   ·refine (show EX ρ _ _ _ _ _ _ from EX.tup ?_)
    lk
    refine zE.append row4 hz ?_
    refine ST.nil ?_
    exact fin2 ⟨"callreg",d,ts2,.int 0⟩ (show Str.ofString "callreg"∈oW by decide) rfl rfl
   ·refine (show EX ρ _ _ _ _ _ _ from EX.tup ?_)
    lk
    refine zE.append row4 hz ?_
    refine ST.nil ?_
    exact fin2 ⟨"call",d,ts2,.str "f"⟩ (show Str.ofString "call"∈oW by decide) rfl rfl
  by_cases hv3:0 < v3
  ·rw [Dc hv3]
   refine sN ?_
   intro Qc
   refine zO X 25 ?_
   refine yO.cons ?_
   refine EX.cc ?_
   refine yO.cons ?_
   refine yG ?_
   refine yO.cons ?_
   refine EX.cc ?_
   lk
   refine tA X (ω87 hl) g3 (zy 2 3 0x11016271041216430815360650271041142530 rfl hk hk2 hk3) hn fun H4 nx4 ks4 c4 g4 n1 n2 s4 hk1 hk4 c0 c1=>?_
   refine ST.nil ?_
   rw [bnd_bnd]
   exact tl H4 _ nx4 ks4 c4 g4 (zy 2 2 0x110564450815360650 rfl hk2 hk3) (zy 2 2 0x1015142536440815360650 rfl hk2 hk3) n1 n2 (s3'.trans s4) hk1 hk4 (.inr ⟨c0,c1⟩)
  ·rw [Dj hv3]
   refine ST.nil ?_
   exact tl H3 _ nx ks (-1) g3 (zy 2 2 0x11056450815360650 rfl hk2 hk3) (zy 2 2 0x101514253640815360650 rfl hk2 hk3) ω76 ω63 s3' (fun x hx=>.inl hx) (fun x hx=>hx) (.inl rfl)
 refine ST.c ?_
 intro Qc
 refine zK (TR.not (TR.val ?_))
 refine yG ?_
 refine TRU.bool ?_
 cases b
 ·refine (show ST ρ _ _ _ _ _ _ from ?_)
  refine ST.c ?_
  intro Qc
  refine S1.name (yY (EX.lst (yO.cons (EX.tup ?_))))
  lk
  refine zO X 22 ?_
  refine yO.cons ?_
  refine EX.cc ?_
  refine yO.cons ?_
  refine xU X (Prog.len X) ?_
  refine yO.cons ?_
  refine EX.cc ?_
  refine yO.nil ?_
  have hz:=gb.ksz
  have hz2:=gb.nb
  have hk0':=gb.k0
  refine zE.len g'.known g'.kl ?_
  rw [zP]
  lk
  refine wF X (ω84 hl) g' (zy 2 3 0x11016271041640715360650271041142530 rfl hk hk0 hk1') (ω95 hk0') fun H2 v2 g2 s2 h20 h21=>?_
  refine zY.list g2.known h20 g2.kl (vE (i:=v2.toNat) (ω96 hn hz hk0' h21)) ?_
  lk
  refine pY ?_
  refine yG ?_
  refine pT.no (pT.ex ?_)
  lk
  refine ⟨2,rfl,pT.no ?_⟩
  refine ⟨by nofun,_,_,(show yJ _ (.lst _) _ from rfl),by rw [Cp,Cu];exact ω97 htl',pS 2,.inl ?_⟩
  refine wL (show yJ _ (.lst _) _ from rfl) (show yJ _ (.lst _) _ from rfl) (by simp [Cu];exact zw 1 0 1 1 0x11010711000701000000716111203115052111 rfl htl') (.inl ?_)
  refine (show ST ρ _ _ _ _ _ _ from ?_)
  refine ST.nil ?_
  rw [bnd_bnd]
  have e:[AV.tup [AV.str (Str.ofString "r"),AV.int (ks[v2.toNat]'(ω96 hn hz hk0' h21))]] ++ (ts.map uX).take 2 = ((("r",ks[v2.toNat]'(ω96 hn hz hk0' h21)):xA) :: ts.take 2).map uX:=by rw [Ba,List.map_take];rfl
  rw [e]
  refine fin H2 (k' + 1) _ g2 (zy 2 2 0x11056450715360650 rfl hk0 hk1') (zy 2 2 0x10158153640715360650 rfl hk0 hk1') (s'.trans s2) (by simp;exact zw 1 0 1 1 0x1101071100070211603115052111 rfl htl') fun t ht'=>?_
  rcases Be.mp ht' with h | h
  ·rw [h];exact .inl ⟨rfl,Cr _⟩
  ·exact ht t (Do h)
 ·refine (show ST ρ _ _ _ _ _ _ from ?_)
  refine ST.nil ?_
  exact fin H' k' ts g' hk0 (zy 2 2 0x1015815360715360650 rfl hk0 hk1') s' htl' ht
end
end
section
section
variable {l:Nat} {H:zA} {Q:AV→zA→Prop} {A:GA} {rw:Addr} {k nx:Nat} {hs ks K0:List Int} {rs:List rQ}
theorem TOK.row {t:xA} (ht:TOK ks t) (g:GB H A k nx hs ks) (kd:KD K0 rs ks):(t.1 = "r"∧Def K0 rs t.2∧0 ≤ t.2∧t.2 < nx)∨t.1 = "k":=by
 refine sealG ?_
 intro Gs
 rcases ht with ⟨e1,e2⟩ | e1
 ·have e3:=g.kin _ e2
  exact .inl ⟨e1,kd _ e2,e3.1,e3.2⟩
 ·exact .inr e1
theorem KD.more {rs2:List rQ} (kd:KD K0 rs ks):KD K0 (rs ++ rs2) ks:=fun c h=>(kd c h).more
theorem KD.push {r:rQ} {ks':List Int} (kd:KD K0 rs ks) (h:∀ x∈ks',x∈ks∨x = r.dst):KD K0 (rs ++ [r]) ks':=fun c hc=>by
 rcases h c hc with h | h
 ·exact (kd c h).more
 ·exact .inr ⟨r,by simp,h.symm⟩
theorem zE.row (g:GR H A rw k nx hs ks K0 rs) (r:rQ) (hr:ROW K0 nx rs r) (hz:rs.length + 1 ≤ 1000) {av:AV} (e:av = xG r)
  (q:GR (upd H rw (.list (rs.map xG ++ [xG r]))) A rw k nx hs ks K0 (rs ++ [r])→yP [rw] H (upd H rw (.list (rs.map xG ++ [xG r])))→Q .none (upd H rw (.list (rs.map xG ++ [xG r])))) :
  zE ρ l (.con (.builtin "list.append")) [.ref rw,av] H Q:=by
 subst e
 exact zE.append g.rows (by rw [Cp,Cu];exact ω80 hz) (q (g.push hr hz) fun a ha=>zB (fun e=>ha (by rw [e];simp)))
theorem store_ok (X:Prog K ρ.base fa) (hl:l ≤ 28) (g:GR H A rw k nx hs ks K0 rs) (kd:KD K0 rs ks) (hk:k + 20 ≤ 10000) (hn:nx + 3 ≤ 1000) (hr:rs.length + 4 ≤ 1000)
  (q:∀ H' k' nx' hs' ks' rs',GR H' A rw k' nx' hs' ks' K0 rs'→KD K0 rs' ks'→k ≤ k'→k' ≤ k + 20→nx ≤ nx'→nx' ≤ nx + 3→rs'.length ≤ rs.length + 4→(∃ r2,rs' = rs ++ r2)→(∀ x∈ks,x∈ks')→yP (rw :: A.all) H H'→Q .none H') :
  zE ρ l (.ref (fa 28)) [.ref A.wl,.ref A.bk,.ref A.kn,.ref rw] H Q:=by
 refine zE.fn X.S (ω83 hl) (X.fn 28 (by decide)).2 rfl (by decide) (fun L qual code hc=>?_) (by intro x hx;left;revert x hx;decide)
 refine sN ?_
 intro Qc
 refine zO X 26 ?_
 lk
 refine oU X (ω87 hl) g kd (zy 1 1 0x11427104131530271041142530 rfl hk) (nF hn) (qE hr) fun H1 k1 nx1 hs1 ks1 rs1 home g1 kd1 a1 a2 a3 a4 a5 p1 a7 a8 s1=>p1.rec fun r2 hr2=>?_
 refine sN ?_
 intro Qc
 refine zO X 24 ?_
 lk
 refine sY X (ω87 hl) g1.gb (zy 2 3 0x1101627104121630315360650271041142530 rfl hk a1 a2) fun H2 k2 t g2 b1 b2 s2 tk=>?_
 have s2':yP A.all H1 H2:=s2.w
 have G2:=g1.step g2 s2' (Ag _)
 refine sN ?_
 intro Qc
 refine zO X 22 ?_
 lk
 refine wF X (ω84 hl) g2 (zy 3 5 0x1101018271041740216370760315360650271041142530 rfl hk a1 a2 b1 b2) (by decide) fun H3 v g3 s3 h0 h1=>?_
 have s3':yP A.all H2 H3:=s3.w
 have G3:=G2.step g3 s3' (Ag _)
 have S3:yP (rw :: A.all) H H3:=s1.trans ((s2'.trans s3').mono (fun x hx=>Dh _ hx))
 refine ST.c ?_
 intro Qc
 refine zK (zH ?_)
 lk
 refine wY ?_
 by_cases hv:v = 4
 ·rw [Dc hv]
  refine (show ST ρ _ _ _ _ _ _ from ?_)
  refine sN ?_
  intro Qc
  refine zO X 24 ?_
  lk
  refine sY X (ω87 hl) g3 (zy 3 5 0x1101018271041217430216370760315360650271041142530 rfl hk a1 a2 b1 b2) fun H4 k4 t4 g4 b3 b4 s4 tk4=>?_
  have s4':yP A.all H3 H4:=s4.w
  refine ST.c ?_
  intro Qc
  refine sM (EX.tup (yO.cons ?_)) (.inl (by rfl)) (.inl (by rfl))
  refine zO X 23 ?_
  lk
  refine uJ X (ω84 hl) g4 (ω107 hn a3 a4) fun H5 g5 s5=>?_
  have s5':yP A.all H4 H5:=s5.k
  refine yO.cons ?_
  refine zO X 23 ?_
  lk
  refine uJ X (ω84 hl) g5 (zy 2 3 0x110163e831644054606503e83131530 rfl hn a3 a4) fun H6 g6 s6=>?_
  have s6':yP A.all H5 H6:=s6.k
  have S6:yP A.all H3 H6:=s4'.trans (s5'.trans s6')
  lk
  refine ⟨_,_,rfl,?_⟩
  have G6:=G3.step g6 S6 (wM 20268112 rfl)
  refine ST.c ?_
  intro Qc
  refine zV (EX.append ?_)
  refine yG ?_
  refine ⟨⟨_,G6.rows⟩,EX.tup ?_⟩
  lk
  refine zE.row G6 ⟨"and",nx1,[t4,("k",4)],.int 0⟩ ⟨show Str.ofString "and"∈oW by decide,.inr (by dsimp only;exact wM 0x131305442052045200137 rfl),fun u hu=>?_,by simp⟩ (ω110 hr a5) (by rfl) fun G7 s7=>?_
  ·rcases Be.mp hu with rfl | hu
   ·exact ((TOK.row tk4 g4 kd1).imp_left fun p1=>p1.elim fun e1 p2=>p2.elim fun e2 p3=>p3.elim fun e3 e4=>⟨e1,e2,e3,by exact ω111 ‹_›⟩)
   ·rw [Bf.mp hu];exact .inr rfl
  refine (show ST ρ _ _ _ _ _ _ from ?_)
  have gh:=g1.gb.kin _ a8
  refine ST.c ?_
  intro Qc
  refine zV (EX.append ?_)
  refine yG ?_
  refine ⟨⟨_,G7.rows⟩,EX.tup ?_⟩
  lk
  refine zE.row G7 ⟨"add",(nx1 + 1:Nat),[("r",home),("r",nx1)],.int 0⟩ ⟨show Str.ofString "add"∈oW by decide,.inr (by dsimp only;exact wM 0x13130544205420454200137 rfl),fun u hu=>?_,by simp⟩ (by simp;exact zy 2 2 0x11153e6316054603e83141530 rfl hr a5) (by rfl) fun G8 s8=>?_
  ·rcases Be.mp hu with rfl | hu
   ·exact .inl ⟨rfl,(kd1 _ a8).more,gh.1,by dsimp only;exact zw 1 1 0 1 0x101554420010452001040100137 rfl gh⟩
   ·rw [Bf.mp hu];exact .inl ⟨rfl,.inr ⟨_,Cz _ (Bf.mpr rfl),rfl⟩,by dsimp only;exact xO,by dsimp only;exact wM 1328287863300 rfl⟩
  refine (show ST ρ _ _ _ _ _ _ from ?_)
  refine ST.c ?_
  intro Qc
  refine zV (EX.append ?_)
  refine yG ?_
  refine ⟨⟨_,G8.rows⟩,EX.tup ?_⟩
  lk
  refine zE.row G8 ⟨"store",-1,[("r",(nx1 + 1:Nat)),t],.int 4⟩ ⟨show Str.ofString "store"∈oW by decide,.inl rfl,fun u hu=>?_,by simp⟩ (by simp;exact zy 2 2 0x11153e5316054603e83141530 rfl hr a5) (by rfl) fun G9 s9=>?_
  ·rcases Be.mp hu with rfl | hu
   ·exact .inl ⟨rfl,.inr ⟨_,Cz _ (Bf.mpr rfl),rfl⟩,by dsimp only;exact (wM 5188485139 rfl),by dsimp only;exact wM 21252605821444 rfl⟩
   ·rw [Bf.mp hu]
    exact (TOK.row tk g1.gb kd1).imp_left fun p1=>p1.elim fun e1 p2=>p2.elim fun e2 p3=>p3.elim fun e3 e4=>⟨e1,e2.more.more,e3,by exact ω111 ‹_›⟩
  refine ST.nil ?_
  refine ST.nil ?_
  have L9:yP (rw :: A.all) H6 _:=((s7.trans s8).trans s9).mono (fun x hx=>by rw [Bf.mp hx];exact Db)
  refine q _ k4 _ hs1 _ _ G9 ?_ (zy 4 6 0x1101010985021743808740216370760315360650 rfl a1 a2 b1 b2 b3 b4) (zy 4 6 0x10101019142538021743808740216370760315360650 rfl a1 a2 b1 b2 b3 b4) (zy 2 2 0x1105644505460650 rfl a3 a4) (zy 2 2 0x1015315364405460650 rfl a3 a4) (by simp;exact zy 2 1 1187093963856 rfl a5) ⟨_,by rw [hr2,Cv,Cv,Cv]⟩ (fun x hx=>by simp [a7 x hx]) ((S3.trans (S6.mono fun x hx=>Dh _ hx)).trans L9)
  refine KD.more (rs2:=[_]) (KD.push (ks:=ks1 ++ [(nx1:Int)]) (KD.push (ks:=ks1) kd1 ?_) ?_)
  ·intro x hx
   rcases Cx.mp hx with h | h
   ·exact .inl h
   ·exact .inr (Bf.mp h)
  ·intro x hx
   rcases Cx.mp hx with h | h
   ·exact .inl h
   ·exact .inr (Bf.mp h)
 ·rw [Dj hv]
  refine (show ST ρ _ _ _ _ _ _ from ?_)
  refine ST.c ?_
  intro Qc
  refine zV (EX.append ?_)
  refine yG ?_
  refine ⟨⟨_,G3.rows⟩,EX.tup ?_⟩
  refine yO.cons (uO (zH ?_))
  lk
  refine wY ?_
  have hz:(rs1.map xG).length ≤ sizeLine:=by have:=G3.rsz;rw [Cp,Cu];exact ω82 this
  have fin:∀ (o:Str) (n:Int),o∈oW→Q .none (upd H3 rw (.list (rs1.map xG ++ [xG ⟨o,-1,[("r",home),t],.int n⟩]))):=fun o n ho=>by
   have gh:=g1.gb.kin _ a8
   refine q _ _ _ hs1 _ _ (G3.push (r:=⟨o,-1,[("r",home),t],.int n⟩) ⟨ho,.inl rfl,fun u hu=>?_,by simp⟩ (ω110 hr a5)) kd1.more (zy 3 4 0x1101077450216370760315360650 rfl a1 a2 b1 b2) (zy 3 4 0x10101714253740216370760315360650 rfl a1 a2 b1 b2) (ω122 a3 a4) (ω123 a3 a4) (by simp;exact zy 2 1 303677328876624 rfl a5) ⟨_,by rw [hr2,Cv]⟩ a7 fun a ha=>?_
   ·rcases Be.mp hu with rfl | hu
    ·exact .inl ⟨rfl,kd1 _ a8,gh.1,by dsimp only;exact ω125 gh⟩
    ·rw [Bf.mp hu];exact TOK.row tk g1.gb kd1
   ·have:a ≠ rw:=fun e=>ha (by rw [e];simp)
    rw [zB this];exact S3 a ha
  have h4:v = 0∨v = 1∨v = 2∨v = 3:=by exact zw 0 1 0 3 0x114100160110061011006110110061110110511110311010521101058111010580101058411010565110104010013 rfl h0 h1 hv
  rcases h4 with rfl | rfl | rfl | rfl
  all_goals
   refine (show EX ρ _ _ _ _ _ _ from ?_)
   lk
   refine zY.list (show yJ _ (.lst _) _ from rfl) (by decide) (pC rfl) (by rfl) ?_
   lk
   refine zE.append G3.rows hz ?_
   refine ST.nil (ST.nil ?_)
   exact fin _ _ (by decide)
end
end
section
section
variable {l:Nat} {H:zA} {Q:AV→zA→Prop} {A:GA} {rw:Addr} {k nx:Nat} {hs ks K0:List Int} {rs:List rQ}
theorem GR.done {H4:zA} {k4 nx4:Nat} {hs4 ks4:List Int} {r:rQ} (g:GR H A rw k nx hs ks K0 rs) (kd:KD K0 rs ks) (g4:GB H4 A k4 nx4 hs4 ks4) (s4:yP A.all H H4) (n:nx ≤ nx4) (hs1:∀ x∈ks4,x∈ks∨x = r.dst) (ho:r.op∈oW)
  (hd:r.dst = -1∨(0 ≤ r.dst∧r.dst < nx4)) (ht:∀ t∈r.terms,TOK ks t) (hz:rs.length + 1 ≤ 1000) (htl:r.terms.length ≤ 10:=by simp) :
  H4 rw = some (.list (rs.map xG))∧GR (upd H4 rw (.list (rs.map xG ++ [xG r]))) A rw k4 nx4 hs4 ks4 K0 (rs ++ [r])∧KD K0 (rs ++ [r]) ks4∧yP (rw :: A.all) H (upd H4 rw (.list (rs.map xG ++ [xG r]))):=by
 have g5:=g.step g4 s4 n
 refine ⟨g5.rows,g5.push ⟨ho,hd,fun t h=>?_,htl⟩ hz,kd.push hs1,fun a ha=>?_⟩
 ·exact (TOK.row (ht t h) g.gb kd).imp_left fun p1=>p1.elim fun e1 p2=>p2.elim fun e2 p3=>p3.elim fun e3 e4=>⟨e1,e2,e3,by exact ω71 n ‹_›⟩
 ·have:a ≠ rw:=fun e=>ha (by rw [e];simp)
  rw [zB this];exact s4 a fun h=>ha (Dh _ h)
theorem item_ok (X:Prog K ρ.base fa) (hl:l ≤ 27) (g:GR H A rw k nx hs ks K0 rs) (kd:KD K0 rs ks) (hk:k + 30 ≤ 10000) (hn:nx + 3 ≤ 1000) (hr:rs.length + 4 ≤ 1000)
  (q:∀ H' k' nx' hs' ks' rs',GR H' A rw k' nx' hs' ks' K0 rs'→KD K0 rs' ks'→k ≤ k'→k' ≤ k + 30→nx ≤ nx'→nx' ≤ nx + 3→rs'.length ≤ rs.length + 4→(∃ r2,rs' = rs ++ r2)→(∀ x∈ks,x∈ks')→yP (rw :: A.all) H H'→Q .none H') :
  zE ρ l (.ref (fa 29)) [.ref A.wl,.ref A.bk,.ref A.kn,.ref rw] H Q:=by
 refine zE.fn X.S (zy 1 1 77731217115128144 rfl hl) (X.fn 29 (by decide)).2 rfl (by decide) (fun L qual code hc=>?_) (by intro x hx;left;revert x hx;decide)
 refine sN ?_
 intro Qc
 refine zO X 22 ?_
 lk
 refine wF X (uQ hl) g.gb (zy 1 1 0x1142710415402710411e2530 rfl hk) (by decide) fun H1 v g1 s1 h0 h1=>?_
 have s1':yP A.all H H1:=s1.w
 have G1:=g.step g1 s1' (Ag _)
 have T1:yP (rw :: A.all) H H1:=s1'.mono fun x hx=>Dh _ hx
 refine ST.c ?_
 intro Qc
 refine zK (zH ?_)
 lk
 refine yI.lt ?_
 by_cases hv:v < 3
 ·rw [Dc hv]
  refine (show ST ρ _ _ _ _ _ _ from ?_)
  refine sN (EX.sub ?_ (by rfl))
  lk
  refine zO X 22 ?_
  lk
  refine wF X (uQ hl) g1 (ω129 hk) (by decide) fun H2 v2 g2 s2 h20 h21=>?_
  have s2':yP A.all H1 H2:=s2.w
  obtain ⟨o,ho,hO⟩:∃ o:Str,([AV.str "add",.str "sub",.str "xor",.str "mul",.str "ltu"]:List AV)[v2.toNat]? = some (.str o)∧o∈oW:=by
   have:v2 = 0∨v2 = 1∨v2 = 2∨v2 = 3∨v2 = 4:=by exact ω130 h20 h21
   refine sealG ?_
   intro Gs
   rcases this with rfl | rfl | rfl | rfl | rfl <;> exact ⟨_,rfl,by decide⟩
  refine zY.list (show yJ _ (.lst _) _ from rfl) h20 (pC rfl) ho ?_
  refine (show ST ρ _ _ _ _ _ _ from ?_)
  refine sN ?_
  intro Qc
  refine zO X 24 ?_
  lk
  refine sY X (rN hl) g2 (ω132 hk) fun H3 k3 t3 g3 b3 c3 s3 tk3=>?_
  have s3':yP A.all H2 H3:=s3.w
  refine sN ?_
  intro Qc
  refine zO X 24 ?_
  lk
  refine sY X (rN hl) g3 (zy 2 3 0x110162710412163021544360654402710411e2530 rfl hk b3 c3) fun H4 k4 t4 g4 b4 c4 s4 tk4=>?_
  have s4':yP A.all H3 H4:=s4.w
  have G4:=G1.step g4 (s2'.trans (s3'.trans s4')) (Ag _)
  refine ST.c ?_
  intro Qc
  refine zV (EX.append ?_)
  refine yG ?_
  refine ⟨⟨_,G4.rows⟩,EX.tup ?_⟩
  lk
  refine zO X 25 ?_
  lk
  refine tA X (rN hl) g4 (zy 3 5 0x11010182710412173021637076021544360654402710411e2530 rfl hk b3 c3 b4 c4) (nF hn) fun H5 nx5 ks5 c5 g5 d1 d2 s5 e1 e2 e3 e4=>?_
  lk
  lk
  refine sealG ?_
  intro Gs
  obtain ⟨f1,f2,f3,f4⟩:=G4.done (r:=⟨o,c5,[t3,t4],.int 0⟩) kd g5 s5 d1 e1 hO (.inr ⟨e3,e4⟩) (fun t h=>by
   rcases Be.mp h with rfl | h
   ·exact tk3
   ·rw [Bf.mp h];exact tk4) (qE hr)
  refine zE.append f1 (by rw [Cp,Cu];exact ω135 hr) (ST.nil (ST.nil ?_))
  exact q _ _ _ _ _ _ f2 f3 (zy 3 4 0x11010774502163707602154436065440 rfl b3 c3 b4 c4) (zy 3 4 0x1010171e2537402163707602154436065440 rfl b3 c3 b4 c4) (ω122 d1 d2) (ω123 d1 d2) (by simp) ⟨_,rfl⟩ e2 ((T1.trans ((s2'.trans (s3'.trans s4')).mono fun x hx=>Dh _ hx)).trans f4)
 ·rw [Dj hv]
  refine (show ST ρ _ _ _ _ _ _ from ?_)
  refine ST.c0 ?_
  intro Qs Qc
  refine zK (zH ?_)
  lk
  refine yI.lt ?_
  by_cases hv5:v < 5
  ·rw [Dc hv5]
   refine (show ST ρ _ _ _ _ _ _ from ?_)
   have hz:=g1.ksz
   have hz2:=g1.nb
   have hk0:=g1.k0
   refine sN (EX.tup ?_)
   lk
   refine zO X 22 ?_
   lk
   refine xU X (Prog.len X) ?_
   lk
   refine zE.len g1.known g1.kl ?_
   rw [zP]
   lk
   refine wF X (uQ hl) g1 (ω129 hk) (ω95 hk0) fun H2 v2 g2 s2 h20 h21=>?_
   have s2':yP A.all H1 H2:=s2.w
   refine zY.list g2.known h20 g2.kl (vE (i:=v2.toNat) (ω138 hn hz hk0 h21)) ?_
   lk
   refine (show ST ρ _ _ _ _ _ _ from ?_)
   have G2:=G1.step g2 s2' (Ag _)
   refine ST.c ?_
   intro Qc
   refine zV (EX.append ?_)
   refine yG ?_
   refine ⟨⟨_,G2.rows⟩,EX.tup ?_⟩
   lk
   refine zO X 25 ?_
   lk
   refine tA X (rN hl) g2 (ω132 hk) (nF hn) fun H5 nx5 ks5 c5 g5 d1 d2 s5 e1 e2 e3 e4=>?_
   lk
   lk
   refine sealG ?_
   intro Gs
   obtain ⟨f1,f2,f3,f4⟩:=G2.done (r:=⟨"copy",c5,[("r",ks[v2.toNat]'(ω138 hn hz hk0 h21))],.int 0⟩) kd g5 s5 d1 e1 (show Str.ofString "copy"∈oW by decide) (.inr ⟨e3,e4⟩) (fun t h=>by
    rw [Bf.mp h];exact .inl ⟨rfl,Cr _⟩) (qE hr)
   refine zE.append f1 (by rw [Cp,Cu];exact ω135 hr) (ST.nil (ST.nil (ST.nil ?_)))
   exact q _ _ _ _ _ _ f2 f3 (wM 324289616 rfl) (wM 21020194194496 rfl) (ω122 d1 d2) (ω123 d1 d2) (by simp) ⟨_,rfl⟩ e2 ((T1.trans (s2'.mono fun x hx=>Dh _ hx)).trans f4)
  rw [Dj hv5]
  refine (show ST ρ _ _ _ _ _ _ from ?_)
  refine ST.c0 ?_
  intro Qs Qc
  refine zK (zH ?_)
  lk
  refine wY ?_
  by_cases hv6:v = 5
  ·rw [Dc hv6]
   refine (show ST ρ _ _ _ _ _ _ from ?_)
   refine sN (EX.sub ?_ (by rfl))
   lk
   refine zO X 22 ?_
   lk
   refine wF X (uQ hl) g1 (ω129 hk) (by decide) fun H2 v2 g2 s2 h20 h21=>?_
   have s2':yP A.all H1 H2:=s2.w
   obtain ⟨o,ho,hO⟩:∃ o:Str,([AV.str "const",.str "neg",.str "not",.str "sx8"]:List AV)[v2.toNat]? = some (.str o)∧o∈oW:=by
    have:v2 = 0∨v2 = 1∨v2 = 2∨v2 = 3:=by exact ω66 h20 h21
    refine sealG ?_
    intro Gs
    rcases this with rfl | rfl | rfl | rfl <;> exact ⟨_,rfl,by decide⟩
   refine zY.list (show yJ _ (.lst _) _ from rfl) h20 (pC rfl) ho ?_
   refine (show ST ρ _ _ _ _ _ _ from ?_)
   have tail:∀ (H3:zA) (k3:Nat) (t3:xA),GB H3 A k3 nx hs ks→k ≤ k3→k3 ≤ k + 5→yP A.all H2 H3→TOK ks t3→ST ρ (l + 1) (wN (yR (zJ 29)) L qual (fa 29) code) ((inB (elB (elB ((xD (zJ 29)).drop 1)))).drop 2) H3
     (wA (wA (wA (nJ (yL (zJ 29)) [AV.ref A.wl,AV.ref A.bk,AV.ref A.kn,AV.ref rw]) "kind" (.int v)) "op" (.str o)) "one" (uX t3)) (onN fun H' U=>Q .none H'):=by
    intro H3 k3 t3 g3 b3 c3 s3 tk3
    have G3:=G1.step g3 (s2'.trans s3) (Ag _)
    refine ST.c0 ?_
    intro Qs Qc
    refine zV (EX.append ?_)
    refine yG ?_
    refine ⟨⟨_,G3.rows⟩,EX.tup ?_⟩
    lk
    refine zO X 25 ?_
    lk
    refine tA X (rN hl) g3 (zy 2 3 0x11016271041216305153606502710411e2530 rfl hk b3 c3) (nF hn) fun H5 nx5 ks5 c5 g5 d1 d2 s5 e1 e2 e3 e4=>?_
    lk
    lk
    refine sealG ?_
    intro Gs
    obtain ⟨f1,f2,f3,f4⟩:=G3.done (r:=⟨o,c5,[t3],.int 0⟩) kd g5 s5 d1 e1 hO (.inr ⟨e3,e4⟩) (fun t h=>by rw [Bf.mp h];exact tk3) (qE hr)
    refine zE.append f1 (by rw [Cp,Cu];exact ω135 hr) (ST.nil ?_)
    exact q _ _ _ _ _ _ f2 f3 (zy 2 2 0x11056450515360650 rfl b3 c3) (zy 2 2 0x10151e253640515360650 rfl b3 c3) (ω122 d1 d2) (ω123 d1 d2) (by simp) ⟨_,rfl⟩ e2 ((T1.trans ((s2'.trans s3).mono fun x hx=>Dh _ hx)).trans f4)
   refine ST.c ?_
   intro Qc
   refine S1.name (uO (zH ?_))
   lk
   refine yI.seq ?_
   by_cases hoc:o = "const"
   ·rw [Dc hoc]
    refine (show EX ρ _ _ _ _ _ _ from EX.tup ?_)
    lk
    refine zO X 22 ?_
    lk
    refine wF X (uQ hl) g2 (zy 1 1 0x114271041544402710411e2530 rfl hk) (by decide) fun H3 v3 g3 s3 h30 h31=>?_
    lk
    refine (tail H3 _ ("k",v3) g3 (wM 324289616 rfl) (wM 1327500706880 rfl) (s3.w) (.inr rfl)).mono fun af H' m' h=>?_
    cases af <;> first | exact ST.nil (ST.nil (ST.nil h)) | exact h.elim
   ·rw [Dj hoc]
    refine (show EX ρ _ _ _ _ _ _ from ?_)
    refine zO X 24 ?_
    lk
    refine sY X (rN hl) g2 (ω132 hk) fun H3 k3 t3 g3 b3 c3 s3 tk3=>?_
    refine (tail H3 _ t3 g3 (zy 2 2 0x11056502154436065440 rfl b3 c3) (zy 2 2 0x10155153602154436065440 rfl b3 c3) (s3.w) tk3).mono fun af H' m' h=>?_
    cases af <;> first | exact ST.nil (ST.nil (ST.nil h)) | exact h.elim
  rw [Dj hv6]
  refine (show ST ρ _ _ _ _ _ _ from ?_)
  refine ST.c0 ?_
  intro Qs Qc
  refine zK (zH ?_)
  lk
  refine wY ?_
  by_cases hv7:v = 6
  ·rw [Dc hv7]
   refine (show ST ρ _ _ _ _ _ _ from ?_)
   refine sN ?_
   intro Qc
   refine zO X 26 ?_
   lk
   refine oU X (rN hl) G1 kd (ω148 hk) (nF hn) (qE hr) fun H2 k2 nx2 hs2 ks2 rs2 c2 g2 kd2 b1 b2 b3 b4 b5 b6 b7 b8 b9=>?_
   refine sN ?_
   intro Qc
   refine zO X 22 ?_
   lk
   refine wF X (uQ hl) g2.gb (zy 2 3 0x11016271041640315436065402710411e2530 rfl hk b1 b2) (by decide) fun H3 v3 g3 s3 h30 h31=>?_
   have s3':yP A.all H2 H3:=s3.w
   have G3:=g2.step g3 s3' (Ag _)
   have fin:∀ (o:Str) (mo:AV) (H5:zA) (nx5:Nat) (ks5:List Int) (c5:Int),o∈oW→GB H5 A (k2 + 1 + 1) nx5 hs2 ks5→nx2 ≤ nx5→nx5 ≤ nx2 + 1→yP A.all H3 H5→(∀ x∈ks5,x∈ks2∨x = c5)→(∀ x∈ks2,x∈ks5)→0 ≤ c5→c5 < nx5→H5 rw = some (.list (rs2.map xG))∧Q .none (upd H5 rw (.list (rs2.map xG ++ [xG ⟨o,c5,[("r",c2)],mo⟩]))):=fun o mo H5 nx5 ks5 c5 hO g5 d1 d2 s5 e1 e2 e3 e4=>by
    refine sealG ?_
    intro Gs
    obtain ⟨f1,f2,f3,f4⟩:=G3.done (r:=⟨o,c5,[("r",c2)],mo⟩) kd2 g5 s5 d1 e1 hO (.inr ⟨e3,e4⟩) (fun t h=>by rw [Bf.mp h];exact .inl ⟨rfl,b8⟩) (ω110 hr b5)
    obtain ⟨r2,e6⟩:=b6
    exact ⟨f1,q _ _ _ _ _ _ f2 f3 (zy 2 2 0x11056445031543606540 rfl b1 b2) (zy 2 2 0x10151e253644031543606540 rfl b1 b2) (zy 3 4 0x11010775064707605460650 rfl b3 b4 d1 d2) (ω153 b3 b4 d1 d2) (by simp;exact zy 2 1 303677328876624 rfl b5) ⟨_,by rw [e6,Cv]⟩ (fun x hx=>e2 _ (b7 _ hx)) (T1.trans (b9.trans ((s3'.mono fun x hx=>Dh _ hx).trans f4)))⟩
   have hv3:v3 = 0∨v3 = 1∨v3 = 2∨v3 = 3:=by exact ω66 h30 h31
   refine sealG ?_
   intro Gs
   rcases hv3 with rfl | rfl | rfl | rfl
   all_goals
    refine sN (EX.sub ?_ (by rfl))
    lk
    refine zY.list (show yJ _ (.lst _) _ from rfl) (by decide) (pC rfl) (by rfl) ?_
    refine (show ST ρ _ _ _ _ _ _ from ?_)
    refine ST.c ?_
    intro Qc
    refine zV (EX.append ?_)
    refine yG ?_
    refine ⟨⟨_,G3.rows⟩,EX.tup ?_⟩
    refine yO.cons (uO (zH ?_))
    lk
    refine wY ?_
    refine (show EX ρ _ _ _ _ _ _ from ?_)
    lk
    refine zO X 25 ?_
    lk
    refine tA X (rN hl) g3 (zy 2 3 0x11016271041216430315436065402710411e2530 rfl hk b1 b2) (ω107 hn b3 b4) fun H5 nx5 ks5 c5 g5 d1 d2 s5 e1 e2 e3 e4=>?_
    refine yO.cons (EX.lst ?_)
    refine yO.cons (EX.tup ?_)
    lk
    lk
    lk
    refine zE.append (G3.step g5 s5 d1).rows (by have:=G3.rsz;rw [Cp,Cu];exact ω82 this) (ST.nil (ST.nil (ST.nil (ST.nil (ST.nil ?_)))))
    exact (fin _ _ H5 nx5 ks5 c5 (by decide) g5 d1 d2 s5 e1 e2 e3 e4).2
  rw [Dj hv7]
  refine (show ST ρ _ _ _ _ _ _ from ?_)
  refine ST.c0 ?_
  intro Qs Qc
  refine zK (zH ?_)
  lk
  refine wY ?_
  by_cases hv8:v = 7
  ·rw [Dc hv8]
   refine (show ST ρ _ _ _ _ _ _ from ?_)
   refine sX ?_
   refine zO X 28 ?_
   lk
   refine store_ok X (zy 1 1 0x1141c215401b2150 rfl hl) G1 kd (ω156 hk) (zy 1 1 0x1143e831315303e83131530 rfl hn) (zy 1 1 0x1143e831415303e83141530 rfl hr) fun H2 k2 nx2 hs2 ks2 rs2 g2 kd2 b1 b2 b3 b4 b5 b6 b7 b8=>?_
   refine ST.nil (ST.nil (ST.nil (ST.nil (ST.nil (ST.nil ?_)))))
   exact q _ _ _ _ _ _ g2 kd2 (zy 2 2 0x1105650142543606540 rfl b1 b2) (zy 2 2 0x10151e25360142543606540 rfl b1 b2) (zy 2 2 0x1105650315360650 rfl b3 b4) (zy 2 2 0x1015315360315360650 rfl b3 b4) (zy 2 1 77758988376171344 rfl b5) b6 b7 (T1.trans b8)
  rw [Dj hv8]
  refine (show ST ρ _ _ _ _ _ _ from ?_)
  refine ST.c0 ?_
  intro Qs Qc
  refine zK (zH ?_)
  lk
  refine wY ?_
  by_cases hv9:v = 8
  ·rw [Dc hv9]
   refine (show ST ρ _ _ _ _ _ _ from ?_)
   refine sN ?_
   intro Qc
   refine zO X 26 ?_
   lk
   refine oU X (rN hl) G1 kd (ω148 hk) (nF hn) (qE hr) fun H2 k2 nx2 hs2 ks2 rs2 c2 g2 kd2 b1 b2 b3 b4 b5 b6 b7 b8 b9=>?_
   refine sN ?_
   intro Qc
   refine zO X 26 ?_
   lk
   refine oU X (rN hl) g2 kd2 (zy 2 3 0x1101627104131630315436065402710411e2530 rfl hk b1 b2) (ω107 hn b3 b4) (ω110 hr b5) fun H3 k3 nx3 hs3 ks3 rs3 c3 g3 kd3 d1 d2 d3 d4 d5 d6 d7 d8 d9=>?_
   refine ST.c ?_
   intro Qc
   refine zV (EX.append ?_)
   refine yG ?_
   refine ⟨⟨_,g3.rows⟩,EX.tup ?_⟩
   refine yO.cons (EX.sub (EX.lst ?_) (by rfl))
   lk
   refine zO X 22 ?_
   lk
   refine wF X (uQ hl) g3.gb (zy 3 5 0x1101018271041740316370760315436065402710411e2530 rfl hk b1 b2 d1 d2) (by decide) fun H4 v4 g4 s4 h40 h41=>?_
   obtain ⟨o,ho,hO⟩:∃ o:Str,([AV.str "move",.str "move!"]:List AV)[v4.toNat]? = some (.str o)∧o∈oW:=by
    have:v4 = 0∨v4 = 1:=by exact ω166 h40 h41
    refine sealG ?_
    intro Gs
    rcases this with rfl | rfl <;> exact ⟨_,rfl,by decide⟩
   refine zY.list (show yJ _ (.lst _) _ from rfl) h40 (pC rfl) ho ?_
   lk
   refine sealG ?_
   intro Gs
   obtain ⟨f1,f2,f3,f4⟩:=g3.done (r:=⟨o,-1,[("r",c2),("r",c3)],.tup [.int 4,.int 4]⟩) kd3 g4 (s4.w) (Ag _) (fun x hx=>.inl hx) hO (.inl rfl) (fun t h=>by
    rcases Be.mp h with rfl | h
    ·exact .inl ⟨rfl,d7 _ b8⟩
    ·rw [Bf.mp h];exact .inl ⟨rfl,d8⟩) (zy 3 3 0x111163e831740647054603e83141530 rfl hr b5 d5)
   refine zE.append f1 (by have:=g3.rsz;rw [Cp,Cu];exact ω82 this) (ST.nil (ST.nil (ST.nil (ST.nil (ST.nil (ST.nil (ST.nil ?_)))))))
   refine sealG ?_
   intro Gs
   obtain ⟨r2,e2⟩:=b6
   obtain ⟨r3,e3⟩:=d6
   exact q _ _ _ _ _ _ f2 f3 (zy 3 4 0x110107745031637076031543606540 rfl b1 b2 d1 d2) (zy 3 4 0x1010171e25374031637076031543606540 rfl b1 b2 d1 d2) (zy 3 4 0x11010775064707605460650 rfl b3 b4 d3 d4) (ω153 b3 b4 d3 d4) (by simp;exact zy 3 2 0x111531637054706450 rfl b5 d5) ⟨_,by rw [e3,e2,Cv,Cv]⟩ (fun x hx=>d7 _ (b7 _ hx)) (T1.trans (b9.trans (d9.trans f4)))
  rw [Dj hv9]
  refine (show ST ρ _ _ _ _ _ _ from ?_)
  refine sX ?_
  refine zO X 27 ?_
  lk
  refine pZ ?_
  lk
  refine yI.ne ?_
  lk
  refine call_ok X (zy 1 1 0x1141c215401b2150 rfl hl) G1 kd (ω156 hk) (nF hn) (qE hr) _ fun H2 k2 nx2 ks2 rs2 g2 kd2 b1 b2 b3 b4 b5 b6 b7 b8=>?_
  refine ST.nil (ST.nil (ST.nil (ST.nil (ST.nil (ST.nil (ST.nil ?_))))))
  exact q _ _ _ _ _ _ g2 kd2 (zy 2 2 0x1105650142543606540 rfl b1 b2) (zy 2 2 0x10151e25360142543606540 rfl b1 b2) (ω122 b3 b4) (ω123 b3 b4) (zy 2 1 303746048353360 rfl b5) b6 b7 (T1.trans b8)
end
end
section
structure Last where
 op:Str
 terms:List xA
 more:AV
noncomputable def encL (r:Last):AV:=.tup [.str r.op,.lst (r.terms.map uX),r.more]
noncomputable def yS (c v:Int):End→Last
 | .on a=>⟨"jump",[],.int a⟩
 | .again a b=>⟨"branch",[("r",c)],.tup [.int a,.int b]⟩
 | .give=>⟨"give",[("r",c)],.int 0⟩
 | .fork a b=>⟨"branch",[("r",c)],.tup [.int a,.int b]⟩
 | .table a b d=>⟨"table",[("r",c)],.tup [.int v,.lst [.int a,.int b],.int d]⟩
noncomputable def uU:End→Nat
 | .give=>4
 | .fork _ _=>1
 | .table _ _ _=>1
 | _=>0
section
variable {l:Nat} {H:zA} {Q:AV→zA→Prop} {A:GA} {rw:Addr} {k nx:Nat} {hs ks K0:List Int} {rs:List rQ}
inductive INH0 (H:zA) (A:GA) (rw:Addr) (k nx:Nat) (hs ks K0:List Int) (rs:List rQ) (i:Nat) (H':zA) (m':zN):Prop
 | mk:∀ k' nx' ks' rs' c,GR H' A rw k' nx' hs ks' K0 rs'→KD K0 rs' ks'→k ≤ k'→k' ≤ k + 2 + i→nx' = nx + i→rs'.length = rs.length + i→(∀ x∈ks,x∈ks')→yP (rw :: A.all) H H'→c∈ks'→m' "well" = some (.ref A.wl)→m' "book" = some (.ref A.bk)→m' "known" = some (.ref A.kn)→m' "rows" = some (.ref rw)→m' "one" = some (uX ("r",c))→INH0 H A rw k nx hs ks K0 rs i H' m'
theorem end_ok (X:Prog K ρ.base fa) (hl:l ≤ 27) (g:GR H A rw k nx hs ks K0 rs) (kd:KD K0 rs ks) (h0:(0:Int)∈ks) (hk:k + 10 ≤ 10000) (hn:nx + 4 ≤ 1000) (hr:rs.length + 4 ≤ 1000) (e:End)
  (q:∀ H' k' nx' hs' ks' rs' c v,GR H' A rw k' nx' hs' ks' K0 rs'→KD K0 rs' ks'→k ≤ k'→k' ≤ k + 10→nx ≤ nx'→nx' ≤ nx + uU e→rs'.length ≤ rs.length + 4→(∀ x∈ks,x∈ks')→yP (rw :: A.all) H H'→Def K0 rs' c→0 ≤ c→c < nx'→0 ≤ v→Q (encL (yS c v e)) H') :
  zE ρ l (.ref (fa 30)) [.ref A.wl,.ref A.bk,.ref A.kn,.ref rw,encE e] H Q:=by
 refine zE.fn X.S (zy 1 1 77731217115128144 rfl hl) (X.fn 30 (by decide)).2 rfl (by decide) (fun L qual code hc=>?_) (by intro x hx;left;revert x hx;decide)
 have hksz:=g.gb.ksz
 have hnb:=g.gb.nb
 have hk0:=g.gb.k0
 have hkin0:=g.gb.kin _ h0
 have hz:(rs.map xG).length ≤ sizeLine:=by rw [Cp,Cu];exact ω135 hr
 cases e with
 | on a=>
  simp only [uU] at q
  refine ST.c ?_
  intro Qc
  refine zK (zH ?_)
  lk
  refine zY.tp rfl ?_
  lk
  refine yI.seq ?_
  refine sR ?_
  lk
  refine zY.tp rfl ?_
  lk
  exact q H k nx hs ks rs 0 0 g kd (wM 79184 rfl) (wM 329339728 rfl) (wM 79184 rfl) (wM 19944272 rfl) (wM 323048272 rfl) (fun U h=>h) .refl (kd _ h0) (by decide) (ω521 hn hkin0) (by decide)
 | again a b=>
  simp only [uU] at q
  refine ST.c ?_
  intro Qc
  refine zK (zH ?_)
  lk
  refine zY.tp rfl ?_
  lk
  refine yI.seq ?_
  refine ST.nil ?_
  refine ST.c ?_
  intro Qc
  refine zK (zH ?_)
  lk
  refine zY.tp rfl ?_
  lk
  refine yI.seq ?_
  refine ST.c ?_
  intro Qc
  refine zV (EX.append ?_)
  refine yG ?_
  refine ⟨⟨_,g.rows⟩,?_⟩
  lk
  refine zE.row g ⟨"sub",0,[("r",0),("k",1)],.int 0⟩ ⟨show Str.ofString "sub"∈oW by decide,.inr ⟨by decide,by dsimp only;exact ω521 hn hkin0⟩,fun u hu=>?_,by decide⟩ (zy 1 1 0x1143e8315403e83141530 rfl hr) (by rfl) fun g1 s1=>?_
  ·rcases Be.mp hu with rfl | hu
   ·exact .inl ⟨rfl,kd _ h0,by decide,by dsimp only;exact ω521 hn hkin0⟩
   ·rw [Bf.mp hu];exact .inr rfl
  refine sR ?_
  lk
  refine zY.tp rfl ?_
  lk
  refine zY.tp rfl ?_
  lk
  exact q _ k nx hs ks _ 0 0 g1 kd.more (wM 79184 rfl) (wM 329339728 rfl) (wM 79184 rfl) (wM 19944272 rfl) (by simp) (fun U h=>h) (s1.mono fun x hx=>by rw [Bf.mp hx];exact Db) (kd _ h0).more (by decide) (ω521 hn hkin0) (by decide)
 | give=>
  simp only [uU] at q
  refine ST.c ?_
  intro Qc
  refine zK (zH ?_)
  lk
  refine zY.tp rfl ?_
  lk
  refine yI.seq ?_
  refine ST.nil ?_
  refine ST.c ?_
  intro Qc
  refine zK (zH ?_)
  lk
  refine zY.tp rfl ?_
  lk
  refine yI.seq ?_
  refine ST.nil ?_
  refine ST.c ?_
  intro Qc
  refine zK (zH ?_)
  lk
  refine zY.tp rfl ?_
  lk
  refine yI.seq ?_
  refine sN ?_
  intro Qc
  lk
  refine zO X 22 ?_
  lk
  refine xU X (Prog.len X) ?_
  lk
  refine zE.len g.gb.known g.gb.kl ?_
  rw [zP]
  lk
  refine wF X (uQ hl) g.gb (ω172 hk) (ω95 hk0) fun H1 v1 g1 s1 h10 h11=>?_
  refine zY.list g1.known h10 g1.kl (vE (i:=v1.toNat) (ω523 hn hksz hk0 hkin0 h11)) ?_
  lk
  have G1:=g.step g1 (s1.w) (Ag _)
  refine ST.c ?_
  intro Qc
  refine yB (INH0 H A rw k nx hs ks K0 rs) ?_
  refine yW X (Prog.range X) ?_
  refine yO.cons ?_
  refine zO X 22 ?_
  lk
  refine wF X (uQ hl) g1 (zy 1 1 0x1142710415440271041a1530 rfl hk) (by decide) fun H2 v2 g2 s2 h20 h21=>?_
  lk
  refine xP ?_
  have G2:=G1.step g2 (s2.w) (Ag _)
  refine ⟨_,yM.rng (by have:v2 = 0∨v2 = 1∨v2 = 2∨v2 = 3∨v2 = 4:=(ω130 h20 h21);rcases this with rfl | rfl | rfl | rfl | rfl <;> rfl),⟨_,_,_,_,_,G2,kd,(wM 20268112 rfl),(wM 20899666547776 rfl),rfl,rfl,fun U h=>h,(s1.trans s2).w.up,Cr (show v1.toNat < ks.length by exact ω523 hn hksz hk0 hkin0 h11),rfl,rfl,rfl,rfl,rfl⟩,?_,?_⟩
  ·rintro i x H3 m3 hx pz
   refine sealG ?_
   intro Gs
   obtain ⟨k3,nx3,ks3,rs3,c3,g3,kd3,a1,a2,a3,a4,a5,a6,a7,m1,m2,m3',m4,m5⟩:=pz
   have hi:i < v2.toNat:=by have:=(Bc.mp hx).1;simpa [wC] using this
   have hxi:x = .int (i:Int):=by rw [wC,Bg,List.getElem?_range (by exact zw 1 1 2 3 0x1000018110001001a11001001a007516515110104010013010103020102 rfl h20 h21 hi)] at hx;simpa using hx.symm
   subst hxi
   have b1:=g3.gb.ksz
   have b2:=g3.gb.nb
   have b3:=g3.gb.k0
   refine AS.name ?_
   refine sN ?_
   intro Qc
   lk
   refine zO X 22 ?_
   lk
   refine xU X (Prog.len X) ?_
   lk
   refine zE.len g3.gb.known g3.gb.kl ?_
   rw [zP]
   lk
   refine wF X (uQ hl) g3.gb (zw 3 1 1 5 0x110010011b11010111a0271041640871721532605110104010013271041a15300102 rfl hk h20 h21 a2 hi) (ω95 b3) fun H4 v4 g4 s4 h40 h41=>?_
   refine zY.list g4.known h40 g4.kl (vE (i:=v4.toNat) (nB h40 h41)) ?_
   lk
   have G4:=g3.step g4 (s4.w) (Ag _)
   refine ST.c ?_
   intro Qc
   refine zV (EX.append ?_)
   refine xH ?_
   refine ⟨⟨_,G4.rows⟩,?_⟩
   lk
   refine xW.mod (by decide) ?_
   obtain ⟨o,ho,hO⟩:∃ o:Str,([AV.str "add",.str "xor"]:List AV)[((i:Int) % 2).toNat]? = some (.str o)∧o∈oW:=by
    have:(i:Int) % 2 = 0∨(i:Int) % 2 = 1:=Int.emod_two_eq _
    rcases this with e | e <;> rw [e] <;> exact ⟨_,rfl,by decide⟩
   refine zY.list (show yJ _ (.lst _) _ from rfl) (Int.emod_nonneg _ (by decide)) (pC rfl) ho ?_
   lk
   refine zO X 23 ?_
   lk
   refine uJ X (uQ hl) g4 (zw 3 1 1 7 0x1100100001010f110100011010e03e8316403e831608717526251101040100135200140101373e831415300102 rfl hn hkin0 h20 h21 a3 hi b2) fun H5 g5 s5=>?_
   lk
   refine sealG ?_
   intro Gs
   obtain ⟨f1,f2,f3,f4⟩:=G4.done (r:=⟨o,(nx3:Int),[("r",c3),("r",ks3[v4.toNat]'(nB h40 h41))],.int 0⟩) kd3 g5 (s5.k) ω63 (fun x hx=>by
    refine sealG ?_
    intro Gs
    rcases Cx.mp hx with h | h
    ·exact .inl h
    ·exact .inr (Bf.mp h)) hO (.inr ⟨by dsimp only;exact zy 1 1 0x1045200133e83150 rfl b2,by dsimp only;exact wM 83015782916 rfl⟩) (fun t h=>by
    rcases Be.mp h with rfl | h
    ·exact .inl ⟨rfl,a7⟩
    ·rw [Bf.mp h];exact .inl ⟨rfl,Cr _⟩) (zw 3 1 1 5 0x1100100101c110101101b03e8316408717526251101040100133e831415300102 rfl hr h20 h21 a4 hi)
   refine zE.append f1 (by rw [Cp,Cu];exact zy 5 6 0x1010001101c100000071903e8317086292852725200140101373e831416303e83141530 rfl hn hr hkin0 a3 a4 b2) ?_
   refine sN ?_
   intro Qc
   lk
   have hl2:(iL (ks3 ++ [(nx3:Int)])).getLast? = some (.int nx3):=by simp [iL]
   refine mB f2.gb.known (by rw [zP,Cu];simp;exact zy 4 5 0x10000011affffff61803e83160680752625200140101373e83141530 rfl hn hkin0 a3 b1 b2) hl2 ?_
   lk
   refine ST.nil ?_
   exact ⟨_,_,_,_,nx3,f2,f3,ω56 a1,zy 3 1 0x114742163254072163250 rfl a2,zy 3 1 0x110510150746254276252 rfl a3,by simp;exact zy 3 1 0x110510150746254276252 rfl a4,fun x hx=>by simp [a5 x hx],a6.trans (s4.w.up.trans f4),by simp,m1,m2,m3',m4,rfl⟩
  ·rintro H3 m3 ⟨k3,nx3,ks3,rs3,c3,g3,kd3,a1,a2,a3,a4,a5,a6,a7,m1,m2,m3',m4,m5⟩
   have hv:(wC 0 v2).length ≤ 4:=by simp [wC];exact zw 0 1 0 2 0x101541101035110104010013 rfl h20 h21
   refine sR ?_
   lk
   have:=g3.gb.kin _ a7
   exact q _ _ _ _ _ _ c3 0 g3 kd3 (ω57 a1) (zy 3 2 0x1115a163504117072163250 rfl a2 hv) (zy 3 4 0x1000010965041170752625200140101373e83141530 rfl hn hkin0 a3 hv) (zy 3 2 0x110164163504117076252 rfl a3 hv) (zy 3 2 0x110164163504117076252 rfl a4 hv) a5 a6 (kd3 _ a7) (zw 1 1 0 1 0x110501001352001040100137 rfl this) (ω125 this) (by decide)
 | fork a b=>
  simp only [uU] at q
  refine ST.c0 ?_
  intro Qs Qc
  refine zK (zH ?_)
  lk
  refine zY.tp rfl ?_
  lk
  refine yI.seq ?_
  refine ST.nil ?_
  refine ST.c ?_
  intro Qc
  refine zK (zH ?_)
  lk
  refine zY.tp rfl ?_
  lk
  refine yI.seq ?_
  refine ST.nil ?_
  refine ST.c ?_
  intro Qc
  refine zK (zH ?_)
  lk
  refine zY.tp rfl ?_
  lk
  refine yI.seq ?_
  refine ST.nil ?_
  refine sN ?_
  intro Qc
  lk
  refine zO X 22 ?_
  lk
  refine xU X (Prog.len X) ?_
  lk
  refine zE.len g.gb.known g.gb.kl ?_
  rw [zP]
  lk
  refine wF X (uQ hl) g.gb (ω172 hk) (ω95 hk0) fun H1 v1 g1 s1 h10 h11=>?_
  refine zY.list g1.known h10 g1.kl (vE (i:=v1.toNat) (ω523 hn hksz hk0 hkin0 h11)) ?_
  lk
  refine sN ?_
  intro Qc
  refine zO X 23 ?_
  lk
  refine uJ X (zy 1 1 0x1141e215401b2150 rfl hl) g1 (ω537 hn hkin0) fun H2 g2 s2=>?_
  refine ST.c ?_
  intro Qc
  refine zK (zH ?_)
  lk
  refine zY.tp rfl ?_
  lk
  refine yI.seq ?_
  refine sealG ?_
  intro Gs
  obtain ⟨f1,f2,f3,f4⟩:=g.done (r:=⟨"and",(nx:Int),[("r",ks[v1.toNat]'(ω523 hn hksz hk0 hkin0 h11)),("k",1)],.int 0⟩) kd g2 ((s1.w).trans (s2.k)) nA (fun x hx=>by
    refine sealG ?_
    intro Gs
    rcases Cx.mp hx with h | h
    ·exact .inl h
    ·exact .inr (Bf.mp h)) (show Str.ofString "and"∈oW by decide) (.inr ⟨by dsimp only;exact ω538 hn hkin0,by dsimp only;exact ω539⟩) (fun t h=>by
    rcases Be.mp h with rfl | h
    ·exact .inl ⟨rfl,Cr _⟩
    ·rw [Bf.mp h];exact .inr rfl) (qE hr)
  refine ST.c ?_
  intro Qc
  refine zV (EX.append ?_)
  refine yG ?_
  refine ⟨⟨_,f1⟩,?_⟩
  lk
  refine zE.append f1 hz ?_
  refine sR ?_
  lk
  refine zY.tp rfl ?_
  lk
  refine zY.tp rfl ?_
  lk
  exact q _ _ _ _ _ _ nx 0 f2 f3 nA (wM 5269435712 rfl) nA (wM 20268352 rfl) (by simp) (fun x hx=>by simp [hx]) f4 (.inr ⟨_,Cz _ (Bf.mpr rfl),rfl⟩) (ω538 hn hkin0) ω539 (by decide)
 | table a b d=>
  simp only [uU] at q
  refine ST.c ?_
  intro Qc
  refine zK (zH ?_)
  lk
  refine zY.tp rfl ?_
  lk
  refine yI.seq ?_
  refine ST.nil ?_
  refine ST.c ?_
  intro Qc
  refine zK (zH ?_)
  lk
  refine zY.tp rfl ?_
  lk
  refine yI.seq ?_
  refine ST.nil ?_
  refine ST.c ?_
  intro Qc
  refine zK (zH ?_)
  lk
  refine zY.tp rfl ?_
  lk
  refine yI.seq ?_
  refine ST.nil ?_
  refine sN ?_
  intro Qc
  lk
  refine zO X 22 ?_
  lk
  refine xU X (Prog.len X) ?_
  lk
  refine zE.len g.gb.known g.gb.kl ?_
  rw [zP]
  lk
  refine wF X (uQ hl) g.gb (ω172 hk) (ω95 hk0) fun H1 v1 g1 s1 h10 h11=>?_
  refine zY.list g1.known h10 g1.kl (vE (i:=v1.toNat) (ω523 hn hksz hk0 hkin0 h11)) ?_
  lk
  refine sN ?_
  intro Qc
  refine zO X 23 ?_
  lk
  refine uJ X (zy 1 1 0x1141e215401b2150 rfl hl) g1 (ω537 hn hkin0) fun H2 g2 s2=>?_
  refine ST.c ?_
  intro Qc
  refine zK (zH ?_)
  lk
  refine zY.tp rfl ?_
  lk
  refine yI.seq ?_
  refine sealG ?_
  intro Gs
  obtain ⟨f1,f2,f3,f4⟩:=g.done (r:=⟨"and",(nx:Int),[("r",ks[v1.toNat]'(ω523 hn hksz hk0 hkin0 h11)),("k",3)],.int 0⟩) kd g2 ((s1.w).trans (s2.k)) nA (fun x hx=>by
    refine sealG ?_
    intro Gs
    rcases Cx.mp hx with h | h
    ·exact .inl h
    ·exact .inr (Bf.mp h)) (show Str.ofString "and"∈oW by decide) (.inr ⟨by dsimp only;exact ω538 hn hkin0,by dsimp only;exact ω539⟩) (fun t h=>by
    rcases Be.mp h with rfl | h
    ·exact .inl ⟨rfl,Cr _⟩
    ·rw [Bf.mp h];exact .inr rfl) (qE hr)
  refine ST.nil ?_
  refine ST.c ?_
  intro Qc
  refine zV (EX.append ?_)
  refine yG ?_
  refine ⟨⟨_,f1⟩,?_⟩
  lk
  refine zE.append f1 hz ?_
  refine sR ?_
  lk
  refine zO X 22 ?_
  lk
  refine wF X (uQ hl) f2.gb (zy 1 1 0x1142710415440271041a1530 rfl hk) (by decide) fun H3 v3 g3 s3 h30 h31=>?_
  lk
  refine zY.tp rfl ?_
  lk
  refine zY.tp rfl ?_
  lk
  refine zY.tp rfl ?_
  lk
  exact q _ _ _ _ _ _ nx v3 (f2.step g3 (s3.w) (Ag _)) f3 (wM 20268112 rfl) (wM 84310971456 rfl) nA (wM 20268352 rfl) (by simp) (fun x hx=>by simp [hx]) (f4.trans s3.w.up) (.inr ⟨_,Cz _ (Bf.mpr rfl),rfl⟩) (ω538 hn hkin0) ω539 h30
end
end
section
theorem qH {a b:Int} (h0:-1000 < a) (h3:b < 10000):(b - a).toNat ≤ 2 ^ 24:=Int.toNat_le.mpr (Int.le_trans (Int.sub_le_sub (Int.le_of_lt h3) (Int.le_of_lt h0)) (by decide))
theorem vC {a b:Int} (h0:-1000 < a) (h1:a < 10000) (h2:-1000 < b) (h3:b < 10000):Builtin.Range.small a b 1 = true:=by
 have L:∀ x:Int,-20000 < x→x < 20000→Builtin.Range.rangeFitsLong x = true:=fun x a b=>by
  unfold Builtin.Range.rangeFitsLong;simp;exact ω542 a b
 unfold Builtin.Range.small Builtin.Range.rangeSize
 rw [L a (ω178 h0 h1) (ω179 h0 h1),L b (ω178 h2 h3) (ω179 h2 h3),L 1 (by decide) (by decide)]
 simp only [Int.ediv_one]
 by_cases h:a < b
 ·rw [Ab (by decide),Ab h,L _ (by exact zw 0 2 0 1 0x114111010110303044e20414041100104 rfl h) (by exact zw 0 2 0 4 0x1100174e204111101011030304427104111041103e83140427104101040103e831404 rfl h0 h1 h2 h3),Ab (by decide),L _ (by exact zw 0 1 0 2 0x11051111113001024e204140427104101040103e831404 rfl h2 h3) (by exact zw 0 1 0 2 0x10154e2041111111300102427104101040103e831404 rfl h2 h3)];simp
 ·rw [Ab (by decide),Aa h];simp [L]
noncomputable def uH (n:Nat):List Int:=(List.range n).map fun (i:Nat)=>(i:Int)
theorem rng_iota (n:Nat):wC 0 n = iL (uH n):=by
 unfold wC iL uH;rw [Bj,show ((n:Int) - 0).toNat = n by exact ω547]
 apply Cf;intro a U;simp [Function.comp]
theorem sG {n:Nat} {c:Int}:c∈uH n↔0 ≤ c∧c < n:=by
 unfold uH;rw [Bm]
 constructor
 ·rintro ⟨a,h,rfl⟩;have:=Cg.mp h;exact ω180 this
 ·intro h;exact ⟨c.toNat,Cg.mpr (zw 1 1 1 1 0x11001181100170561520010401001370102 rfl h),ω181 h⟩
theorem qM (n:Nat):(uH n).length = n:=by simp [uH]
structure yF where
 rows:List rQ
 e:End
 c:Int
 v:Int
noncomputable def wO (b:yF):AV:=.tup [.lst (b.rows.map xG),encL (yS b.c b.v b.e)]
structure BLK (K0:List Int) (nx:Nat) (b:yF):Prop where
 rok:sO K0 nx b.rows
 cd:Def K0 b.rows b.c
 c0:0 ≤ b.c
 cn:b.c < nx
 v0:0 ≤ b.v
 rsz:b.rows.length ≤ 100
theorem BLK.mono {K0 nx nx' b} (h:BLK K0 nx b) (hn:nx ≤ nx'):BLK K0 nx' b:=⟨h.rok.mono hn,h.cd,h.c0,by have:=h.cn;exact zw 2 1 0 2 0x111562001045200104650 rfl hn this,h.v0,h.rsz⟩
noncomputable def BS (many nx:Nat) (k0:List Int):List yF→Prop
 | []=>k0 = uH many
 | b0 :: rest=>BLK (uH many) nx b0∧KD (uH many) b0.rows k0∧∀ b∈rest,BLK k0 nx b
noncomputable def sD (es:List End):Nat:=(es.map uU).sum
theorem rooms_take {es:List End} {i:Nat} {e:End} (h:es[i]? = some e):sD (es.take (i + 1)) = sD (es.take i) + uU e:=by
 unfold sD;rw [Cj,h];simp
theorem rooms_le (es:List End) (i:Nat):sD (es.take i) ≤ sD es:=by
 conv=>rhs;rw [← Dp i es]
 unfold sD;rw [Bt,List.sum_append];exact zu2 20337232 rfl
section
variable {l:Nat} {H:zA} {Q:AV→zA→Prop} {k nx:Nat}
theorem GB.nz {A:GA} {hs ks} (g:GB H A k nx hs ks) {a:Addr} (h:H a = none):a ∉ A.all:=fun ha=>by
 obtain ⟨ns,p,e1,e2,U⟩:=g.well.ex
 simp only [GA.all,Be,Dk,Dl] at ha
 rcases ha with rfl | rfl | rfl | rfl | rfl
 ·rw [e1] at h;cases h
 ·rw [e2] at h;cases h
 ·rw [g.book] at h;cases h
 ·rw [g.homes] at h;cases h
 ·rw [g.known] at h;cases h
theorem GB.same {A:GA} {hs ks} {H':zA} (g:GB H A k nx hs ks) (h:∀ a∈A.all,H' a = H a):GB H' A k nx hs ks:=by
 refine sealG ?_
 intro Gs
 obtain ⟨ns,p,e1,e2,e3⟩:=g.well.ex
 exact ⟨⟨g.well.ne,ns,p,(h _ (.head _)).trans e1,(h _ (.tail _ (.head _))).trans e2,e3⟩,(h _ (.tail _ (.tail _ (.head _)))).trans g.book,(h _ (.tail _ (.tail _ (.tail _ (.head _))))).trans g.homes,(h _ (.tail _ (.tail _ (.tail _ (.tail _ (.head _)))))).trans g.known,g.nodup,g.hsz,g.ksz,g.k0,g.kin,g.kb,g.nb⟩
inductive INI0 (k:Nat) (wl nu bk hm:Addr) (many room:Nat) (tZ:List End) (ba bl:Addr) (i:Nat) (H':zA) (m':zN):Prop
 | mk:∀ (k' nx:Nat) (hs k0:List Int) (bs:List yF) (room':Nat),GB H' ⟨wl,nu,bk,hm,ba⟩ k' nx hs k0→H' bl = some (.list (bs.map wO))→BS many nx k0 bs→(0:Int)∈k0→bs.map (fun p=>p.e) = tZ.take i→i ≤ tZ.length→many ≤ nx→k' + 30 * room' ≤ k + 30 * room + 12 * i→nx + 3 * room' ≤ many + 3 * room + sD (tZ.take i)→m' "well" = some (.ref wl)→m' "book" = some (.ref bk)→m' "room" = some (.int room')→m' "base" = some (.ref ba)→m' "blocks" = some (.ref bl)→INI0 k wl nu bk hm many room tZ ba bl i H' m'
inductive INI1 (wl nu bk hm ba bl:Addr) (k3 nx3:Nat) (k03:List Int) (room3:Nat) (e:End) (kn ra:Addr) (H6:zA) (wn:Nat) (j:Nat) (H':zA) (m':zN):Prop
 | mk:∀ k2 nx2 hs2 ks2 rs2,GR H' ⟨wl,nu,bk,hm,kn⟩ ra k2 nx2 hs2 ks2 k03 rs2→KD k03 rs2 ks2→k2 ≤ k3 + 1 + 30 * j→nx3 ≤ nx2→nx2 ≤ nx3 + 3 * j→rs2.length ≤ 4 * j→(∀ x∈k03,x∈ks2)→yP (ra :: (GA.mk wl nu bk hm kn).all) H6 H'→m' "well" = some (.ref wl)→m' "book" = some (.ref bk)→m' "room" = some (.int room3)→m' "base" = some (.ref ba)→m' "blocks" = some (.ref bl)→m' "known" = some (.ref kn)→m' "end" = some (encE e)→m' "rows" = some (.ref ra)→m' "wanted" = some (.int wn)→INI1 wl nu bk hm ba bl k3 nx3 k03 room3 e kn ra H6 wn j H' m'
theorem blocks_ok (X:Prog K ρ.base fa) (hl:l ≤ 25) {wl nu bk hm:Addr} {many room:Nat} (W:Well H wl nu k) (hb:H bk = some (.sdict [("next",.int many),("homes",.ref hm)])) (hh:H hm = some (.idict [])) (nd:[wl,nu,bk,hm].Nodup)
  (hm1:1 ≤ many) (hm2:many ≤ 10) (hr:room ≤ 8) (hk:k ≤ 1000) (tZ:List End) (he:tZ.length ≤ 6) (hro:sD tZ ≤ 5)
  (q:∀ H' k' (nx:Nat) bs k0,Well H' wl nu k'→H' bk = some (.sdict [("next",.int nx),("homes",.ref hm)])→k' ≤ k + 1000→BS many nx k0 bs→many ≤ nx→nx ≤ 43→bs.map (fun p=>p.e) = tZ→Q (.lst (bs.map wO)) H') :
  zE ρ l (.ref (fa 31)) [.ref wl,.ref bk,.lst (tZ.map encE),.int many,.int room] H Q:=by
 refine zE.fn X.S (zy 1 1 77731217114997072 rfl hl) (X.fn 31 (by decide)).2 rfl (by decide) (fun L qual code hc=>?_) (by intro x hx;left;revert x hx;decide)
 refine ST.c ?_
 intro Qc
 refine sM (EX.tup (yO.cons ?_)) (.inl (by rfl)) (.inl (by rfl))
 refine yW X (Prog.list X) ?_
 refine yO.cons ?_
 refine yW X (Prog.range X) ?_
 lk
 refine xP ?_
 lk
 refine uP (vC (by decide) (by decide) (ω184 hm1 hm2) (ω185 hm1 hm2)) (qH (by decide) (ω185 hm1 hm2)) (zy 1 2 0x1105520013a115051110 rfl hm1 hm2) (.inr fun ba hba=>?_)
 refine yO.cons (xQ ?_)
 lk
 intro bl hbl
 lk
 refine ⟨_,_,rfl,?_⟩
 obtain ⟨ns,p,e1,e2,e3⟩:=W.ex
 have n1:ba ≠ wl:=fun e=>by rw [e,e1] at hba;cases hba
 have n2:ba ≠ nu:=fun e=>by rw [e,e2] at hba;cases hba
 have n3:ba ≠ bk:=fun e=>by rw [e,hb] at hba;cases hba
 have n4:ba ≠ hm:=fun e=>by rw [e,hh] at hba;cases hba
 have hnd:(GA.mk wl nu bk hm ba).all.Nodup:=by
  simp only [Bl,Be,Dk,Dl,not_or,not_false_eq_true,List.nodup_nil,and_true] at nd
  simp only [GA.all,Bl,Be,Dk,Dl,not_or,not_false_eq_true,List.nodup_nil,and_true]
  exact ⟨⟨nd.1.1,nd.1.2.1,nd.1.2.2,Ne.symm n1⟩,⟨nd.2.1.1,nd.2.1.2,Ne.symm n2⟩,⟨nd.2.2,Ne.symm n3⟩,Ne.symm n4⟩
 have g0:GB (upd H ba (.list (wC 0 many))) ⟨wl,nu,bk,hm,ba⟩ k many [] (uH many):=⟨⟨W.ne,ns,p,by rw [zB (Ne.symm n1)];exact e1,by rw [zB (Ne.symm n2)];exact e2,e3⟩,by rw [zB (Ne.symm n3)];exact hb,by rw [zB (Ne.symm n4)];exact hh,by rw [zC,rng_iota],hnd,by simp,by rw [qM];exact ω76,by rw [qM];exact zy 1 2 0x11055011a115051110 rfl hm1 hm2,fun c hc=>sG.mp hc,zy 1 1 0x114271041503e83150 rfl hk,zy 1 2 0x10153e83150a115051110 rfl hm1 hm2⟩
 have hbl':=g0.nz hbl
 refine ST.c ?_
 intro Qc
 refine oV X.S (INI0 k wl nu bk hm many room tZ ba bl) X.enum (by rfl) (by rfl) (by rfl) ?_
 lk
 refine ⟨_,rfl,⟨k,many,[],uH many,[],room,g0.other hbl',by rw [zC];rfl,rfl,sG.mpr (zy 1 2 0x110510050520014010137a115051110 rfl hm1 hm2),by simp,zy 1 1 17888555962704 rfl he,ω76,(zu2 0x1301c15061e25052261e250520 rfl),by simp [sD],rfl,rfl,rfl,rfl,rfl⟩,?_,?_⟩
 ·rintro i y H3 m3 hy ⟨k3,nx3,hs3,k03,bs3,room3,g3,c1,c2,c3,c4,c5,c6,c7,c8,m1,m2,m3',m4,m5⟩
  obtain ⟨x,hx,rfl⟩:=sL hy
  rw [Bg,Bi] at hx
  obtain ⟨e,hei,rfl⟩:=hx
  have hil:i < tZ.length:=(Bc.mp hei).1
  have hro1:=rooms_take hei
  have hro2:=rooms_le tZ (i + 1)
  refine AS.tup (xN.cons (AS.name (xN.cons (AS.name (xN.nil ?_)))))
  have hbll:bs3.length = i:=by have:=congrArg List.length c4;simpa [Nat.min_eq_left (Nat.le_of_lt hil)] using this
  have hnbl:bl ∉ (GA.mk wl nu bk hm ba).all:=hbl'
  have tail:∀ (kn:Addr) (H4:zA) (m4:zN),m4 "well" = some (.ref wl)→m4 "book" = some (.ref bk)→m4 "room" = some (.int room3)→m4 "base" = some (.ref ba)→m4 "blocks" = some (.ref bl)→m4 "known" = some (.ref kn)→m4 "end" = some (encE e)→GB H4 ⟨wl,nu,bk,hm,kn⟩ k3 nx3 hs3 k03→H4 bl = some (.list (bs3.map wO))→bl ∉ (GA.mk wl nu bk hm kn).all→(kn = ba∧i = 0∨kn ≠ ba∧0 < i∧H4 ba = some (.list (iL k03))) →
    ST ρ (l + 1) (wN (yR (zJ 31)) L qual (fa 31) code) ((inB ((xD (zJ 31)).drop 1)).drop 1) H4 m4 (onN fun H' m'=>INI0 k wl nu bk hm many room tZ ba bl (i + 1) H' m'):=by
   intro kn H4 m4 d1 d2 d3 d4 d5 d6 d7 g4 d8 d9 d10
   refine ST.c0 ?_
   intro Qs Qc
   refine S1.name (xQ ?_)
   lk
   intro ra hra
   have hra':=g4.nz hra
   have hrb:ra ≠ bl:=fun e=>by rw [e,d8] at hra;cases hra
   have G5:GR (upd H4 ra (.list [])) ⟨wl,nu,bk,hm,kn⟩ ra k3 nx3 hs3 k03 k03 []:=⟨g4.other hra',by rw [zC];rfl,hra',fun i r h=>by simp at h,by simp⟩
   refine sN0 ?_
   intro Qs Qc
   refine xU X (Prog.min X) ?_
   lk
   refine zO X 22 ?_
   lk
   refine wF X (zy 1 1 0x1141e21540192150 rfl hl) G5.gb (zy 7 6 0x11e2f1c1c00a271041840ab27a1ac15051e25062291e250820611703e8316081150 rfl hr hk he c7 hil hbll) (by decide) fun H6 v6 g6 s6 h60 h61=>?_
   refine xW.add ?_
   lk
   obtain ⟨wn,hwn,hw1,hw2⟩:∃ wn:Nat,(if (room3:Int) < 1 + v6 then (room3:Int) else 1 + v6) = wn∧wn ≤ room3∧wn ≤ 4:=by
    split
    ·exact ⟨room3,rfl,ω76,by exact zw 1 1 0 3 0x1011641150010111252044110104010013 rfl h60 h61 ‹_›⟩
    ·exact ⟨(1 + v6).toNat,zw 0 1 1 2 0x1105101007011001081100070052001011125411010401001301011122 rfl h60 h61,by exact zw 1 1 1 3 0x1100611000180560010111252046411010401001301011122 rfl h60 h61 ‹_›,zw 0 1 1 2 0x1100008110017041150411010401001301011122 rfl h60 h61⟩
   refine zE.min ?_
   rw [hwn]
   have G6:=G5.step g6 (s6.w) (Ag _)
   refine ST.c0 ?_
   intro Qs Qc
   refine yB (INI1 wl nu bk hm ba bl k3 nx3 k03 room3 e kn ra H6 wn) ?_
   refine yW X (Prog.range X) ?_
   lk
   refine xP ?_
   refine ⟨_,yM.rng (vC (by decide) (by decide) (zy 1 1 0x1045203e83140441150 rfl hw2) (zy 1 1 0x114271041520441150 rfl hw2)),⟨_,_,_,_,_,G6,fun c hc=>.inl hc,(wM 85588056628012352 rfl),ω76,(wM 20895843242576 rfl),by simp,fun U h=>h,.refl,d1,d2,d3,d4,d5,d6,d7,rfl,rfl⟩,?_,?_⟩
   ·rintro j x H7 m7 hx pz
    refine sealG ?_
    intro Gs
    obtain ⟨k7,nx7,hs7,ks7,rs7,g7,kd7,f1,f2,f3,f4,f5,f6,d1,d2,d3,d4,d5,d6,d7,d8,d9⟩:=pz
    have hj:j < wn:=by have:=(Bc.mp hx).1;simpa [wC] using this
    refine AS.name ?_
    refine sX ?_
    refine zO X 29 ?_
    lk
    refine item_ok X (zy 1 1 0x1141b21540192150 rfl hl) g7 kd7 (zy 10 9 0x11e2f1c1c001e2f11e2fd2710411e2d30ce1e1e250842d09c0ab27a1ac15051e25062291e250820611703e8316081150 rfl hr hk he c7 hil hbll hw1 f1 hj) (zy 11 10 0x101311011313e3e83131e30df1f315082e09d07b0ca2b2a63150522931508205117081160a115051110 rfl hm1 hm2 hr hro c8 hro1 hro2 hw1 f3 hj) (zy 3 3 0x141463e83141630571741506041150 rfl hw2 f4 hj) fun H8 k8 nx8 hs8 ks8 rs8 g8 kd8 b1 b2 b3 b4 b5 b6 b7 b8=>?_
    refine ST.nil ?_
    exact ⟨_,_,_,_,_,g8,kd8,zy 4 3 0x11016741e250642801e2538085071e25064250 rfl f1 b1 b2,zy 3 3 0x11106750316370760650 rfl f2 b3 b4,zy 4 3 0x110167431506280315380850731506250 rfl f3 b3 b4,zy 3 2 0x1115644150704153706415050 rfl f4 b5,fun x hx=>b7 _ (f5 _ hx),f6.trans b8,d1,d2,d3,d4,d5,d6,d7,d8,d9⟩
   ·rintro H7 m7 ⟨k7,nx7,hs7,ks7,rs7,g7,kd7,f1,f2,f3,f4,f5,f6,h1,h2,h3,h4,h5,h6,h7,h8,h9⟩
    have hwl:(wC 0 (wn:Int)).length = wn:=by simp [wC]
    rw [hwl] at f1 f3 f4
    refine sN0 ?_
    intro Qs Qc
    lk
    refine xW.subt ?_
    refine sN0 ?_
    intro Qs Qc
    refine zO X 30 ?_
    lk
    refine end_ok X (zy 1 1 0x1141b21540192150 rfl hl) g7 kd7 (f5 _ c3) (ω203 hm1 hm2 hr hk he hro c7 c8 hil hro1 hro2 hbll hw1 f1 f3 hwl) (zy 11 10 0x1013110113100f3e83141e30df2d315082e09d07b0ca2b2a63150522931508205117081160a115051110 rfl hm1 hm2 hr hro c8 hro1 hro2 hw1 f3 hwl) (zy 3 3 0x1410073e83141630572541506041150 rfl hw2 f4 hwl) e fun H8 k8 nx8 hs8 ks8 rs8 c8' v8 g8 kd8 b1 b2 b3 b4 b5 b6 b7 b8 b9 b10 b11=>?_
    have ga:H8 bl = some (.list (bs3.map wO)):=by
     have z:bl ∉ ra :: (GA.mk wl nu bk hm kn).all:=fun h=>by
      rcases Be.mp h with h | h
      ·exact hrb h.symm
      ·exact d9 h
     rw [b7 _ z,f6 _ z,s6 _ (fun h=>z (Dh _ (by simp [GA.all] at h ⊢;rcases h with h | h <;> simp [h]))),zB (Ne.symm hrb)]
     exact d8
    refine ST.take (x:="rows") (show wA (wA m7 "room" _) "last" _ "rows" = _ from h8) (wH.list g8.rows) ?_
    have gb':del H8 ra bl = some (.list (bs3.map wO)):=by rw [zR (Ne.symm hrb)];exact ga
    refine ST.c0 ?_
    intro Qs Qc
    refine zV (EX.append ?_)
    refine xH ?_
    refine ⟨⟨_,gb'⟩,?_⟩
    lk
    refine zE.append gb' (by rw [Cp,Cu];exact zy 3 3 0x1111071000000717067256161150 rfl he hil hbll) ?_
    refine ST.nil ?_
    have hB:BLK k03 nx8 ⟨rs8,e,c8',v8⟩:=⟨g8.rok,b8,b9,b10,b11,by have:=b5;dsimp only;exact zy 4 4 0x1410018642180416380572541506041150 rfl hw2 f4 hwl b5⟩
    have hE:(bs3 ++ [(⟨rs8,e,c8',v8⟩:yF)]).map (fun p=>p.e) = tZ.take (i + 1):=by rw [Bt,c4,Cj,hei];rfl
    have hG:GB (upd (del H8 ra) bl (.list (bs3.map wO ++ [.tup [.lst (rs8.map xG),encL (yS c8' v8 e)]]))) ⟨wl,nu,bk,hm,kn⟩ k8 nx8 hs8 ks8:=(g8.gb.same (H':=del H8 ra) fun a ha=>zR fun h=>g8.rnot (h ▸ ha)).other d9
    have hcast:((room3:Int) - wn) = ((room3 - wn:Nat):Int):=by exact zw 3 0 1 2 0x100100091010008011001009110000800820520620305572650560 rfl hw1 hwl
    rcases d10 with ⟨rfl,hi0⟩ | ⟨hne,hi0,hba4⟩
    ·have hb3:bs3 = []:=List.length_eq_zero_iff.mp (hbll.trans hi0)
     subst hb3
     have hk03:k03 = uH many:=c2
     refine ⟨k8,nx8,hs8,ks8,[⟨rs8,e,c8',v8⟩],room3 - wn,hG,by rw [zC];rfl,⟨?_,?_,by simp⟩,b6 _ (f5 _ c3),hE,zy 2 2 0x1100665400152651 rfl hil hi0,ω209 hro c6 hro1 hro2 f2 b3 b4,zw 9 0 1 7 0x111000101e2f00d194c15081e250722e1e250d200192e20b20620305a1a3d0da0bc2b1e250542a09c15081e25072261e250520b60 rfl c7 f1 hwl b1 b2 hcast hi0,ω210 c8 hro1 f3 hwl b4 hcast,h1,h2,?_,h4,h5⟩
     ·rw [← hk03];exact hB
     ·rw [← hk03];exact kd8
     ·rw [← hcast];rfl
    ·refine ⟨k8,nx8,hs8,k03,bs3 ++ [⟨rs8,e,c8',v8⟩],room3 - wn,?_,by rw [zC];simp [wO],?_,c3,hE,zy 3 2 76568225606215249 rfl hil hbll,ω209 hro c6 hro1 hro2 f2 b3 b4,zw 10 0 1 7 0x11001000101e2fd194c15081e250722f1e250e20f20c20620305a1b3e0eb0cd2c1e250542b09a29c15081e25072261e250520c60 rfl c7 hbll f1 hwl b1 b2 hcast,ω210 c8 hro1 f3 hwl b4 hcast,h1,h2,?_,h4,h5⟩
     ·refine ⟨hG.well,hG.book,hG.homes,?_,hnd,hG.hsz,by have:=g3.ksz;exact zy 8 7 0x100001101bbc09c08a2b0ba0a905608726251150 rfl hro hro1 hro2 f2 b3 b4 this,g3.k0,fun c hc=>⟨(g3.kin c hc).1,by have:=(g3.kin c hc).2;exact zw 3 1 0 3 0x1111672001045200104760650 rfl f2 b3 this⟩,hG.kb,hG.nb⟩
      have z0:ba ≠ bl:=fun h=>hbl' (h ▸ .tail _ (.tail _ (.tail _ (.tail _ (.head _)))))
      have z1:ba ≠ ra:=fun h=>by rw [← h,hba4] at hra;cases hra
      have z:ba ∉ ra :: (GA.mk wl nu bk hm kn).all:=fun h=>by
       simp only [GA.all,Be,Dk,Dl] at h
       rcases h with h | h | h | h | h | h
       ·exact z1 h
       ·exact n1 h
       ·exact n2 h
       ·exact n3 h
       ·exact n4 h
       ·exact hne h.symm
      show upd (del H8 ra) bl _ ba = _
      rw [zB z0,zR z1,b7 _ z,f6 _ z,s6 _ (fun h=>by simp at h;rcases h with h | h;exact n1 h;exact n2 h),zB z1]
      exact hba4
     ·cases bs3 with
      | nil=>simp at hbll;exact (zy 1 2 282958083805201 rfl hi0 hbll).elim
      | cons b0 rest=>
       refine ⟨c2.1.mono (ω22 f2 b3),c2.2.1,fun b hb=>?_⟩
       rcases Cx.mp hb with h | h
       ·exact (c2.2.2 b h).mono (ω22 f2 b3)
       ·rw [Bf.mp h];exact hB
     ·rw [← hcast];rfl
  refine ST.c0 ?_
  intro Qs Qc
  refine S1.name (uO (zH ?_))
  lk
  refine wY ?_
  by_cases hi0:i = 0
  ·rw [Dc (by exact zy 2 2 0x10010710000700162050162652 rfl hbll hi0)]
   lk
   refine (tail ba H3 (wA (wA (wA m3 "at" (.int i)) "end" (encE e)) "known" (.ref ba)) m1 m2 m3' m4 m5 rfl rfl g3 c1 hnbl (.inl ⟨rfl,hi0⟩)).mono fun af H' m' h=>?_
   cases af <;> first | exact h | exact h.elim
  ·rw [Dj (by exact zy 2 2 0x100017130016205601626652 rfl hbll hi0)]
   refine yW X (Prog.list X) ?_
   lk
   have hk3:=g3.ksz
   have hn3:=g3.nb
   refine vK g3.known g3.kl (.inr fun kn hkn=>?_)
   have hkn':=g3.nz hkn
   have hknb:kn ≠ bl:=fun e=>by rw [e,c1] at hkn;cases hkn
   have hnn:kn ≠ ba:=fun h=>hkn' (h ▸ .tail _ (.tail _ (.tail _ (.tail _ (.head _)))))
   simp only [GA.all,Be,Dk,Dl,not_or] at hkn'
   obtain ⟨q1,q2,q3,q4,q5⟩:=hkn'
   have hbl2:bl ∉ (GA.mk wl nu bk hm kn).all:=fun h=>by
    simp only [GA.all,Be,Dk,Dl] at h
    rcases h with h | h | h | h | h
    ·exact hnbl (h ▸ .head _)
    ·exact hnbl (h ▸ .tail _ (.head _))
    ·exact hnbl (h ▸ .tail _ (.tail _ (.head _)))
    ·exact hnbl (h ▸ .tail _ (.tail _ (.tail _ (.head _))))
    ·exact hknb h.symm
   have g4:GB (upd H3 kn (.list (iL k03))) ⟨wl,nu,bk,hm,kn⟩ k3 nx3 hs3 k03:=by
    obtain ⟨ns,p,e1,e2,e3⟩:=g3.well.ex
    refine ⟨⟨g3.well.ne,ns,p,by rw [zB (Ne.symm q1)];exact e1,by rw [zB (Ne.symm q2)];exact e2,e3⟩,by rw [zB (Ne.symm q3)];exact g3.book,by rw [zB (Ne.symm q4)];exact g3.homes,zC,?_,g3.hsz,g3.ksz,g3.k0,g3.kin,g3.kb,g3.nb⟩
    simp only [Bl,Be,Dk,Dl,not_or,not_false_eq_true,List.nodup_nil,and_true] at nd
    simp only [GA.all,Bl,Be,Dk,Dl,not_or,not_false_eq_true,List.nodup_nil,and_true]
    exact ⟨⟨nd.1.1,nd.1.2.1,nd.1.2.2,Ne.symm q1⟩,⟨nd.2.1.1,nd.2.1.2,Ne.symm q2⟩,⟨nd.2.2,Ne.symm q3⟩,Ne.symm q4⟩
   refine (tail kn _ (wA (wA (wA m3 "at" (.int i)) "end" (encE e)) "known" (.ref kn)) m1 m2 m3' m4 m5 rfl rfl g4 (by rw [zB (Ne.symm hknb)];exact c1) hbl2 (.inr ⟨hnn,zy 2 2 0x10016130601101626652 rfl hbll hi0,by rw [zB (Ne.symm hnn)];exact g3.known⟩)).mono fun af H' m' h=>?_
   cases af <;> first | exact h | exact h.elim
 ·rintro H3 m3 ⟨k3,nx3,hs3,k03,bs3,room3,g3,c1,c2,c3,c4,c5,c6,c7,c8,m1,m2,m3',m4,m5⟩
  rw [Cp] at c4 c7 c8
  rw [Dq] at c4 c8
  refine ST.take (x:="blocks") m5 (wH.list c1) ?_
  refine sR ?_
  lk
  have hnb:∀ a∈(GA.mk wl nu bk hm ba).all,del H3 bl a = H3 a:=fun a ha=>zR fun h=>hbl' (h ▸ ha)
  have g4:=g3.same hnb
  exact q _ k3 nx3 bs3 k03 g4.well g4.book (zy 5 3 0x11e2fc163e8393706c15051e25092281e2507206116081150 rfl hr he c7) c2 c6 (zy 5 5 0x10131182b2180763150522931508205117081160a115051110 rfl hm1 hm2 hr hro c8) c4
end
end
section
noncomputable def KEPT:List Int:=[9,18,19,20,21,22,23,24,25,26,27]
noncomputable def CST (K:Frag) (base:Heap) (x:Str) (av:AV):Prop:=∃ v,oX K x v∧∀ ρ,xM ρ base (fun _=>False) av v
structure Prog2 (K:Frag) (base:Heap) (fa:Nat→Addr):Prop extends Prog K base fa where
 shapes:CST K base "_law_SHAPES" (.lst (vT.map fun es=>.lst (es.map encE)))
 kcalls:CST K base "_law_CALLS" (.tup [.str "call",.str "callreg"])
 calls:CST K base "CALLS" (.tup [.str "call",.str "callreg"])
theorem EX.cst {l:Nat} {env:Env} {H:zA} {m:zN} {Q:AV→zA→Prop} (S:SF K ρ.base) {x:Str} {pos:Pos} {av:AV} (h:CST K ρ.base x av) (hk:env.kindOf x = some .globalImplicit) (hd:(x == ("__debug__":Str)) = false) (q:Q av H):EX ρ l env (.Name x pos) H m Q:=by
 refine sealG ?_
 intro Gs
 obtain ⟨v,hg,hc⟩:=h
 exact tQ S hg hk hd (fun P H s g=>(hc ρ).mono fun a o e _=>⟨(g.base a o e).1,fun h=>h.elim (fun h=>h (g.base a o e).2.1) (g.base a o e).2.2⟩) q
section
variable {l:Nat} {H:zA} {Q:AV→zA→Prop} {k:Nat}
theorem kept_ok (X:Prog2 K ρ.base fa) (hl:l ≤ 28) (q:Q (.lst (iL KEPT)) H):zE ρ l (.ref (fa 20)) [] H Q:=by
 refine zE.fn X.S (ω83 hl) (X.fn 20 (by decide)).2 rfl (by decide) (fun L qual code hc=>?_) (by intro x hx;left;revert x hx;decide)
 refine sR ?_
 refine EX.lst ?_
 lk
 exact q
theorem pick_at {α:Type} {xs:List α} {v:Int} (h0:0 ≤ v) (h1:v < xs.length):∃ x,xs[v.toNat]? = some x∧x∈xs:=⟨xs[v.toNat]'(nB h0 h1),Ci _,Cr _⟩
theorem first_at {c:Int}:∀ {ps:List Int},c∈ps→∃ j:Nat,ps[j]? = some c∧∀ i,i < j→ps[i]? ≠ some c
 | x :: ps,h=>by
  by_cases e:x = c
  ·exact ⟨0,by simp [e],fun i h=>absurd h (Nat.not_lt_zero i)⟩
  ·refine sealG ?_
   intro Gs
   obtain ⟨j,h1,h2⟩:=first_at ((Be.mp h).resolve_left (Ne.symm e))
   exact ⟨j + 1,by simpa using h1,fun i hi=>by
    cases i with
    | zero=>simp [e]
    | succ i=>simpa using h2 i (zy 2 1 1187106932033 rfl hi)⟩
inductive JNJ0 (H8:zA) (seed:Int) (i:Nat) (ys:List AV) (H':zA) (m':zN):Prop
 | mk:H' = H8→m' "seed" = some (.int seed)→ys.length = i→JNJ0 H8 seed i ys H' m'
theorem program_ok (X2:Prog2 K ρ.base fa) (hl:l ≤ 24) {wl nu:Addr} {many_of:Nat} (W:Well H wl nu k) (hk:k ≤ 100) (hmo:many_of ≤ 100)
  (q:∀ H' k' (nx many:Nat) bs k0 ps temps saved av,Well H' wl nu k'→k' ≤ k + 1100→BS many nx k0 bs→many ≤ nx→nx ≤ 43→1 ≤ many→many ≤ 10→bs.map (fun p=>p.e)∈vT→(∀ c,c∈ps↔0 ≤ c∧c < (many:Int))→ps.length = many →
   temps.Nodup→(∀ x∈temps,x = 28∨x = 29∨x = 30∨x = 31)→saved.Nodup→(∀ x∈saved,x∈KEPT)→Q (.tup [.lst (bs.map wO),.lst (iL ps),av,.lst (iL temps),.lst (iL saved),.int nx]) H') :
  zE ρ l (.ref (fa 32)) [.ref wl,.int many_of] H Q:=by
 have X:=X2.toProg
 refine zE.fn X.S (ω216 hl) (X.fn 32 (by decide)).2 rfl (by decide) (fun L qual code hc=>?_) (by intro x hx;left;revert x hx;decide)
 refine sN ?_
 intro Qc
 refine EX.sub (EX.cst X.S X2.shapes (by rfl) (by rfl) ?_) (by rfl)
 refine zO X 22 ?_
 lk
 refine xZ X (oC hl) W (zy 1 1 0x11427104150642150 rfl hk) (by decide) fun H1 v1 W1 s1 a1 b1=>?_
 refine sealG ?_
 intro Gs
 obtain ⟨es,hes,hmem⟩:=pick_at (xs:=vT) a1 b1
 refine zY.list (show yJ _ (.lst _) _ from rfl) a1 (by decide) (show (vT.map fun es=>AV.lst (es.map encE))[v1.toNat]? = _ from by rw [Bg,hes];rfl) ?_
 refine sN ?_
 intro Qc
 lk
 refine zO X 22 ?_
 lk
 refine xZ X (oC hl) W1 (zy 1 1 0x114271041540642150 rfl hk) (by decide) fun H2 v2 W2 s2 a2 b2=>?_
 obtain ⟨many,hmany,hm1,hm2⟩:∃ many:Nat,([AV.int 2,.int 1,.int 3,.int 4,.int 2,.int 3,.int 9,.int 10]:List AV)[v2.toNat]? = some (.int (many:Nat))∧1 ≤ many∧many ≤ 10:=by
  have:v2 = 0∨v2 = 1∨v2 = 2∨v2 = 3∨v2 = 4∨v2 = 5∨v2 = 6∨v2 = 7:=int_cases (n:=8) (P:=fun v2=>v2 = 0∨v2 = 1∨v2 = 2∨v2 = 3∨v2 = 4∨v2 = 5∨v2 = 6∨v2 = 7) (by decide) a2 b2
  refine sealG ?_
  intro Gs
  rcases this with rfl | rfl | rfl | rfl | rfl | rfl | rfl | rfl
  ·exact ⟨2,rfl,by decide,by decide⟩
  ·exact ⟨1,rfl,by decide,by decide⟩
  ·exact ⟨3,rfl,by decide,by decide⟩
  ·exact ⟨4,rfl,by decide,by decide⟩
  ·exact ⟨2,rfl,by decide,by decide⟩
  ·exact ⟨3,rfl,by decide,by decide⟩
  ·exact ⟨9,rfl,by decide,by decide⟩
  ·exact ⟨10,rfl,by decide,by decide⟩
 refine zY.list (show yJ _ (.lst _) _ from rfl) a2 (pC rfl) hmany ?_
 refine sN ?_
 intro Qc
 refine pY ?_
 lk
 refine pT.no (pT.ex ?_)
 lk
 refine zO X 22 ?_
 lk
 refine xZ X (oC hl) W2 (zy 1 1 0x1142710415440642150 rfl hk) (by decide) fun H3 v3 W3 s3 a3 b3=>?_
 obtain ⟨n3,hn3⟩:∃ n:Nat,([AV.int 2,.int 1,.int 0,.int 3,.int 4]:List AV)[v3.toNat]? = some (.int (n:Nat)):=by
  have:v3 = 0∨v3 = 1∨v3 = 2∨v3 = 3∨v3 = 4:=by exact ω130 a3 b3
  refine sealG ?_
  intro Gs
  rcases this with rfl | rfl | rfl | rfl | rfl
  ·exact ⟨2,rfl⟩
  ·exact ⟨1,rfl⟩
  ·exact ⟨0,rfl⟩
  ·exact ⟨3,rfl⟩
  ·exact ⟨4,rfl⟩
 refine zY.list (show yJ _ (.lst _) _ from rfl) a3 (pC rfl) hn3 ⟨_,rfl,pT.no ⟨by nofun,_,_,(show yJ _ (.lst _) _ from rfl),pC rfl,pS n3,.inl ?_⟩⟩
 refine sN ?_
 intro Qc
 refine zO X 22 ?_
 lk
 refine xZ X (oC hl) W3 (zy 1 1 0x11427104154440642150 rfl hk) (by decide) fun H4 v4 W4 s4 a4 b4=>?_
 refine sN ?_
 intro Qc
 refine pY ?_
 refine zO X 20 ?_
 refine yO.nil (kept_ok X2 (ω222 hl) ?_)
 refine pT.ex ?_
 lk
 refine ⟨_,rfl,pT.ex ?_⟩
 lk
 refine zO X 22 ?_
 lk
 refine xZ X (oC hl) W4 (zy 1 1 0x114271041544440642150 rfl hk) (by decide) fun H5 v5 W5 s5 a5 b5=>?_
 obtain ⟨n5,hn5,hn5'⟩:∃ n:Nat,([AV.int 1,.int 0,.int 2,.int 3,.int 4,.int 6]:List AV)[v5.toNat]? = some (.int (n:Nat))∧n ≤ 6:=by
  have:v5 = 0∨v5 = 1∨v5 = 2∨v5 = 3∨v5 = 4∨v5 = 5:=by exact zw 0 1 0 2 0x10151100601100610110061101100611101100611110110511111051101054110105831101058211010581110105801010586110104010013 rfl a5 b5
  refine sealG ?_
  intro Gs
  rcases this with rfl | rfl | rfl | rfl | rfl | rfl
  ·exact ⟨1,rfl,by decide⟩
  ·exact ⟨0,rfl,by decide⟩
  ·exact ⟨2,rfl,by decide⟩
  ·exact ⟨3,rfl,by decide⟩
  ·exact ⟨4,rfl,by decide⟩
  ·exact ⟨6,rfl,by decide⟩
 obtain ⟨n4,rfl⟩:∃ n:Nat,v4 = n:=⟨v4.toNat,zw 0 1 1 2 0x10010081010070110010811000700520010561101040100130102 rfl a4 b4⟩
 refine zY.list (show yJ _ (.lst _) _ from rfl) a5 (pC rfl) hn5 (xW.add ⟨_,rfl,pT.no ⟨by nofun,_,_,(show yJ _ (.lst _) _ from rfl),by rw [zP];decide,Pick.run n4 (n4 + n5) (by rw [zP];have:KEPT.length = 11:=rfl;exact zy 3 4 0x110101875620b1172611620462001361150 rfl hn5' a4 b4 this) (zy 2 1 286243028341072 rfl hn5'),.inl ?_⟩⟩)
 refine sN ?_
 intro Qc
 refine zO X 22 ?_
 lk
 refine xZ X (oC hl) W5 (zy 1 1 0x1142710415444440642150 rfl hk) (zy 1 2 0x1105520014a115051110 rfl hm1 hm2) fun H6 v6 W6 s6 a6 b6=>?_
 obtain ⟨n6,rfl⟩:∃ n:Nat,v6 = n:=⟨v6.toNat,zw 0 1 1 1 0x100107101060110017110060052001050100130102 rfl a6⟩
 refine sN ?_
 intro Qc
 lk
 refine yW X (Prog.list X) ?_
 refine yO.cons ?_
 refine yW X (Prog.range X) ?_
 lk
 refine sV ?_
 lk
 refine uP (vC (ω226 a6) (ω227 hm1 hm2 b6) (ω184 hm1 hm2) (ω185 hm1 hm2)) (qH (ω226 a6) (ω185 hm1 hm2)) (zy 2 1 0x11462052036205204 rfl b6) (.inl ?_)
 refine yW X (Prog.list X) ?_
 refine yO.cons ?_
 refine yW X (Prog.range X) ?_
 lk
 refine xP ?_
 lk
 refine uP (vC (by decide) (by decide) (ω226 a6) (ω227 hm1 hm2 b6)) (qH (by decide) (ω227 hm1 hm2 b6)) (zy 1 1 73273654222389267 rfl a6) (.inl ?_)
 have hps:wC (n6:Int) many ++ wC 0 n6 = iL (((List.range (many - n6)).map fun (i:Nat)=>(n6:Int) + i) ++ uH n6):=by
  rw [rng_iota];unfold wC iL;rw [Bt,Bj,show ((many:Int) - n6).toNat = many - n6 by exact zw 2 0 2 1 0x1141114110010800114111410110080008726205204560520620302 rfl b6];rfl
 generalize hpsd:((List.range (many - n6)).map fun (i:Nat)=>(n6:Int) + i) ++ uH n6 = ps at hps
 have hpm:∀ c,c∈ps↔0 ≤ c∧c < (many:Int):=fun c=>by
  rw [← hpsd,Cx,sG,Bm]
  constructor
  ·rintro (⟨i,hi,rfl⟩ | h)
   ·have:=Cg.mp hi;exact zw 3 0 1 5 0x100010811000001a010000081052072062024720620201378715206204620013a115051110650 rfl hm1 hm2 a6 b6 this
   ·exact zw 2 1 0 2 0x1101610106062001040100137520010401001376205204 rfl b6 h
  ·intro h
   by_cases hc:c < n6
   ·exact .inr ⟨h.1,hc⟩
   ·exact .inl ⟨(c - n6).toNat,Cg.mpr (zw 2 1 2 2 0x11006110001100b01100611001001a00871620010401001376205204560520010302 rfl b6 h),zw 1 1 1 1 0x11001711006010010710106000106205202552001046520010302 rfl hc⟩
 have hpl:ps.length = many:=by rw [← hpsd];simp [uH];exact zw 2 0 1 1 0x1100171100601141010600657226205204560 rfl b6
 have hp0:∃ j:Nat,ps[j]? = some 0∧∀ i,i < j→ps[i]? ≠ some 0:=by
  have h0:(0:Int)∈ps:=(hpm 0).mpr (zy 2 3 0x1100071000070520014010137562a115051110 rfl hm1 hm2 hpl)
  exact first_at h0
 refine wL (show yJ _ (.lst _) _ from rfl) (show yJ _ (.lst _) _ from rfl) (by simp [wC,Cu];exact zw 3 0 1 4 0x110001100b11001000a010000007168205725206204a115051110650 rfl hm1 hm2 b6 hpl) (.inl ?_)
 rw [hps]
 refine sN ?_
 intro Qc
 lk
 refine zO X 22 ?_
 lk
 refine xZ X (oC hl) W6 (zy 1 1 0x11427104154444440642150 rfl hk) (by decide) fun H7 v7 W7 s7 a7 b7=>?_
 obtain ⟨r7,hr7⟩:∃ n:Int,([AV.int 2,.int 1,.int 3]:List AV)[v7.toNat]? = some (.int n):=by
  have:v7 = 0∨v7 = 1∨v7 = 2:=by exact zw 0 1 0 2 0x10151100601100610110511021101051110105801010583110104010013 rfl a7 b7
  refine sealG ?_
  intro Gs
  rcases this with rfl | rfl | rfl <;> exact ⟨_,rfl⟩
 refine zY.list (show yJ _ (.lst _) _ from rfl) a7 (pC rfl) hr7 ?_
 refine sN ?_
 intro Qc
 refine zO X 22 ?_
 lk
 refine xZ X (oC hl) W7 (zy 1 1 0x114271041544444440642150 rfl hk) (by decide) fun H8 seed W8 s8 a8 b8=>?_
 refine ST.c ?_
 intro Qc
 refine tF X.S (cl:=[("seed",L + 1)]) ["seed"] (.of (by rfl) (by rfl) (by rfl) (by rfl)) (.inl (by rfl)) ?_
 refine yW X (Prog.range X) ?_
 lk
 refine xP ⟨_,yM.rng (vC (by decide) (by decide) (zy 2 3 0x1000075203e831404562a115051110 rfl hm1 hm2 hpl) (zy 2 3 0x1010072710415204562a115051110 rfl hm1 hm2 hpl)),JNJ0 H8 seed,⟨rfl,rfl,rfl⟩,?_,?_⟩
 ·rintro L' i x ys H' m' hx ⟨rfl,hm,hyl⟩
  have hi:i < many:=by have:=(Bc.mp hx).1;simpa [wC] using this
  have hxi:x = .int (i:Int):=by rw [wC,Bg,List.getElem?_range (by exact zw 3 0 1 4 0x100001810100001a0871571562a11505111001520302 rfl hm1 hm2 hpl hi)] at hx;simpa using hx.symm
  subst hxi
  refine AS.name ?_
  refine (show EX _ _ _ _ _ _ _ from ?_)
  refine yY (yY (yY (EX.cell (by assumption) (by rfl) (by rfl) ?_)))
  lk
  refine qX (mul5n _ (Ah (Nat.le_of_lt hi) (Ah hm2 (Af rfl)))) ?_
  lk
  refine xW.add (qX (mul5n _ (n:=2 * i + 1) (Ah (zy 2 2 0x122514215215040a1160651 rfl hi hm2) (Af rfl))) ?_)
  lk
  refine qX (mul5n _ (Ah (Nat.le_of_lt hi) (Ah hm2 (Af rfl)))) (xW.add ?_)
  lk
  refine xW.mod (by decide) ?_
  exact ⟨by rw [Cu];exact zy 4 5 0x10100101a10000007170581872562a115051110 rfl hm1 hm2 hpl hyl hi,rfl,hm,by simp [hyl]⟩
 rintro ys H' m' pz
 refine sealG ?_
 intro Gs
 obtain ⟨rfl,hm,hyl⟩:=pz
 have hyl':ys.length = many:=by rw [hyl];simp [wC]
 refine .inr fun aa haa=>?_
 refine ST.c ?_
 intro Qc
 refine S1.sub ?_
 lk
 refine EX.index ?_
 refine yG ?_
 refine ⟨⟨_,rfl⟩,?_⟩
 lk
 refine sealG ?_
 intro Gs
 obtain ⟨j,hj1,hj2⟩:=hp0
 have hjl:j < ps.length:=(Bc.mp hj1).1
 refine zE.index (show yJ _ (.lst _) _ from rfl) (by rw [Cu];exact zy 4 5 0x101100000b10000007160572872562a115051110 rfl hm1 hm2 hpl hyl hyl') hj1 hj2 (wT.list zC (by rw [Cu];exact zy 4 5 0x101000010b10000007170572872562a115051110 rfl hm1 hm2 hpl hyl hyl') xO (zy 5 4 0x11000011a7209204591672872652 rfl hpl hyl hyl' hjl) ?_)
 refine sN ?_
 intro Qc
 refine EX.sdct X.S (PRS.cons ?_)
 lk
 refine PRS.cons ?_
 lk
 refine xR X.S (.inr fun hm hhm=>PRS.nil ⟨[("next",.int many),("homes",.ref hm)],rfl,(by show (["next","homes"]:List Str).Nodup;decide),by simp,fun bk hbk=>?_⟩)
 generalize hH9:upd (upd H' aa (.list ys)) aa _ = H9 at hhm hbk ⊢
 have hk9:∀ a o,H' a = some o→H9 a = some o:=fun a o e=>by
  have:a ≠ aa:=fun h=>by rw [h,haa] at e;cases e
  rw [← hH9,zB this,zB this];exact e
 refine sealG ?_
 intro Gs
 obtain ⟨ns,p,e1,e2,e3⟩:=W8.ex
 have w1:wl ≠ hm:=fun h=>by rw [← h,hk9 _ _ e1] at hhm;cases hhm
 have w2:nu ≠ hm:=fun h=>by rw [← h,hk9 _ _ e2] at hhm;cases hhm
 have w3:wl ≠ bk:=fun h=>by rw [← h,zB w1,hk9 _ _ e1] at hbk;cases hbk
 have w4:nu ≠ bk:=fun h=>by rw [← h,zB w2,hk9 _ _ e2] at hbk;cases hbk
 have w5:hm ≠ bk:=fun h=>by rw [← h,zC] at hbk;cases hbk
 have W9:Well (upd (upd H9 hm (.idict [])) bk (.sdict [("next",.int many),("homes",.ref hm)])) wl nu (k + 1 + 1 + 1 + 1 + 1 + 1 + 1 + 1):=⟨W8.ne,ns,p,by rw [zB w3,zB w1];exact hk9 _ _ e1,by rw [zB w4,zB w2];exact hk9 _ _ e2,e3⟩
 refine sN ?_
 intro Qc
 refine zO X 31 ?_
 lk
 refine xU X (Prog.min X) ?_
 lk
 refine zE.min ?_
 lk
 refine xW.div (by decide) (by decide) (xW.add ?_)
 lk
 obtain ⟨room,hroom,hr8⟩:∃ room:Nat,(3:Int) + (if (10:Int) < many_of then 10 else (many_of:Int)) / 2 = room∧room ≤ 8:=by
  split
  ·exact ⟨8,by decide,by decide⟩
  ·exact ⟨3 + many_of / 2,ω586,by exact zw 1 0 1 2 0x210017811631120520a11466421502154 rfl hmo ‹_›⟩
 rw [hroom]
 have hes2:es.length ≤ 6∧sD es ≤ 5:=by
  exact (show ∀ es∈vT,es.length ≤ 6∧sD es ≤ 5 by decide) es hmem
 refine blocks_ok X (zy 1 1 0x1141921540182150 rfl hl) W9 (by rw [zC]) (by rw [zB w5,zC]) (by simp only [Bl,Be,Dk,Dl,not_or,not_false_eq_true,List.nodup_nil,and_true];exact ⟨⟨W8.ne,w3,w1⟩,⟨w4,w2⟩,Ne.symm w5⟩) hm1 hm2 hr8 (zy 1 1 0x1143e8315444444440642150 rfl hk) es hes2.1 hes2.2 fun H' k' nx bs k0 W' hb' c1 c2 c3 c4 c5=>?_
 refine sR ?_
 refine EX.tup ?_
 lk
 refine zY.sdict hb' (by rfl) ?_
 lk
 have hT:([AV.int 28,AV.int 29,AV.int 30,AV.int 31]:List AV).take n3 = iL (([28,29,30,31]:List Int).take n3):=by rw [iL,List.map_take];rfl
 have hS:List.take (n4 + n5 - n4) (List.drop n4 (iL KEPT)) = iL (List.take (n4 + n5 - n4) (List.drop n4 KEPT)):=by rw [iL,iL,List.map_take,List.map_drop]
 rw [hT,hS]
 refine q H' k' nx many bs k0 ps _ _ _ W' (zy 2 1 0x11444c363503e83644444444350 rfl c1) c2 c3 c4 hm1 hm2 (by rw [c5];exact hmem) hpm hpl ?_ (fun x hx=>?_) ?_ fun x hx=>List.mem_of_mem_drop (Do hx)
 ·exact (show ([28,29,30,31]:List Int).Nodup by decide).sublist (List.take_sublist _ _)
 ·have:=Do hx;simpa using this
 ·exact (show KEPT.Nodup by decide).sublist ((List.take_sublist _ _).trans (List.drop_sublist _ _))
end
end
section
noncomputable def yN:End→List Nat
 | .on a=>[a]
 | .again a b=>[a,b]
 | .give=>[]
 | .fork a b=>[a,b]
 | .table a b d=>[a,b,d]
noncomputable def yD (b:yF):List (List xA):=b.rows.map (fun p=>p.terms) ++ [(yS b.c b.v b.e).terms]
inductive yK (bs:List yF):Nat→Nat→Int→Prop
 | use {i p:Nat} {b:yF} {ts:List xA} {c:Int}:bs[i]? = some b→(yD b)[p]? = some ts→((Str.ofString "r",c):xA)∈ts→yK bs i p c
 | step {i p:Nat} {b:yF} {r:rQ} {c:Int}:bs[i]? = some b→b.rows[p]? = some r→r.dst ≠ c→yK bs i (p + 1) c→yK bs i p c
 | jump {i n:Nat} {b:yF} {c:Int}:bs[i]? = some b→n∈yN b.e→yK bs n 0 c→yK bs i b.rows.length c
noncomputable def At (bs:List yF) (i p:Nat):Prop:=∃ b,bs[i]? = some b∧p ≤ b.rows.length
noncomputable def pts (bs:List yF):List (Nat×Nat):=(List.range bs.length).flatMap fun i=>(List.range ((bs[i]?.map (fun p=>p.rows.length)).getD 0 + 1)).map fun p=>(i,p)
theorem mem_pts {bs:List yF} {i p:Nat}:(i,p)∈pts bs↔At bs i p:=by
 unfold pts At
 rw [List.mem_flatMap]
 constructor
 ·rintro ⟨j,hj,h⟩
  rw [Bm] at h
  obtain ⟨q,hq,e⟩:=h
  cases e
  have hj:=Cg.mp hj
  have hq:=Cg.mp hq
  rw [Ci hj] at hq ⊢
  exact ⟨_,rfl,by simpa using Nat.lt_succ_iff.mp hq⟩
 ·rintro ⟨b,hb,hp⟩
  refine ⟨i,Cg.mpr (Bc.mp hb).1,Bm.mpr ⟨p,Cg.mpr ?_,rfl⟩⟩
  rw [hb];simp;exact ω236 hp
theorem flt_le {α:Type} (p q:α→Bool):∀ (xs:List α),(∀ x∈xs,q x = true→p x = true)→(xs.filter q).length ≤ (xs.filter p).length
 | [],_=>by simp
 | x :: xs,h=>by
  have ih:=flt_le p q xs fun y hy=>h y (Dh _ hy)
  have hx:=h x Db
  rw [Cb,Cb]
  cases hq:q x <;> cases hp:p x <;> simp_all <;> exact ω56 ih
theorem flt_lt {α:Type} (p q:α→Bool):∀ (xs:List α),(∀ x∈xs,q x = true→p x = true)→(∃ x∈xs,p x = true∧q x = false)→(xs.filter q).length < (xs.filter p).length
 | [],_,h=>by obtain ⟨x,h,U⟩:=h;simp at h
 | x :: xs,h,⟨y,hy,hp,hq⟩=>by
  have hx:=h x Db
  rw [Cb,Cb]
  rcases Be.mp hy with e | hy
  ·subst e
   have ih:=flt_le p q xs fun y hy=>h y (Dh _ hy)
   rw [Ab hp,Aa (by simp [hq])];simp;exact ω236 ih
  ·have ih:=flt_lt p q xs (fun y hy=>h y (Dh _ hy)) ⟨y,hy,hp,hq⟩
   cases hq:q x <;> cases hp:p x <;> simp_all <;> exact ω237 ih
theorem yH:∀ {N:Nat} {ns:List Int},ns.Nodup→(∀ k∈ns,0 ≤ k∧k < N)→ns.length ≤ N
 | 0,ns,_,h=>by
  cases ns with
  | nil=>simp
  | cons x xs=>have:=h x Db;exact zw 1 1 0 1 0x1140150012001040100137 rfl this
 | N + 1,ns,nd,h=>by
  have ih:=yH (N:=N) (nd.sublist (List.filter_sublist (p:=fun k=>decide (k ≠ (N:Int))))) fun k hk=>by
   have h1:=List.mem_filter.mp hk
   have h2:=h k h1.1
   have h3:k ≠ N:=by simpa using h1.2
   exact zw 1 1 0 2 0x1141001601105105200104010013752001056542001040100137 rfl h2 h3
  have key:∀ (ns:List Int),ns.Nodup→ns.length ≤ (ns.filter fun k=>decide (k ≠ (N:Int))).length + 1:=by
   intro ns nd
   induction ns with
   | nil=>simp
   | cons x xs ih=>
    have hx:=Bl.mp nd
    rw [Cb]
    by_cases e:x = N
    ·subst e
     rw [Aa (by simp),List.filter_eq_self.mpr]
     ·simp
     ·intro a ha;simp;intro q;subst q;exact hx.1 ha
    ·rw [Ab (by simpa using e)];have:=ih hx.2;simp only [Cn];exact zy 2 1 303895867843664 rfl this
  have:=key ns nd
  exact zy 3 2 76937531673216592 rfl ih this
theorem xJ (keys:List Nat) (f:Nat→AV) {i:Nat} (h:i∈keys):yE (keys.map fun (i:Nat)=>((i:Int),f i)) (i:Int) = some (f i):=by
 unfold yE
 induction keys with
 | nil=>simp at h
 | cons x xs ih=>
  rw [Ba,List.find?_cons]
  by_cases e:x = i
  ·subst e;simp
  ·have:((x:Int) = i) = False:=by simp;exact zy 2 1 0x10151140620520566526 rfl e
   simp only [this,decide_false]
   exact ih ((Be.mp h).resolve_left (Ne.symm e))
theorem qL {kvs:List (Int×AV)} {c:Int} {x:AV} (h:(yE kvs c).isSome = false):keep kvs c x = kvs ++ [(c,x)]:=by
 unfold keep
 rw [Aa]
 intro h'
 rw [Bp] at h'
 obtain ⟨kv,h1,h2⟩:=h'
 unfold yE at h
 rw [Option.isSome_map,List.find?_isSome.mpr ⟨kv,h1,h2⟩] at h
 cases h
end
section
structure BOK (bs:List yF) (nx:Nat):Prop where
 len:bs.length ≤ 6
 pos:0 < bs.length
 tgt:∀ (i:Nat) (b:yF),bs[i]? = some b→∀ n∈yN b.e,n < bs.length
 reach:∀ i,0 < i→i < bs.length→∃ (j:Nat) (b:yF),j < i∧bs[j]? = some b∧i∈yN b.e
 rsz:∀ b∈bs,b.rows.length ≤ 100
 row:∀ b∈bs,∀ r∈b.rows,r.op∈oW∧(r.dst = -1∨(0 ≤ r.dst∧r.dst < nx))
 terms:∀ b∈bs,∀ ts∈yD b,∀ t∈ts,(t.1 = "r"∧0 ≤ t.2∧t.2 < nx)∨t.1 = "k"
 tsz:∀ b∈bs,∀ ts∈yD b,ts.length ≤ 10
 v0:∀ b∈bs,0 ≤ b.v
 nxb:nx ≤ 43
section
variable {l:Nat} {H:zA} {Q:AV→zA→Prop} {k:Nat}
noncomputable def nL (ns:List Nat):List AV:=iL (ns.map fun (n:Nat)=>(n:Int))
set_option tactic.hygienic true in
theorem goals_ok (X:Prog K ρ.base fa) (hl:l ≤ 28) {c v:Int} {e:End} (q:Q (.lst (nL (yN e))) H):zE ρ l (.ref (fa 34)) [encL (yS c v e)] H Q:=by
 refine zE.fn X.S (ω83 hl) (X.fn 34 (by decide)).2 rfl (by decide) (fun L qual code hc=>?_) (by intro x hx;left;revert x hx;decide)
 cases e
 case on a=>
  refine ST.cons (zK (zH ?_));lk
  refine zY.tp rfl ?_
  lk
  refine yI.seq ?_
  refine sR ?_;refine EX.lst ?_
  lk
  refine zY.tp rfl ?_
  lk
  exact q
 case give=>
  iterate 3
   refine ST.cons (zK (zH ?_));lk
   refine zY.tp rfl ?_
   lk
   refine yI.seq ?_
   refine ST.nil ?_
  refine sR ?_;refine EX.lst ?_
  lk
  exact q
 case table a b d=>
  iterate 2
   refine ST.cons (zK (zH ?_));lk
   refine zY.tp rfl ?_
   lk
   refine yI.seq ?_
   refine ST.nil ?_
  refine ST.cons (zK (zH ?_));lk
  refine zY.tp rfl ?_
  lk
  refine yI.seq ?_
  refine sR ?_
  lk
  refine yW X (Prog.list X) ?_
  lk
  refine zY.tp rfl ?_
  lk
  refine zY.tp rfl ?_
  lk
  refine vK (show yJ _ (.lst _) _ from rfl) (pC rfl) (.inl ?_)
  lk
  refine zY.tp rfl ?_
  lk
  refine zY.tp rfl ?_
  lk
  exact wL (show yJ _ (.lst _) _ from rfl) (show yJ _ (.lst _) _ from rfl) (Af rfl) (.inl q)
 all_goals
  refine ST.cons (zK (zH ?_));lk
  refine zY.tp rfl ?_
  lk
  refine yI.seq ?_
  refine ST.nil ?_
  refine ST.cons (zK (zH ?_));lk
  refine zY.tp rfl ?_
  lk
  refine yI.seq ?_
  refine sR ?_
  refine EX.lst ?_
  lk
  refine zY.tp rfl ?_
  lk
  refine zY.tp rfl ?_
  lk
  refine zY.tp rfl ?_
  lk
  refine zY.tp rfl ?_
  lk
  exact q
structure MRK (H:zA) (bs:List yF) (D:Nat→Nat→Addr) (M:Nat→Nat→List Int):Prop where
 tab:∀ i p,At bs i p→H (D i p) = some (.idict ((M i p).map fun c=>(c,.bool true)))
 inj:∀ i p j q,At bs i p→At bs j q→D i p = D j q→i = j∧p = q
 nd:∀ i p,At bs i p→(M i p).Nodup∧∀ c∈M i p,0 ≤ c∧c < (50:Nat)
noncomputable def mH (bs:List yF) (M:Nat→Nat→List Int) (c:Int) (X:Nat→Nat→Prop):Prop:=∀ i b p,bs[i]? = some b→p ≤ b.rows.length→c∈M i p →
 (p = 0→∀ j bj,bs[j]? = some bj→i∈yN bj.e→c∈M j bj.rows.length∨X j bj.rows.length)∧(∀ q r,p = q + 1→b.rows[q]? = some r→r.dst ≠ c→c∈M i q∨X i q)
noncomputable def encA (bs:List yF) (keys:List Nat) (D:Nat→Nat→Addr):AV:=.idct (keys.map fun (i:Nat)=>(i:Int)) (keys.map fun i=>.lst ((List.range ((bs[i]?.map (fun p=>p.rows.length)).getD 0 + 1)).map fun p=>.ref (D i p)))
noncomputable def nS (keys:List Nat) (ah:Nat→List Nat):AV:=.idct (keys.map fun (i:Nat)=>(i:Int)) (keys.map fun i=>.lst (nL (ah i)))
theorem sI (H:zA) (keys:List Nat) (f:Nat→AV):uZ H (.idct (keys.map fun (i:Nat)=>(i:Int)) (keys.map f)) (keys.map fun (i:Nat)=>((i:Int),f i)):=by
 constructor <;> rw [Bj] <;> rfl
theorem At.lt {bs i p} (h:At bs i p):i < bs.length:=by obtain ⟨b,hb,U⟩:=h;exact (Bc.mp hb).1
theorem vQ {bs:List yF} {i:Nat} {b:yF} (h:bs[i]? = some b):(bs.map wO)[(i:Int).toNat]? = some (wO b):=by rw [Ce,Bg,h];rfl
noncomputable def Un (bs:List yF) (M:Nat→Nat→List Int) (c:Int):Nat:=((pts bs).filter fun x=>!decide (c∈M x.1 x.2)).length
noncomputable def mk1 (M:Nat→Nat→List Int) (c:Int) (i p:Nat):Nat→Nat→List Int:=fun j q=>if j = i∧q = p then M i p ++ [c] else M j q
theorem yT {M:Nat→Nat→List Int} {c d:Int} {i p j q:Nat}:d∈mk1 M c i p j q↔d∈M j q∨(j = i∧q = p∧d = c):=by
 unfold mk1
 split
 ·rename_i h;obtain ⟨rfl,rfl⟩:=h;simp
 ·rename_i h
  constructor
  ·exact .inl
  ·rintro (h' | ⟨a,b,U⟩)
   ·exact h'
   ·exact absurd ⟨a,b⟩ h
theorem Un_mk1 {bs M c i p} (h:At bs i p) (hc:c ∉ M i p):Un bs (mk1 M c i p) c < Un bs M c:=by
 refine flt_lt _ _ _ (fun x U h=>?_) ⟨(i,p),mem_pts.mpr h,by simpa using hc,?_⟩
 ·simp only [Bool.not_eq_true',decide_eq_false_iff_not,yT,not_or] at h ⊢;exact h.1
 ·simp only [Bool.not_eq_false',Bq,yT];simp
theorem MRK.add {bs D M c i p} (S:MRK H bs D M) (h:At bs i p) (hc:c ∉ M i p) (h0:0 ≤ c) (h1:c < (50:Nat)):MRK (upd H (D i p) (.idict (((M i p).map fun c=>(c,AV.bool true)) ++ [(c,.bool true)]))) bs D (mk1 M c i p):=by
 refine ⟨fun j q hj=>?_,S.inj,fun j q hj=>?_⟩
 ·by_cases e:j = i∧q = p
  ·obtain ⟨rfl,rfl⟩:=e;rw [zC];simp [mk1]
  ·rw [zB fun h'=>e (S.inj _ _ _ _ hj h h')];unfold mk1;rw [Aa e];exact S.tab j q hj
 ·unfold mk1
  split
  ·rename_i e;obtain ⟨rfl,rfl⟩:=e
   refine ⟨?_,fun d hd=>?_⟩
   ·rw [Di];exact ⟨(S.nd _ _ h).1,by simp,fun a ha b hb=>by rw [Bf.mp hb];exact fun e=>hc (e ▸ ha)⟩
   ·rcases Cx.mp hd with h' | h'
    ·exact (S.nd _ _ h).2 _ h'
    ·rw [Bf.mp h'];exact ⟨h0,h1⟩
  ·exact S.nd j q hj
theorem vP {f:Nat→AV} {n p:Nat} (h:p < n):((List.range n).map f)[(p:Int).toNat]? = some (f p):=by
 rw [Ce,Bg,List.getElem?_range h];rfl
theorem At.rng {bs i p} (h:At bs i p):p < (bs[i]?.map (fun p=>p.rows.length)).getD 0 + 1:=by
 obtain ⟨b,hb,hp⟩:=h;rw [hb];simp;exact ω236 hp
theorem BOK.at_le {bs nx i p} (B:BOK bs nx) (h:At bs i p):p ≤ 100∧(bs[i]?.map (fun p=>p.rows.length)).getD 0 ≤ 100:=by
 obtain ⟨b,hb,hp⟩:=h
 have:=B.rsz b (Dr hb)
 rw [hb];simp;exact zy 2 2 0x1015111506421606421507642160650 rfl hp this
theorem wQ {bs:List yF} {nx:Nat} (B:BOK bs nx) (keys:List Nat):keys.Nodup→(∀ i∈keys,i < bs.length)→keys.length ≤ 6:=fun nd h=>by
 have:=yH (N:=bs.length) (ns:=keys.map fun (i:Nat)=>(i:Int)) (by rw [List.Nodup,List.pairwise_map];exact nd.imp fun h e=>h (Int.ofNat.inj e)) (fun k hk=>by
  obtain ⟨i,hi,rfl⟩:=Bm.mp hk
  have:=h i hi;exact ω180 this)
 rw [Cp] at this
 exact Ah this B.len
inductive INK0 (H:zA) (bs:List yF) (keys:List Nat) (ah:Nat→List Nat) (D:Nat→Nat→Addr) (M:Nat→Nat→List Int) (c:Int) (i0 p0:Nat) (wa:Addr) (encW:List (Nat×Nat)→List AV) (n:Nat) (H':zA) (m':zN):Prop
 | mk:∀ W M',H' wa = some (.list (encW W))→MRK H' bs D M'→(∀ a,a ≠ wa→(∀ i p,At bs i p→a ≠ D i p)→H' a = H a)→(∀ i p d,d ≠ c→(d∈M' i p↔d∈M i p))→(∀ i p,c∈M i p→c∈M' i p)→(∀ i p,At bs i p→c∈M' i p→yK bs i p c)→(∀ x∈W,At bs x.1 x.2∧yK bs x.1 x.2 c)→mH bs M' c (fun i p=>(i,p)∈W)→(c∈M' i0 p0∨(i0,p0)∈W)→n = 7 * Un bs M' c + W.length→W.length ≤ 7 + 6 * ((pts bs).length - Un bs M' c)→m' "blocks" = some (.lst (bs.map wO))→m' "ahead" = some (nS keys ah)→m' "alive" = some (encA bs keys D)→m' "cell" = some (.int c)→m' "waiting" = some (.ref wa)→INK0 H bs keys ah D M c i0 p0 wa encW n H' m'
inductive INK1 (H:zA) (bs:List yF) (keys:List Nat) (ah:Nat→List Nat) (D:Nat→Nat→Addr) (M:Nat→Nat→List Int) (c:Int) (i0 p0:Nat) (wa:Addr) (encW:List (Nat×Nat)→List AV) (M1:Nat→Nat→List Int) (W':List (Nat×Nat)) (n:Nat) (H':zA) (m':zN):Prop
 | mk:∀ M' i p,H' wa = some (.list (encW W'))→MRK H' bs D M'→(∀ a,a ≠ wa→(∀ i p,At bs i p→a ≠ D i p)→H' a = H a)→(∀ i p d,d ≠ c→(d∈M' i p↔d∈M i p))→(∀ i p,c∈M i p→c∈M' i p)→(∀ i p,At bs i p→c∈M' i p→yK bs i p c)→At bs i p→yK bs i p c→mH bs M' c (fun j q=>(j,q)∈W'∨(j = i∧q = p))→(c∈M' i0 p0∨(i0,p0)∈W'∨(i0 = i∧p0 = p))→n = Un bs M' c→Un bs M' c ≤ Un bs M1 c→m' "blocks" = some (.lst (bs.map wO))→m' "ahead" = some (nS keys ah)→m' "alive" = some (encA bs keys D)→m' "cell" = some (.int c)→m' "waiting" = some (.ref wa)→m' "at" = some (.int i)→m' "place" = some (.int p)→INK1 H bs keys ah D M c i0 p0 wa encW M1 W' n H' m'
inductive JNK0 (bs:List yF) (ah:Nat→List Nat) (i:Nat) (H3:zA) (t:Nat) (ys:List AV) (H':zA) (m':zN):Prop
 | mk:H' = H3→m' "blocks" = some (.lst (bs.map wO))→ys = ((ah i).take t).map (fun j=>.tup [.int j,.int ((bs[j]?.map (fun p=>p.rows.length)).getD 0:Nat)])→JNK0 bs ah i H3 t ys H' m'
theorem mark_ok (X:Prog K ρ.base fa) (hl:l ≤ 26) {bs:List yF} {nx:Nat} (B:BOK bs nx) {keys:List Nat} (hkeys:∀ i,i∈keys↔i < bs.length) {ah:Nat→List Nat} (hah:∀ i j,j∈ah i↔∃ b,bs[j]? = some b∧i∈yN b.e) (hal:∀ i,(ah i).length ≤ 6)
  {D:Nat→Nat→Addr} {M:Nat→Nat→List Int} (S:MRK H bs D M) {c:Int} (hc0:0 ≤ c) (hc1:c < nx) {i0 p0:Nat} (h0:At bs i0 p0) (hL:yK bs i0 p0 c) (cl:mH bs M c fun U U=>False) (hM:∀ i p,At bs i p→c∈M i p→yK bs i p c)
  (q:∀ H' M',MRK H' bs D M'→(∀ a,H a ≠ none→(∀ i p,At bs i p→a ≠ D i p)→H' a = H a)→(∀ i p d,d ≠ c→(d∈M' i p↔d∈M i p))→(∀ i p,c∈M i p→c∈M' i p)→(∀ i p,At bs i p→c∈M' i p→yK bs i p c)→mH bs M' c (fun U U=>False)→c∈M' i0 p0→Q .none H') :
  zE ρ l (.ref (fa 35)) [.lst (bs.map wO),nS keys ah,encA bs keys D,.int c,.int i0,.int p0] H Q:=by
 refine zE.fn X.S (oB hl) (X.fn 35 (by decide)).2 rfl (by decide) (fun L qual code hc=>?_) (by
  intro x hx
  have:x = "blocks"∨x = "ahead"∨x = "alive"∨x = "cell"∨x = "at"∨x = "place":=by revert x hx;decide
  rcases this with rfl | rfl | rfl | rfl | rfl | rfl
  ·exact .inr ⟨by rfl,fun n=>by rfl⟩
  all_goals exact .inl (by rfl))
 have hbl:(bs.map wO).length ≤ sizeLine:=by rw [Cp,Cu];have:=B.len;exact wB this
 refine ST.c ?_
 intro Qc
 refine S1.name (xQ ?_)
 lk
 intro wa hwa
 have nwa:∀ i p,At bs i p→D i p ≠ wa:=fun i p h e=>by have:=S.tab i p h;rw [e,hwa] at this;cases this
 let encW:List (Nat×Nat)→List AV:=fun W=>W.map fun x=>.tup [.int x.1,.int x.2]
 refine ST.c ?_
 intro Qc
 refine uE (INK0 H bs keys ah D M c i0 p0 wa encW) _ ⟨[(i0,p0)],M,zC,?_,fun a ha U=>zB ha,fun U U U U=>.rfl,fun U U h=>h,hM,fun x hx=>by rw [Bf.mp hx];exact ⟨h0,hL⟩,fun i b p hb hp hcm=>?_,.inr (by simp),rfl,by simp;exact ω591,rfl,rfl,rfl,rfl,rfl⟩ ?_
 ·exact ⟨fun i p h=>by rw [zB (nwa i p h)];exact S.tab i p h,S.inj,S.nd⟩
 ·exact ⟨fun h j bj hj hg=>((cl i b p hb hp hcm).1 h j bj hj hg).imp_right False.elim,fun q r e hr hd=>((cl i b p hb hp hcm).2 q r e hr hd).imp_right False.elim⟩
 rintro n H1 m1 ⟨W,M1,hW,S1',fr,oth,mono,liv,wl,cl1,goal,rfl,wlen,v1,v2,v3,v4,v5⟩
 refine zH ?_
 refine xH ?_
 refine EX.lst ?_
 lk
 refine yI.neNil (show yJ _ (.ref wa) _ from hW) (zy 1 1 0x11432215401a2150 rfl hl) ?_
 rcases List.eq_nil_or_concat W with rfl | ⟨W',x,hWx⟩
 ·refine ST.nil ?_
  exact q H1 M1 S1' (fun a ha hd=>fr a (fun e=>ha (e ▸ hwa)) hd) oth mono liv (fun i b p hb hp hcm=>⟨fun h j bj hj hg=>((cl1 i b p hb hp hcm).1 h j bj hj hg).imp_right (by simp),fun q r e hr hd=>((cl1 i b p hb hp hcm).2 q r e hr hd).imp_right (by simp)⟩) (goal.resolve_right (by simp))
 rw [List.concat_eq_append] at hWx
 subst hWx
 obtain ⟨xi,xp⟩:=x
 have hun0:Un bs M1 c ≤ (pts bs).length:=List.length_filter_le _ _
 rw [show (!(encW (W' ++ [(xi,xp)])).isEmpty) = true from by simp [encW]]
 have hpts:(pts bs).length ≤ 1000000:=by
  unfold pts
  rw [List.length_flatMap]
  have:∀ (xs:List Nat),(xs.map fun i=>((List.range ((bs[i]?.map (fun p=>p.rows.length)).getD 0 + 1)).map fun p=>(i,p)).length).sum ≤ xs.length * 101:=by
   intro xs
   induction xs with
   | nil=>simp
   | cons i xs ih=>
    rw [Ba,List.sum_cons,Cp,Bh,Cn,Nat.succ_mul]
    have:(bs[i]?.map (fun p=>p.rows.length)).getD 0 ≤ 100:=by
     cases h:bs[i]? with
     | none=>simp
     | some b=>simpa using B.rsz b (Dr h)
    exact zw 3 0 1 2 0x100117652835742064217085065263 rfl ih this
  have h1:=this (List.range bs.length)
  have h2:=B.len
  rw [Bh] at h1
  have h3:bs.length * 101 ≤ 606:=by exact zw 1 0 1 1 0x110652f625e31606115065253 rfl h2
  exact zw 2 0 1 2 0x1101652f7f424051506116075065263 rfl h1 h2
 rw [Ct,Da] at wlen
 have hWz:(encW (W' ++ [(xi,xp)])).length ≤ sizeLine:=by simp only [encW,Cp,Ct,Da];rw [Cu];exact zw 3 0 1 3 0x1600100916010680100000071540f42405160670861507112540760 rfl wlen hun0 hpts
 refine ST.c0 ?_
 intro Qs Qc
 refine S1.tup (EX.pop0 ?_)
 refine xH ?_
 refine ⟨⟨_,hW⟩,zE.pop hW hWz (x:=.tup [.int xi,.int xp]) (by simp [encW]) (AS.tup (xN.cons (AS.name (xN.cons (AS.name (xN.nil ?_))))))⟩
 rw [show (encW (W' ++ [(xi,xp)])).dropLast = encW W' by simp [encW]]
 have hxa:=wl (xi,xp) (by simp)
 refine ST.c ?_
 intro Qc
 refine uE (INK1 H bs keys ah D M c i0 p0 wa encW M1 W') _ ⟨M1,xi,xp,zC,?_,fun a ha hd=>by rw [zB ha];exact fr a ha hd,oth,mono,liv,hxa.1,hxa.2,fun i b p hb hp hcm=>?_,?_,rfl,Ag _,v1,v2,v3,v4,v5,rfl,rfl⟩ ?_
 ·exact ⟨fun i p h=>by rw [zB (nwa i p h)];exact S1'.tab i p h,S1'.inj,S1'.nd⟩
 ·have e:∀ j q,(j,q)∈W' ++ [(xi,xp)]→(j,q)∈W'∨(j = xi∧q = xp):=fun j q h=>(Cx.mp h).imp_right fun h=>by simpa using h
  exact ⟨fun h j bj hj hg=>((cl1 i b p hb hp hcm).1 h j bj hj hg).imp_right (e _ _),fun q r e' hr hd=>((cl1 i b p hb hp hcm).2 q r e' hr hd).imp_right (e _ _)⟩
 ·exact goal.imp_right fun h=>(Cx.mp h).imp_right fun h=>by simpa using h
 rintro n H2 m2 ⟨M2,i,p,hW2,S2,fr2,oth2,mono2,liv2,hat,hlive,cl2,goal2,rfl,hun,u1,u2,u3,u4,u5,u6,u7⟩
 have hbd:=B.at_le hat
 have hik:i∈keys:=(hkeys i).mpr hat.lt
 refine zH ?_
 lk
 refine zY.idict (sI _ keys _) (xJ keys _ hik) ?_
 lk
 refine zY.list (show yJ _ (.lst _) _ from rfl) (zy 2 1 0x10055200136421606421507 rfl hbd) (by rw [Cp,Bh,Cu];exact ω245 hbd.1 hbd.2) (vP hat.rng) ?_
 refine sU (show uZ _ (.ref _) _ from S2.tab i p hat) ?_
 rw [rF]
 by_cases hcm:c∈M2 i p
 ·rw [Dc hcm]
  refine ST.nil ⟨_,?_,W',M2,hW2,S2,fr2,oth2,mono2,liv2,fun x hx=>wl x (Cy _ hx),fun j b q hb hq hm=>?_,?_,rfl,zw 4 0 2 3 0x160010091160006106b16006106a00a6150711250780670961507112540860760 rfl wlen hun0 hun,u1,u2,u3,u4,u5⟩
  ·rw [Ct,Da];exact zy 3 1 0x1747467150275715021650 rfl hun
  ·exact ⟨fun h k bk hk hg=>((cl2 j b q hb hq hm).1 h k bk hk hg).elim .inl fun h=>h.elim .inr fun p1=>p1.rec fun e1 e2=>.inl (by rw [e2,e1];exact hcm),fun q' r e hr hd=>((cl2 j b q hb hq hm).2 q' r e hr hd).elim .inl fun h=>h.elim .inr fun p1=>p1.rec fun e1 e2=>.inl (by rw [e1,e2];exact hcm)⟩
  ·exact goal2.elim .inl fun h=>h.elim .inr fun p1=>p1.rec fun e1 e2=>.inl (by rw [e1,e2];exact hcm)
 rw [Dj hcm]
 refine ST.c0 ?_
 intro Qs Qc
 refine S1.sub ?_
 lk
 refine zY.idict (sI _ keys _) (xJ keys _ hik) ?_
 lk
 refine zY.list (show yJ _ (.lst _) _ from rfl) (zy 2 1 0x10055200136421606421507 rfl hbd) (by rw [Cp,Bh,Cu];exact ω245 hbd.1 hbd.2) (vP hat.rng) ?_
 lk
 have hnx:=B.nxb
 have hml:(M2 i p).length ≤ 50:=yH (S2.nd i p hat).1 (S2.nd i p hat).2
 refine wT.idict (S2.tab i p hat) (by rw [Cp,Cu];exact vN hml) ?_
 rw [qL (by rw [rF];simpa using hcm)]
 have S3:=S2.add hat hcm hc0 (show c < ((50:Nat):Int) by exact zw 1 1 0 2 0x111532212001042b21505200104 rfl hc1 hnx)
 have hun3:=Un_mk1 (c:=c) hat hcm
 have nD:=nwa i p hat
 generalize hH3:upd H2 (D i p) _ = H3 at S3 ⊢
 have hW3:H3 wa = some (.list (encW W')):=by rw [← hH3,zB (Ne.symm nD)];exact hW2
 have fr3:∀ a,a ≠ wa→(∀ i p,At bs i p→a ≠ D i p)→H3 a = H a:=fun a ha hd=>by rw [← hH3,zB (hd i p hat)];exact fr2 a ha hd
 have oth3:∀ j q d,d ≠ c→(d∈mk1 M2 c i p j q↔d∈M j q):=fun j q d hd=>by rw [yT,oth2 j q d hd];simp [hd]
 have mono3:∀ j q,c∈M j q→c∈mk1 M2 c i p j q:=fun j q h=>yT.mpr (.inl (mono2 j q h))
 have liv3:∀ j q,At bs j q→c∈mk1 M2 c i p j q→yK bs j q c:=fun j q hj h=>(yT.mp h).elim (liv2 j q hj) fun p1=>p1.elim fun e1 p2=>p2.elim fun e2 U=>by rw [e1,e2];exact hlive
 have hcm3:c∈mk1 M2 c i p i p:=yT.mpr (.inr ⟨rfl,rfl,rfl⟩)
 have goal3:c∈mk1 M2 c i p i0 p0∨(i0,p0)∈W':=goal2.elim (fun h=>.inl (yT.mpr (.inl h))) fun h=>h.elim .inr fun p1=>p1.rec fun e1 e2=>.inl (by rw [e1,e2];exact hcm3)
 obtain ⟨b,hb,hpb⟩:=hat
 have hrz:=B.rsz b (Dr hb)
 refine ST.c0 ?_
 intro Qs Qc
 refine zK (zH ?_)
 lk
 refine wY ?_
 by_cases hp0:p = 0
 ·subst hp0
  rw [Dc (by simp)]
  refine ST.c ?_
  intro Qc
  refine zV (EX.extend ?_)
  refine xH ?_
  refine ⟨⟨_,hW3⟩,vH X.S (cl:=[("blocks",L + 1)]) ["blocks"] (.of (by rfl) (by rfl) (by rfl) (by rfl)) ?_⟩
  lk
  refine zY.idict (sI _ keys _) (xJ keys _ hik) ?_
  refine ⟨_,yM.lst,JNK0 bs ah i H3,⟨rfl,u1,rfl⟩,?_,?_⟩
  ·rintro L' t x ys H' m' hx ⟨rfl,hmb,hys⟩
   have htl:t < (ah i).length:=by have:=(Bc.mp hx).1;simpa [nL,iL] using this
   have hxe:x = .int ((ah i)[t]:Nat):=by simp [nL,iL,htl] at hx;exact hx.symm
   subst hxe
   obtain ⟨bj,hbj,hgj⟩:=(hah i (ah i)[t]).mp (Cr _)
   have hbj1:=B.rsz bj (Dr hbj)
   refine AS.name ?_
   refine EX.tup ?_
   lk
   refine xU X (Prog.len X) ?_
   refine yO.cons (EX.sub (EX.sub (EX.cell (by assumption) (by rfl) (by rfl) ?_) (by rfl)) (by rfl))
   lk
   refine zY.list (show yJ _ (.lst _) _ from rfl) (zy 3 1 17897665672785 rfl htl) hbl (vQ hbj) ?_
   lk
   refine zY.tp rfl ?_
   lk
   refine zE.len (show yJ _ (.lst _) _ from rfl) (by rw [Cp,Cu];exact ω248 hbj1) ?_
   lk
   refine ⟨by rw [hys,Cp,Cu];have h9:=hal i;have:(List.take t (ah i)).length ≤ (ah i).length:=(by rw [Cs];exact zw 2 0 1 1 0x1141100170670651651 rfl htl);exact Ah this (Ah h9 (by decide)),rfl,hmb,?_⟩
   rw [hys,Cj,Ci htl,Option.toList_some,Bt,List.map_singleton,hbj,Cp];rfl
  ·rintro ys H' m' pz
   refine sealG ?_
   intro Gs
   obtain ⟨rfl,hmb,hys⟩:=pz
   have hl2:(nL (ah i)).length = (ah i).length:=by simp [nL,iL]
   rw [hl2,Dq] at hys
   have hal':=hal i
   refine .inl (oM hW3 (show yJ _ (.lst _) _ from rfl) (by rw [hys,Cp,Cu];simp only [encW,Cp];exact zw 5 0 1 5 0x1600100001c160106001b0100000071952061190982f42405160670a61507112540760 rfl wlen hun0 hpts hl2 hal') ?_)
   have hW4:encW W' ++ ys = encW (W' ++ (ah i).map fun j=>(j,(bs[j]?.map (fun p=>p.rows.length)).getD 0)):=by rw [hys];simp [encW]
   rw [hW4]
   refine ST.c ?_
   intro Qc
   refine S1.brk ?_
   refine ST.nil ⟨_,?_,_,mk1 M2 c i 0,zC,⟨fun j q h=>by rw [zB (nwa j q h)];exact S3.tab j q h,S3.inj,S3.nd⟩,fun a ha hd=>by rw [zB ha];exact fr3 a ha hd,oth3,mono3,liv3,fun x hx=>?_,fun j bj q hbj hq hm=>?_,goal3.imp_right (Cy _),rfl,?_,u1,u2,u3,u4,u5⟩
   ·simp only [Ct,Cp,Da];exact zy 6 4 0x1770018a46715029a2771502161190982571650 rfl hun hun3 hl2 hal'
   ·rcases Cx.mp hx with h | h
    ·exact wl x (Cy _ h)
    ·obtain ⟨j,hj,rfl⟩:=Bm.mp h
     obtain ⟨bj,hbj,hgj⟩:=(hah i j).mp hj
     rw [show ((bs[j]?.map (fun p=>p.rows.length)).getD 0) = bj.rows.length by rw [hbj];rfl]
     exact ⟨⟨bj,hbj,Ag _⟩,.jump hbj hgj hlive⟩
   ·have old:c∈M2 j q→_:=fun h=>cl2 j bj q hbj hq h
    rcases yT.mp hm with h | ⟨rfl,rfl,U⟩
    ·refine ⟨fun e k bk hk hg=>?_,fun q' r e hr hd=>?_⟩
     ·rcases (old h).1 e k bk hk hg with h' | h' | ⟨e1,e2⟩
      ·exact .inl (yT.mpr (.inl h'))
      ·exact .inr (Cy _ h')
      ·exact .inl (yT.mpr (.inr ⟨e1,e2,rfl⟩))
     ·rcases (old h).2 q' r e hr hd with h' | h' | ⟨e1,e2⟩
      ·exact .inl (yT.mpr (.inl h'))
      ·exact .inr (Cy _ h')
      ·exact .inl (yT.mpr (.inr ⟨e1,e2,rfl⟩))
    ·refine ⟨fun U k bk hk hg=>.inr (Cz _ (Bm.mpr ⟨k,(hah _ k).mpr ⟨bk,hk,hg⟩,?_⟩)),fun q' r e=>nomatch e⟩
     rw [hk];rfl
   ·simp only [Ct,Cp];have:Un bs M1 c ≤ (pts bs).length:=hun0;exact zw 7 0 2 6 0x10111000a1600061666001f010111000a160061066001e00d61507112b520611b0ba2891780670c61507112540960760 rfl wlen hun0 hun hun3 hl2 hal'
 ·rw [Dj (by exact zy 1 1 0x1015130015205601526 rfl hp0)]
  refine ST.nil ?_
  refine sN0 ?_
  intro Qs Qc
  lk
  refine xW.subt ?_
  refine (show ST _ _ _ _ _ _ _ from ?_)
  obtain ⟨p',rfl⟩:∃ p',p = p' + 1:=⟨p - 1,zw 2 0 1 2 0x100100811010071011000019130110007100745201526642160642150711150 rfl hbd hp0⟩
  have hcast:(((p' + 1:Nat):Int) - 1) = (p':Int):=by exact wM 0x131305201115420305 rfl
  rw [hcast]
  have hr:b.rows[p']? = some (b.rows[p']'(ω15 hpb)):=Ci _
  refine ST.c0 ?_
  intro Qs Qc
  refine zK (zH ?_)
  refine EX.sub (EX.sub (EX.sub (EX.sub (EX.cell (by assumption) (by rfl) (by rfl) ?_) (by rfl)) (by rfl)) (by rfl)) (by rfl)
  lk
  refine zY.list (show yJ _ (.lst _) _ from rfl) xO hbl (vQ hb) ?_
  lk
  refine zY.tp rfl ?_
  lk
  refine zY.list (show yJ _ (.lst _) _ from rfl) (zy 2 1 0x100552001364216064215407 rfl hbd) (by rw [Cp,Cu];exact ω248 hrz) (x:=xG (b.rows[p']'(ω15 hpb))) (by rw [Ce,Bg,hr];rfl) ?_
  lk
  refine zY.tp rfl ?_
  lk
  refine wY ?_
  have old:∀ j bj q,bs[j]? = some bj→q ≤ bj.rows.length→c∈M2 j q→_:=fun j bj q hbj hq h=>cl2 j bj q hbj hq h
  by_cases hd:(b.rows[p']'(ω15 hpb)).dst = c
  ·rw [Dc hd]
   refine ST.c ?_
   intro Qc
   refine S1.brk ?_
   refine ST.nil ⟨_,?_,W',mk1 M2 c i (p' + 1),hW3,S3,fr3,oth3,mono3,liv3,fun x hx=>wl x (Cy _ hx),fun j bj q hbj hq hm=>?_,goal3,rfl,zw 8 0 2 7 0x16001000000d111600061060060f1160061060060e100e6150711250019426c9408b16421a064219407780670d61507112540b60760 rfl wlen hun0 hun hbd hun3 hpb hp0,u1,u2,u3,u4,u5⟩
   ·simp only [Ct,Da];exact zy 6 3 0x17706a4671502a77150219840571650 rfl hun hun3 hpb
   ·rcases yT.mp hm with h | ⟨rfl,rfl,U⟩
    ·refine ⟨fun e k bk hk hg=>?_,fun q' r e hr hd=>?_⟩
     ·rcases (old j bj q hbj hq h).1 e k bk hk hg with h' | h' | ⟨e1,e2⟩
      ·exact .inl (yT.mpr (.inl h'))
      ·exact .inr h'
      ·exact .inl (yT.mpr (.inr ⟨e1,e2,rfl⟩))
     ·rcases (old j bj q hbj hq h).2 q' r e hr hd with h' | h' | ⟨e1,e2⟩
      ·exact .inl (yT.mpr (.inl h'))
      ·exact .inr h'
      ·exact .inl (yT.mpr (.inr ⟨e1,e2,rfl⟩))
    ·refine ⟨fun e=>by exact (zy 3 3 0x104901542642170642154076540 rfl hpb hbd e).elim,fun q' r e hr' hd'=>?_⟩
     rw [hb] at hbj;cases hbj
     have:q' = p':=by exact zy 3 2 0x10016101060572745426540 rfl hpb e
     subst this
     rw [hr] at hr';cases hr';exact absurd hd hd'
  ·rw [Dj hd]
   refine ST.nil (ST.nil ⟨_,?_,mk1 M2 c i (p' + 1),i,p',hW3,S3,fr3,oth3,mono3,liv3,⟨b,hb,ω16 hpb⟩,?_,fun j bj q hbj hq hm=>?_,goal3.imp_right .inl,rfl,zy 3 2 300537926325840 rfl hun hun3,u1,u2,u3,u4,u5,u6,rfl⟩)
   ·exact hun3
   ·exact .step hb hr hd hlive
   ·rcases yT.mp hm with h | ⟨rfl,rfl,U⟩
    ·refine ⟨fun e k bk hk hg=>?_,fun q' r e hr hd=>?_⟩
     ·rcases (old j bj q hbj hq h).1 e k bk hk hg with h' | h' | ⟨e1,e2⟩
      ·exact .inl (yT.mpr (.inl h'))
      ·exact .inr (.inl h')
      ·exact .inl (yT.mpr (.inr ⟨e1,e2,rfl⟩))
     ·rcases (old j bj q hbj hq h).2 q' r e hr hd with h' | h' | ⟨e1,e2⟩
      ·exact .inl (yT.mpr (.inl h'))
      ·exact .inr (.inl h')
      ·exact .inl (yT.mpr (.inr ⟨e1,e2,rfl⟩))
    ·refine ⟨fun e=>by exact (zy 2 2 0x10490154264216064215407 rfl hbd e).elim,fun q' r e hr' hd'=>.inr (.inr ⟨rfl,zy 2 1 0x10151105056264542 rfl e⟩)⟩
end
end
section
section
variable {H H':zA}
theorem pW {ks:List Int} {xs xs':List AV} (h:wU ρ xs H xs' H'):wH ρ (.idct ks xs) H (.idct ks xs') H':=
 ⟨h.1,h.2.1,fun P s v g p1=>p1.rec fun a kvs e nd sy ho hk cl=>⟨a,kvs,e,fun q=>nd (q.elim (fun q=>.inl fun z=>q (h.1.none z)) .inr),sy,ho,hk,h.2.2 P s _ g cl⟩⟩
theorem wH.trans {a b c:AV} {H1 H2:zA} (x:wH ρ a H b H1) (y:wH ρ b H1 c H2):wH ρ a H c H2:=by
 refine ⟨x.1.trans y.1,fun z C dx fs e1 e2=>?_,fun P s v g cv=>y.2.2 P s v (g.less x.1 x.2.1) (x.2.2 P s v g cv)⟩
 have:H1 z = some (.inst C dx fs):=by rcases y.1 z with q | q;(exact q ▸ e1);(rw [q] at e1;cases e1)
 exact y.2.1 z C dx fs e1 (x.2.1 z C dx fs this e2)
theorem pV {α:Type} {H0:zA} {av av':α→AV} {T:α→List Addr}:∀ (xs:List α) (H:zA),(∀ x∈xs,∀ H1:zA,(∀ a∈T x,H1 a = H0 a)→∃ H2,wH ρ (av x) H1 (av' x) H2∧∀ a,a ∉ T x→H2 a = H1 a) →
  xs.Pairwise (fun x y=>∀ a∈T x,a ∉ T y)→(∀ x∈xs,∀ a∈T x,H a = H0 a)→∃ H',wU ρ (xs.map av) H (xs.map av') H'∧∀ a,(∀ x∈xs,a ∉ T x)→H' a = H a
 | [],H,_,_,_=>⟨H,.nil,fun U U=>rfl⟩
 | x :: xs,H,hf,hp,hh=>by
  refine sealG ?_
  intro Gs
  obtain ⟨H1,f1,s1⟩:=hf x Db H (hh x Db)
  have hp':=Bn.mp hp
  obtain ⟨H2,f2,s2⟩:=pV xs H1 (fun y hy=>hf y (Dh _ hy)) hp'.2 fun y hy a ha=>by
   rw [s1 a fun h=>hp'.1 y hy a h ha];exact hh y (Dh _ hy) a ha
  exact ⟨H2,wU.cons f1 f2,fun a ha=>by rw [s2 a fun y hy=>ha y (Dh _ hy)];exact s1 a (ha x Db)⟩
theorem rJ {α:Type} {A:α→Addr} {o:α→AO} {av:α→AV} (hf:∀ x H,H (A x) = some (o x)→wH ρ (.ref (A x)) H (av x) (del H (A x))) (xs:List α) (hp:xs.Pairwise fun x y=>A x ≠ A y) (hh:∀ x∈xs,H (A x) = some (o x)) :
  ∃ H',wU ρ (xs.map fun x=>.ref (A x)) H (xs.map av) H'∧∀ a,(∀ x∈xs,a ≠ A x)→H' a = H a:=by
 obtain ⟨H',f,s⟩:=pV (H0:=H) (T:=fun x=>[A x]) xs H (fun x hx H1 h1=>⟨_,hf x H1 ((h1 _ (by simp)).trans (hh x hx)),fun a ha=>zR (by simpa using ha)⟩) (hp.imp fun h a ha hb=>h (by simp at ha hb;rw [← ha,hb])) fun U U U U=>rfl
 exact ⟨H',f,fun a ha=>s a fun x hx h=>ha x hx (by simpa using h)⟩
theorem rE (keys:List Nat) (f:Nat→AV) {i:Nat} (h:i ∉ keys):yE (keys.map fun (i:Nat)=>((i:Int),f i)) (i:Int) = none:=by
 unfold yE
 rw [List.find?_eq_none.mpr];· rfl
 intro x hx;obtain ⟨j,hj,rfl⟩:=Bm.mp hx
 simp only [Bq];intro e;exact h (Int.ofNat.inj e ▸ hj)
theorem qK (W:List Nat) (n:Nat):nL W ++ [.int n] = nL (W ++ [n]):=by simp [nL,iL]
theorem xY (W:List Nat):(nL W).length = W.length:=by simp [nL,iL]
theorem nL_at {W:List Nat} {t:Nat} {x:AV} (h:(nL W)[t]? = some x):∃ n,W[t]? = some n∧x = .int n:=by
 simp only [nL,iL,Bg,Option.map_map,Bi] at h
 obtain ⟨n,h1,h2⟩:=h;exact ⟨n,h1,h2.symm⟩
structure AHD (H0 H:zA) (bs:List yF) (ad wa:Addr) (keys:List Nat) (ah:Nat→List Nat) (E:Nat→Addr) (W:List Nat):Prop where
 top:H ad = some (.idict (keys.map fun (i:Nat)=>((i:Int),.ref (E i))))
 wt:H wa = some (.list (nL W))
 row:∀ i∈keys,H (E i) = some (.list (nL (ah i)))
 inj:∀ i∈keys,∀ j∈keys,E i = E j→i = j
 ne:∀ i∈keys,E i ≠ ad∧E i ≠ wa
 aw:ad ≠ wa
 nw:H0 ad = none∧H0 wa = none∧∀ i∈keys,H0 (E i) = none
 fr:∀ a,H0 a ≠ none→H a = H0 a
 nd:keys.Nodup
 lt:∀ i∈keys,i < bs.length
 k0:0∈keys
 wk:∀ i∈W,i∈keys
 wnd:W.Nodup
 ok:∀ i∈keys,(ah i).Nodup∧∀ j∈ah i,∃ b,bs[j]? = some b∧i∈yN b.e
variable {H0:zA} {bs:List yF} {ad wa:Addr} {keys W:List Nat} {ah:Nat→List Nat} {E:Nat→Addr}
theorem AHD.new (S:AHD H0 H bs ad wa keys ah E W) {e:Addr} (he:H e = none) {n:Nat} (hn:n ∉ keys) (hl:n < bs.length) :
  AHD H0 (upd (upd (upd H e (.list [])) ad (.idict ((keys.map fun (i:Nat)=>((i:Int),AV.ref (E i))) ++ [((n:Int),.ref e)]))) wa (.list (nL W ++ [.int n]))) bs ad wa (keys ++ [n]) (fun i=>if i = n then [] else ah i) (fun i=>if i = n then e else E i) (W ++ [n]):=by
 have e1:e ≠ ad:=fun h=>by rw [h,S.top] at he;cases he
 have e2:e ≠ wa:=fun h=>by rw [h,S.wt] at he;cases he
 have e3:∀ i∈keys,E i ≠ e:=fun i hi h=>by rw [← h,S.row i hi] at he;cases he
 have hin:∀ i∈keys,i ≠ n:=fun i hi h=>hn (h ▸ hi)
 refine ⟨?_,by rw [zC,qK],fun i hi=>?_,fun i hi j hj h=>?_,fun i hi=>?_,S.aw,⟨S.nw.1,S.nw.2.1,fun i hi=>?_⟩,fun a ha=>?_,?_,fun i hi=>?_,Cy _ S.k0,fun i hi=>?_,?_,fun i hi=>?_⟩
 ·rw [zB S.aw,zC,Bt]
  congr 3
  ·exact Cf fun i hi=>by rw [Aa (hin i hi)]
  ·simp
 ·rcases Cx.mp hi with h | h
  ·rw [Aa (hin i h),Aa (hin i h),zB (S.ne i h).2,zB (S.ne i h).1,zB (e3 i h)];exact S.row i h
  ·rw [Bf.mp h];simp only [Ay];rw [zB e2,zB e1,zC];rfl
 ·rcases Cx.mp hi with h1 | h1 <;> rcases Cx.mp hj with h2 | h2
  ·simp only [Aa (hin i h1),Aa (hin j h2)] at h;exact S.inj i h1 j h2 h
  ·rw [Bf.mp h2] at h ⊢;simp only [Aa (hin i h1),Ay] at h;exact absurd h (e3 i h1)
  ·rw [Bf.mp h1] at h ⊢;simp only [Aa (hin j h2),Ay] at h;exact absurd h.symm (e3 j h2)
  ·rw [Bf.mp h1,Bf.mp h2]
 ·rcases Cx.mp hi with h | h
  ·simp only [Aa (hin i h)];exact S.ne i h
  ·rw [Bf.mp h];simp only [Ay];exact ⟨e1,e2⟩
 ·rcases Cx.mp hi with h | h
  ·simp only [Aa (hin i h)];exact S.nw.2.2 i h
  ·rw [Bf.mp h];simp only [Ay]
   exact Ae fun q=>q (by rw [← S.fr e q];exact he)
 ·have a1:a ≠ wa:=fun h=>ha (by rw [h];exact S.nw.2.1)
  have a2:a ≠ ad:=fun h=>ha (by rw [h];exact S.nw.1)
  have a3:a ≠ e:=fun h=>by have:=S.fr a ha;rw [h,he] at this;exact ha (h ▸ this.symm)
  rw [zB a1,zB a2,zB a3];exact S.fr a ha
 ·rw [Di];exact ⟨S.nd,by simp,fun a ha b hb=>by rw [Bf.mp hb];exact hin a ha⟩
 ·rcases Cx.mp hi with h | h
  ·exact S.lt i h
  ·rw [Bf.mp h];exact hl
 ·rcases Cx.mp hi with h | h
  ·exact Cy _ (S.wk i h)
  ·exact Cz _ h
 ·rw [Di];exact ⟨S.wnd,by simp,fun a ha b hb=>by rw [Bf.mp hb];exact hin a (S.wk a ha)⟩
 ·rcases Cx.mp hi with h | h
  ·simp only [Aa (hin i h)];exact S.ok i h
  ·rw [Bf.mp h];simp
theorem AHD.app (S:AHD H0 H bs ad wa keys ah E W) {n j:Nat} {b:yF} (hn:n∈keys) (hj:j ∉ ah n) (hb:bs[j]? = some b) (hg:n∈yN b.e) :
  AHD H0 (upd H (E n) (.list (nL (ah n) ++ [.int j]))) bs ad wa keys (fun i=>if i = n then ah n ++ [j] else ah i) E W:=by
 refine ⟨by rw [zB (Ne.symm (S.ne n hn).1)];exact S.top,by rw [zB (Ne.symm (S.ne n hn).2)];exact S.wt,fun i hi=>?_,S.inj,S.ne,S.aw,S.nw,fun a ha=>?_,S.nd,S.lt,S.k0,S.wk,S.wnd,fun i hi=>?_⟩
 ·by_cases h:i = n
  ·subst h;simp only [Ay];rw [zC,qK]
  ·rw [Aa h,zB fun e=>h (S.inj i hi n hn e)];exact S.row i hi
 ·rw [zB fun h=>ha (by rw [h];exact S.nw.2.2 n hn)];exact S.fr a ha
 ·by_cases h:i = n
  ·subst h;simp only [Ay]
   refine ⟨?_,fun k hk=>?_⟩
   ·rw [Di];exact ⟨(S.ok i hi).1,by simp,fun a ha b hb=>by rw [Bf.mp hb];exact fun e=>hj (e ▸ ha)⟩
   ·rcases Cx.mp hk with h | h
    ·exact (S.ok i hi).2 k h
    ·rw [Bf.mp h];exact ⟨b,hb,hg⟩
  ·simp only [Aa h];exact S.ok i hi
theorem AHD.pop (S:AHD H0 H bs ad wa keys ah E (W ++ [n])):AHD H0 (upd H wa (.list (nL W))) bs ad wa keys ah E W:=
 ⟨by rw [zB S.aw];exact S.top,zC,fun i hi=>by rw [zB (S.ne i hi).2];exact S.row i hi,S.inj,S.ne,S.aw,S.nw,fun a ha=>by rw [zB fun h=>ha (by rw [h];exact S.nw.2.1)];exact S.fr a ha,S.nd,S.lt,S.k0,fun i hi=>S.wk i (Cy _ hi),(Di.mp S.wnd).1,S.ok⟩
end
end
section
noncomputable def Kp (H H':zA):Prop:=∀ a,H a ≠ none→H' a = H a
theorem Kp.refl {H}:Kp H H:=fun _ _=>rfl
theorem Kp.trans {H H1 H2} (a:Kp H H1) (b:Kp H1 H2):Kp H H2:=fun x h=>(b x (by rw [a x h];exact h)).trans (a x h)
theorem Kp.new {H:zA} {a:Addr} {o:AO} (h:H a = none):Kp H (upd H a o):=fun x hx=>zB fun e=>hx (e ▸ h)
theorem Kp.at {H H':zA} (k:Kp H H') {a:Addr} {o:AO} (h:H a = some o):H' a = some o:=by rw [k a (by rw [h];simp)];exact h
noncomputable def encM (bs:List yF) (keys:List Nat) (M:Nat→Nat→List Int):AV:=.idct (keys.map fun (i:Nat)=>(i:Int)) (keys.map fun i=>.lst ((List.range ((bs[i]?.map (fun p=>p.rows.length)).getD 0 + 1)).map fun p=>.idct (M i p) ((M i p).map fun _=>.bool true)))
section
variable {l:Nat} {H:zA} {Q:AV→zA→Prop} {k:Nat}
theorem pN {bs:List yF} {nx:Nat} (B:BOK bs nx) {S:Nat→Prop} (h0:S 0) (h:∀ j b,bs[j]? = some b→S j→∀ n∈yN b.e,S n):∀ i,i < bs.length→S i:=by
 intro i
 induction i using Nat.strongRecOn with
 | _ i ih=>
  intro hi
  by_cases e:i = 0
  ·rw [e];exact h0
  ·obtain ⟨j,b,hj,hb,hg⟩:=B.reach i (zy 1 1 77708005785736486 rfl e) hi
   exact h j b hb (ih j hj (zy 3 2 300537943103057 rfl hi hj)) i hg
inductive INM0 (H:zA) (bs:List yF) (ad wa:Addr) (n:Nat) (H':zA) (m':zN):Prop
 | mk:∀ keys ah E W,AHD H H' bs ad wa keys ah E W→(∀ j∈keys,j ∉ W→∀ b,bs[j]? = some b→∀ g∈yN b.e,g∈keys∧j∈ah g)→n = 2 * (6 - keys.length) + W.length→m' "blocks" = some (.lst (bs.map wO))→m' "ahead" = some (.ref ad)→m' "waiting" = some (.ref wa)→INM0 H bs ad wa n H' m'
inductive INM1 (H:zA) (bs:List yF) (keys:List Nat) (ah':Nat→List Nat) (D:Nat→Nat→Addr) (H':zA) (M:(Nat→Nat→List Int)) (m':zN):Prop
 | mk:MRK H' bs D M→Kp H H'→(∀ c,mH bs M c fun _ _=>False)→(∀ i p c,At bs i p→c∈M i p→yK bs i p c)→m' "blocks" = some (.lst (bs.map wO))→m' "ahead" = some (nS keys ah')→m' "alive" = some (encA bs keys D)→INM1 H bs keys ah' D H' M m'
inductive INM2 (bs:List yF) (keys:List Nat) (PH:zA→(Nat→Nat→List Int)→zN→Prop) (t:Nat) (H':zA) (m':zN):Prop
 | mk:∀ M,PH H' M m'→(∀ (j p:Nat) (b:yF) (ts:List xA) (c:Int),bs[j]? = some b→(yD b)[p]? = some ts→j∈keys.take t→((Str.ofString "r",c):xA)∈ts→c∈M j p)→INM2 bs keys PH t H' m'
inductive INM3 (bs:List yF) (keys:List Nat) (PH:zA→(Nat→Nat→List Int)→zN→Prop) (t i:Nat) (t2:Nat) (H':zA) (m':zN):Prop
 | mk:∀ M,PH H' M m'→m' "at" = some (.int i)→(∀ (j p:Nat) (b:yF) (ts:List xA) (c:Int),bs[j]? = some b→(yD b)[p]? = some ts→(j∈keys.take t∨j = i∧p < t2)→((Str.ofString "r",c):xA)∈ts→c∈M j p)→INM3 bs keys PH t i t2 H' m'
inductive INM4 (bs:List yF) (keys:List Nat) (PH:zA→(Nat→Nat→List Int)→zN→Prop) (t i p:Nat) (ts:List xA) (t3:Nat) (H':zA) (m':zN):Prop
 | mk:∀ M,PH H' M m'→m' "at" = some (.int i)→m' "place" = some (.int p)→(∀ (j q:Nat) (b:yF) (ts:List xA) (c:Int),bs[j]? = some b→(yD b)[q]? = some ts→(j∈keys.take t∨j = i∧q < p)→((Str.ofString "r",c):xA)∈ts→c∈M j q)→(∀ c,((Str.ofString "r",c):xA)∈ts.take t3→c∈M i p)→INM4 bs keys PH t i p ts t3 H' m'
inductive INM5 (H:zA) (bs:List yF) (ad wa:Addr) (keys W':List Nat) (j:Nat) (b:yF) (t:Nat) (H':zA) (m':zN):Prop
 | mk:∀ keys' ah' E' W'',AHD H H' bs ad wa keys' ah' E' W''→j∈keys'→j ∉ W''→(∀ i∈keys',i ∉ W''→i ≠ j→∀ b,bs[i]? = some b→∀ g∈yN b.e,g∈keys'∧i∈ah' g)→(∀ g∈(yN b.e).take t,g∈keys'∧j∈ah' g)→2 * (6 - keys'.length) + W''.length ≤ 2 * (6 - keys.length) + W'.length→m' "blocks" = some (.lst (bs.map wO))→m' "ahead" = some (.ref ad)→m' "waiting" = some (.ref wa)→m' "at" = some (.int j)→INM5 H bs ad wa keys W' j b t H' m'
inductive JNM0 (bs:List yF) (keys:List Nat) (H3:zA) (t:Nat) (ys:List (Int×AV)) (H':zA) (m':zN):Prop
 | mk:∀ D:Nat→Nat→Addr,ys = (keys.take t).map (fun (i:Nat)=>((i:Int),AV.lst ((List.range ((bs[i]?.map (fun p=>p.rows.length)).getD 0 + 1)).map fun p=>.ref (D i p))))→(∀ i∈keys.take t,∀ p,At bs i p→H' (D i p) = some (.idict [])∧H3 (D i p) = none)→(∀ i∈keys.take t,∀ j∈keys.take t,∀ p q,At bs i p→At bs j q→D i p = D j q→i = j∧p = q)→Kp H3 H'→m' "blocks" = some (.lst (bs.map wO))→JNM0 bs keys H3 t ys H' m'
inductive JNM1 (H4:zA) (s:Nat) (ys:List AV) (H':zA) (m':zN):Prop
 | mk:∀ d:Nat→Addr,ys = (List.range s).map (fun p=>.ref (d p))→(∀ p,p < s→H' (d p) = some (.idict [])∧H4 (d p) = none)→(∀ p q,p < s→q < s→d p = d q→p = q)→Kp H4 H'→JNM1 H4 s ys H' m'
inductive JNM2 (H5:zA) (b:yF) (s:Nat) (ys:List AV) (H':zA) (m':zN):Prop
 | mk:H' = H5→(ys = (b.rows.take s).map fun r=>.lst (r.terms.map uX))→JNM2 H5 b s ys H' m'
theorem alive_ok (X:Prog K ρ.base fa) (hl:l ≤ 24) {bs:List yF} {nx:Nat} (B:BOK bs nx)
  (q:∀ H' (keys:List Nat) (M:Nat→Nat→List Int),(∀ i,i∈keys↔i < bs.length)→keys.Nodup→(∀ i p c,At bs i p→(c∈M i p↔yK bs i p c))→(∀ i p,At bs i p→(M i p).Nodup∧∀ c∈M i p,0 ≤ c∧c < (50:Nat))→Kp H H'→Q (encM bs keys M) H') :
  zE ρ l (.ref (fa 36)) [.lst (bs.map wO)] H Q:=by
 refine zE.fn X.S (ω216 hl) (X.fn 36 (by decide)).2 rfl (by decide) (fun L qual code hc=>?_) (by
  intro x hx
  have:x = "blocks":=by revert x hx;decide
  subst this
  exact .inr ⟨by rfl,fun n=>by rfl⟩)
 have hbl:(bs.map wO).length ≤ sizeLine:=by rw [Cp,Cu];have:=B.len;exact wB this
 have hlen:=B.len
 refine ST.c ?_
 intro Qc
 refine sM (EX.tup (yO.cons (EX.idct X.S (PRS.cons ?_)))) (.inl (by rfl)) (.inl (by rfl))
 refine EX.pl rfl ?_
 refine xQ ?_
 lk
 intro lk hea
 refine PRS.nil ⟨[(0,.ref lk)],rfl,by simp,by simp,fun ad had=>?_⟩
 refine yO.cons (xQ ?_)
 lk
 intro wa hwa
 lk
 refine ⟨_,_,rfl,?_⟩
 have n1:lk ≠ ad:=fun h=>by rw [h,zC] at had;cases had
 rw [zB (Ne.symm n1)] at had
 have n2:wa ≠ ad:=fun h=>by rw [h,zC] at hwa;cases hwa
 rw [zB n2] at hwa
 have n3:wa ≠ lk:=fun h=>by rw [h,zC] at hwa;cases hwa
 rw [zB n3] at hwa
 have A0:AHD H (upd (upd (upd H lk (.list [])) ad (.idict [(0,.ref lk)])) wa (.list [.int 0])) bs ad wa [0] (fun _=>[]) (fun _=>lk) [0]:=
  ⟨by rw [zB (Ne.symm n2),zC];rfl,by rw [zC];rfl,fun i _=>by rw [zB (Ne.symm n3),zB n1,zC];rfl,fun i hi j hj _=>by rw [Bf.mp hi,Bf.mp hj],fun i _=>⟨n1,Ne.symm n3⟩,Ne.symm n2,⟨had,hwa,fun _ _=>hea⟩,
   fun a ha=>by rw [zB fun h=>ha (by rw [h];exact hwa),zB fun h=>ha (by rw [h];exact had),zB fun h=>ha (by rw [h];exact hea)],by simp,fun i hi=>by rw [Bf.mp hi];exact B.pos,by simp,fun i hi=>hi,by simp,fun i _=>⟨by simp,by simp⟩⟩
 generalize upd (upd (upd H lk (.list [])) ad (.idict [(0,.ref lk)])) wa (.list [.int 0]) = H1 at A0 ⊢
 refine ST.c ?_
 intro Qc
 refine uE (INM0 H bs ad wa) _ ⟨[0],fun _=>[],fun _=>lk,[0],A0,fun j h1 h2=>absurd h1 h2,rfl,rfl,rfl,rfl⟩ ?_
 rintro n H2 m2 ⟨keys,ah,E,W,A,cl,rfl,m1,m2',m3⟩
 refine zH ?_
 refine xH ?_
 refine EX.lst ?_
 lk
 refine yI.neNil (show yJ _ (.ref wa) _ from A.wt) (zy 1 1 0x1143221540182150 rfl hl) ?_
 rcases List.eq_nil_or_concat W with rfl | ⟨W',j,hWx⟩
 ·have hk:∀ i,i∈keys↔i < bs.length:=fun i=>⟨A.lt i,pN B (S:=(fun p=>p∈keys)) A.k0 (fun j b hb hj n hn=>(cl j hj (by simp) b hb n hn).1) i⟩
  have hah:∀ i j,(j∈if i < bs.length then ah i else [])↔∃ b,bs[j]? = some b∧i∈yN b.e:=fun i j=>by
   by_cases hi:i < bs.length
   ·rw [Ab hi]
    exact ⟨(A.ok i ((hk i).mpr hi)).2 j,fun p1=>p1.elim fun b p2=>p2.elim fun hb hg=>(cl j ((hk j).mpr (Bc.mp hb).1) (by simp) b hb i hg).2⟩
   ·rw [Aa hi]
    exact ⟨fun h=>by simp at h,fun p1=>p1.elim fun b p2=>p2.elim fun hb hg=>absurd (B.tgt j b hb i hg) hi⟩
  have hal:∀ i,(if i < bs.length then ah i else []).length ≤ 6:=fun i=>by
   by_cases hi:i < bs.length
   ·rw [Ab hi];exact wQ B _ (A.ok i ((hk i).mpr hi)).1 fun j hj=>by obtain ⟨b,hb,_⟩:=(A.ok i ((hk i).mpr hi)).2 j hj;exact (Bc.mp hb).1
   ·rw [Aa hi];simp
  have hnd:=A.nd
  obtain ⟨H3,fz,fr⟩:=rJ (H:=del H2 ad) (A:=E) (o:=fun i=>.list (nL (ah i))) (av:=fun i=>.lst (nL (ah i))) (fun _ _ h=>wH.list h) keys (hnd.imp_of_mem fun hi hj h e=>h (A.inj _ hi _ hj e)) fun i hi=>by rw [zR (A.ne i hi).1];exact A.row i hi
  have fz1:=wH.idict A.top
  rw [Bj,Bj] at fz1
  have fz2:wH ρ (.ref ad) H2 (nS keys fun i=>if i < bs.length then ah i else []) H3:=by
   refine fz1.trans (show wH ρ (.idct (keys.map fun (i:Nat)=>(i:Int)) _) _ _ _ from ?_)
   have:nS keys (fun i=>if i < bs.length then ah i else []) = .idct (keys.map fun (i:Nat)=>(i:Int)) (keys.map fun i=>.lst (nL (ah i))):=by
    unfold nS;congr 1;exact Cf fun i hi=>by simp only [Ab (A.lt i hi)]
   rw [this]
   exact pW fz
  have kp3:Kp H H3:=fun a ha=>by
   rw [fr a fun i hi e=>ha (by rw [e];exact A.nw.2.2 i hi),zR fun e=>ha (by rw [e];exact A.nw.1)];exact A.fr a ha
  obtain ⟨ah',hah,hal,fz2⟩:∃ ah':Nat→List Nat,(∀ i j,j∈ah' i↔∃ b,bs[j]? = some b∧i∈yN b.e)∧(∀ i,(ah' i).length ≤ 6)∧wH ρ (.ref ad) H2 (nS keys ah') H3:=⟨fun i=>if i < bs.length then ah i else [],hah,hal,fz2⟩
  refine ST.take (x:="ahead") m2' fz2 ?_
  clear fz2 fz fz1 fr A cl
  refine ST.c ?_
  intro Qc
  refine S1.compD X.S (cl:=[("blocks",L + 1)]) ["blocks"] (.of (by rfl) (by rfl) (by rfl) (by rfl)) (.inl (by rfl)) ?_
  refine tP (show wA m2 "ahead" _ "ahead" = some (nS keys ah') from rfl) (by rfl) (by rfl) ?_
  refine ⟨_,yM.idct,JNM0 bs keys H3,⟨fun _ _=>0,rfl,by simp,by simp,.refl,m1⟩,?_,?_⟩
  ·rintro L' t x ys H4 m4 hx ⟨D,rfl,e2,e3,e4,e5⟩
   obtain ⟨i,hi,rfl⟩:∃ i:Nat,keys[t]? = some i∧x = .int i:=by
    rw [Bj,Bg,Bi] at hx
    obtain ⟨i,h1,h2⟩:=hx;exact ⟨i,h1,h2.symm⟩
   have hik:i∈keys:=Dr hi
   obtain ⟨b,hb⟩:∃ b,bs[i]? = some b:=⟨_,Ci ((hk i).mp hik)⟩
   have hrz:=B.rsz b (Dr hb)
   refine AS.name ?_
   lk
   refine vH X.S (cl:=[]) [] (.of (by rfl) (by rfl) (by rfl) (by rfl)) ?_
   refine yW X (Prog.range X) ?_
   refine yO.cons (yY ?_)
   refine xU X (Prog.len X) ?_
   refine yO.cons (EX.sub (EX.sub (EX.cell (by assumption) (by rfl) (by rfl) ?_) (by rfl)) (by rfl))
   lk
   refine zY.list (show yJ _ (.lst _) _ from rfl) xO hbl (vQ hb) ?_
   lk
   refine zY.tp rfl ?_
   lk
   refine zE.len (show yJ _ (.lst _) _ from rfl) (by rw [Cp,Cu];exact ω248 hrz) ?_
   rw [show (b.rows.map xG).length = b.rows.length from Cp ..]
   lk
   refine xW.add ?_
   lk
   refine xP ⟨_,yM.rng (vC (by decide) (by decide) (zy 1 1 0x10452043e831404642150 rfl hrz) (zy 1 1 0x11427104152044642150 rfl hrz)),JNM1 H4,⟨fun _=>0,rfl,by simp,by simp,.refl⟩,?_,?_⟩
   ·rintro L2 s x ys H5 m5 hx ⟨d,rfl,d1,d2,d3⟩
    have hs:s < b.rows.length + 1:=by have:=(Bc.mp hx).1;simp [wC] at this;exact ω256 this
    refine AS.name ?_
    refine xR X.S (.inr fun a ha=>⟨by rw [Cp,Bh,Cu];exact zy 2 2 0x1115100000071605461642150 rfl hrz hs,fun p=>if p = s then a else d p,?_,fun p hp=>?_,fun p q hp hq h=>?_,d3.trans (.new ha)⟩)
    ·rw [List.range_succ,Bt,List.map_singleton]
     congr 1
     ·exact Cf fun p hp=>by simp only [Aa (show ¬ p = s by have:=Cg.mp hp;exact zy 2 1 74194249297 rfl this)]
     ·simp
    ·by_cases h:p = s
     ·subst h;simp only [Ay];exact ⟨zC,Ae fun q=>q (by rw [← d3 a q];exact ha)⟩
     ·simp only [Aa h]
      have:=d1 p (tT hp h)
      exact ⟨by rw [zB fun e=>by rw [e,ha] at this;cases this.1];exact this.1,this.2⟩
    ·have hn:∀ p,p < s→d p ≠ a:=fun p hp e=>by have:=(d1 p hp).1;rw [e,ha] at this;cases this
     by_cases h1:p = s <;> by_cases h2:q = s
     ·rw [h1,h2]
     ·simp only [Ab h1,Aa h2] at h;exact absurd h.symm (hn q (ω260 hq h1 h2))
     ·simp only [Ab h2,Aa h1] at h;exact absurd h (hn p (ω261 hp h1 h2))
     ·simp only [Aa h1,Aa h2] at h;exact d2 p q (ω262 hp hq h1 h2) (tT hq h2) h
   ·rintro ys H5 m5 ⟨d,rfl,d1,d2,d3⟩
    have hl2:(wC 0 ((b.rows.length:Int) + 1)).length = b.rows.length + 1:=by simp [wC]
    rw [hl2] at d1 d2 ⊢
    have hni:i ∉ keys.take t:=fun h=>by
     have hn:=hnd
     have ht:=(Bc.mp hi).1
     rw [← Dp t keys,Di] at hn
     refine hn.2.2 i h i ?_ rfl
     rw [Ds ht,(Bc.mp hi).2];exact Db
    have htk:keys.take (t + 1) = keys.take t ++ [i]:=by rw [Cj,hi];rfl
    have hne:∀ j∈keys.take t,j ≠ i:=fun j hj e=>hni (e ▸ hj)
    have hAt:∀ p,At bs i p→p < b.rows.length + 1:=fun p h=>by have:=h.rng;rw [hb] at this;simpa using this
    refine .inl ⟨_,rfl,by rw [Cp,Cu];have h9:=wQ B keys hnd fun i hi=>(hk i).mp hi;have:(keys.take t).length ≤ keys.length:=(by rw [Cs];exact ω612);exact Ah this (Ah h9 (by decide)),?_,fun j p=>if j = i then d p else D j p,?_,fun j hj p hp=>?_,fun j hj j' hj' p q hp hq h=>?_,e4.trans d3,e5⟩
    ·rw [Bj,Bm];rintro ⟨j,hj,e⟩;exact hne j hj (Int.ofNat.inj e)
    ·rw [htk,Bt,List.map_singleton,hb]
     congr 1
     ·exact Cf fun j hj=>by simp only [Aa (hne j hj)]
     ·simp
    ·rw [htk] at hj
     rcases Cx.mp hj with h | h
     ·simp only [Aa (hne j h)]
      have:=e2 j h p hp
      exact ⟨d3.at this.1,this.2⟩
     ·rw [Bf.mp h] at hp ⊢;simp only [Ay]
      have:=d1 p (hAt p hp)
      exact ⟨this.1,Ae fun q=>q (by rw [← e4 _ q];exact this.2)⟩
    ·rw [htk] at hj hj'
     have hx:∀ j∈keys.take t,∀ p q,At bs j p→At bs i q→D j p ≠ d q:=fun j hj p q hp hq e=>by
      have h1:=(e2 j hj p hp).1
      have h2:=(d1 q (hAt q hq)).2
      rw [← e,h1] at h2;cases h2
     rcases Cx.mp hj with h1 | h1 <;> rcases Cx.mp hj' with h2 | h2
     ·simp only [Aa (hne j h1),Aa (hne j' h2)] at h;exact e3 j h1 j' h2 p q hp hq h
     ·rw [Bf.mp h2] at h hq ⊢;simp only [Aa (hne j h1),Ay] at h;exact absurd h (hx j h1 p q hp hq)
     ·rw [Bf.mp h1] at h hp ⊢;simp only [Aa (hne j' h2),Ay] at h;exact absurd h.symm (hx j' h2 q p hq hp)
     ·rw [Bf.mp h1] at h hp ⊢;rw [Bf.mp h2] at h hq ⊢;simp only [Ay] at h;exact ⟨rfl,d2 p q (hAt p hp) (hAt q hq) h⟩
  rintro ys H4 m4 ⟨D,rfl,e2,e3,e4,e5⟩
  rw [Cp,Cp,Dq] at e2 e3 ⊢
  refine .inl ?_
  rw [Bj,Bj]
  have S0:MRK H4 bs D (fun _ _=>[]):=⟨fun i p h=>(e2 i ((hk i).mpr h.lt) p h).1,fun i p j q h1 h2=>e3 i ((hk i).mpr h1.lt) j ((hk j).mpr h2.lt) p q h1 h2,fun _ _ _=>⟨by simp,by simp⟩⟩
  have hD0:∀ i p,At bs i p→H (D i p) = none:=fun i p h=>Ae fun q=>q (by rw [← kp3 _ q];exact (e2 i ((hk i).mpr h.lt) p h).2)
  have kp4:=kp3.trans e4
  have hAtT:∀ {i p:Nat} {b:yF} {ts:List xA},bs[i]? = some b→(yD b)[p]? = some ts→At bs i p:=fun hb h=>⟨_,hb,by have:=(Bc.mp h).1;simp [yD] at this;exact ω263 this⟩
  let PH:zA→(Nat→Nat→List Int)→zN→Prop:=INM1 H bs keys ah' D
  have p0:PH H4 (fun _ _=>[]) (wA (wA m2 "ahead" (nS keys ah')) "alive" (encA bs keys D)):=⟨S0,kp4,fun c i b p _ _ h=>by simp at h,fun i p c _ h=>by simp at h,m1,rfl,rfl⟩
  refine ST.c ?_
  intro Qc
  refine yB (INM2 bs keys PH) ?_
  refine tP (show wA (wA m2 "ahead" _) "alive" _ "ahead" = some (nS keys ah') from rfl) (by rfl) (by rfl) ?_
  refine ⟨_,yM.idct,⟨_,p0,by simp⟩,?_,?_⟩
  ·rintro t x H5 m5 hx ⟨M5,⟨S5,k5,cl5,lv5,u1,u2,u3⟩,dn5⟩
   obtain ⟨i,hi,rfl⟩:∃ i:Nat,keys[t]? = some i∧x = .int i:=by
    rw [Bj,Bg,Bi] at hx
    obtain ⟨i,h1,h2⟩:=hx;exact ⟨i,h1,h2.symm⟩
   have hik:i∈keys:=Dr hi
   obtain ⟨b,hb⟩:∃ b,bs[i]? = some b:=⟨_,Ci ((hk i).mp hik)⟩
   have hbm:=Dr hb
   have hrz:=B.rsz b hbm
   have htk:keys.take (t + 1) = keys.take t ++ [i]:=by rw [Cj,hi];rfl
   refine AS.name ?_
   refine ST.c ?_
   intro Qc
   refine oV X.S (INM3 bs keys PH t i) X.enum (by rfl) (by rfl) (by rfl) ?_
   refine yY (vH X.S (cl:=[]) [] (.of (by rfl) (by rfl) (by rfl) (by rfl)) ?_)
   refine EX.sub (EX.sub (EX.cell (by assumption) (by rfl) (by rfl) ?_) (by rfl)) (by rfl)
   lk
   refine zY.list (show yJ _ (.lst _) _ from rfl) xO hbl (vQ hb) ?_
   lk
   refine zY.tp rfl ⟨_,yM.lst,JNM2 H5 b,⟨rfl,rfl⟩,?_,?_⟩
   ·rintro L' s x ys H' m' hx ⟨rfl,rfl⟩
    obtain ⟨r,hr,rfl⟩:∃ r,b.rows[s]? = some r∧x = xG r:=by
     rw [Bg,Bi] at hx
     obtain ⟨r,h1,h2⟩:=hx;exact ⟨r,h1,h2.symm⟩
    refine AS.name ?_
    lk
    refine zY.tp rfl ⟨?_,rfl,?_⟩
    ·rw [Cp,Cs,Cu];exact zw 2 0 1 1 0x110017110117010000007170642150561 rfl hrz
    ·rw [Cj,hr,Option.toList_some,Bt];rfl
   rintro ys H' m' ⟨rfl,rfl⟩
   rw [Cp,Dq]
   refine .inl (EX.lst ?_)
   refine yO.cons (EX.sub (EX.sub (EX.sub (EX.cell (by assumption) (by rfl) (by rfl) ?_) (by rfl)) (by rfl)) (by rfl))
   lk
   refine zY.list (show yJ _ (.lst _) _ from rfl) xO hbl (vQ hb) ?_
   lk
   refine zY.tp rfl ?_
   lk
   refine zY.tp rfl ?_
   lk
   refine wL (show yJ _ (.lst _) _ from rfl) (show yJ _ (.lst _) _ from rfl) (by rw [Cp,Cu];simp;exact zy 1 1 0x114ffffff6150642150 rfl hrz) (.inl ?_)
   have hT:(b.rows.map fun r=>AV.lst (r.terms.map uX)) ++ [.lst ((yS b.c b.v b.e).terms.map uX)] = (yD b).map fun ts=>.lst (ts.map uX):=by simp [yD,Function.comp_def]
   rw [hT]
   refine ⟨_,rfl,⟨M5,⟨S5,k5,cl5,lv5,u1,u2,u3⟩,rfl,fun j p b' ts c h1 h2 h3=>dn5 j p b' ts c h1 h2 (h3.resolve_right (zu3 1306057396854 rfl))⟩,?_,?_⟩
   ·rintro p y H6 m6 hy ⟨M6,⟨S6,k6,cl6,lv6,v1,v2,v3⟩,v4,dn6⟩
    obtain ⟨x,hx,rfl⟩:=sL hy
    obtain ⟨ts,hts,rfl⟩:∃ ts,(yD b)[p]? = some ts∧x = .lst (ts.map uX):=by
     rw [Bg,Bi] at hx
     obtain ⟨r,h1,h2⟩:=hx;exact ⟨r,h1,h2.symm⟩
    have hat:=hAtT hb hts
    refine AS.tup (xN.cons (AS.name (xN.cons (AS.name (xN.nil ?_)))))
    refine ST.c ?_
    intro Qc
    refine yB (INM4 bs keys PH t i p ts) ?_
    lk
    refine ⟨_,yM.lst,⟨M6,⟨S6,k6,cl6,lv6,v1,v2,v3⟩,v4,rfl,dn6,by simp⟩,?_,?_⟩
    ·rintro t3 x H7 m7 hx pz
     refine sealG ?_
     intro Gs
     obtain ⟨M7,⟨S7,k7,cl7,lv7,w1,w2,w3⟩,w4,w5,dn7,dn7'⟩:=pz
     obtain ⟨tm,htm,rfl⟩:∃ tm,ts[t3]? = some tm∧x = uX tm:=by
      rw [Bg,Bi] at hx
      obtain ⟨r,h1,h2⟩:=hx;exact ⟨r,h1,h2.symm⟩
     have htmm:=Dr htm
     have htk3:ts.take (t3 + 1) = ts.take t3 ++ [tm]:=by rw [Cj,htm];rfl
     refine AS.tup (xN.cons (AS.name (xN.cons (AS.name (xN.nil ?_)))))
     refine ST.c0 ?_
     intro Qs Qc
     refine zK (zH ?_)
     lk
     refine yI.seq ?_
     by_cases hr:tm.1 = "r"
     ·rw [Dc hr]
      have hrange:=(B.terms b hbm ts (Dr hts) tm htmm).resolve_right (by rw [hr];decide)
      have htm2:((Str.ofString "r",tm.2):xA)∈ts:=by
       have:tm = (Str.ofString "r",tm.2):=Prod.ext hr rfl
       rw [← this];exact htmm
      refine sX ?_
      refine zO X 35 ?_
      refine yO.cons (EX.cell (by assumption) (by rfl) (by rfl) ?_)
      lk
      refine mark_ok X (ω265 hl) B hk hah hal S7 hrange.2.1 hrange.2.2 hat (.use hb hts htm2) (cl7 _) (fun i p=>lv7 i p _) fun H8 M8 S8 fr8 ot8 mo8 lv8 cl8 mem8=>?_
      refine ST.nil (ST.nil ⟨M8,⟨S8,fun a ha=>?_,fun c=>?_,fun j q c hj hc=>?_,w1,w2,w3⟩,w4,w5,fun j q b' ts' c h1 h2 h3 h4=>?_,fun c hc=>?_⟩)
      ·have hx:=k7 a ha
       rw [fr8 a (by rw [hx];exact ha) fun i p h e=>ha (by rw [e];exact hD0 i p h)];exact hx
      ·by_cases e:c = tm.2
       ·rw [e];exact cl8
       ·intro j b' q h1 h2 h3
        have:=cl7 c j b' q h1 h2 ((ot8 j q c e).mp h3)
        exact ⟨fun h k bk hk hg=>((this.1 h k bk hk hg).imp_left (ot8 _ _ c e).mpr),fun q' r h hr hd=>(this.2 q' r h hr hd).imp_left (ot8 _ _ c e).mpr⟩
      ·by_cases e:c = tm.2
       ·rw [e] at hc ⊢;exact lv8 j q hj hc
       ·exact lv7 j q c hj ((ot8 j q c e).mp hc)
      ·have:=dn7 j q b' ts' c h1 h2 h3 h4
       by_cases e:c = tm.2
       ·rw [e] at this ⊢;exact mo8 j q this
       ·exact (ot8 j q c e).mpr this
      ·rw [htk3] at hc
       by_cases e:c = tm.2
       ·rw [e];exact mem8
       ·refine (ot8 i p c e).mpr (dn7' c ((Cx.mp hc).resolve_right fun h=>e ?_))
        rw [← Bf.mp h]
     ·rw [Dj hr]
      refine ST.nil (ST.nil ⟨M7,⟨S7,k7,cl7,lv7,w1,w2,w3⟩,w4,w5,dn7,fun c hc=>dn7' c ?_⟩)
      rw [htk3] at hc
      exact (Cx.mp hc).resolve_right fun h=>hr (by rw [← Bf.mp h])
    ·rintro H7 m7 ⟨M7,hP,w4,w5,dn7,dn7'⟩
     rw [Cp,Dq] at dn7'
     refine ST.nil ⟨M7,hP,w4,fun j q b' ts' c h1 h2 h3 h4=>?_⟩
     rcases h3 with h | ⟨rfl,h⟩
     ·exact dn7 j q b' ts' c h1 h2 (.inl h) h4
     ·by_cases e:q = p
      ·subst e;rw [hb] at h1;cases h1;rw [hts] at h2;cases h2;exact dn7' c h4
      ·exact dn7 j q b' ts' c h1 h2 (.inr ⟨rfl,tT h e⟩) h4
   ·rintro H6 m6 ⟨M6,hP,v4,dn6⟩
    refine ST.nil ⟨M6,hP,fun j p b' ts' c h1 h2 h3 h4=>dn6 j p b' ts' c h1 h2 ?_ h4⟩
    rw [htk] at h3
    rcases Cx.mp h3 with h | h
    ·exact .inl h
    ·refine .inr ⟨Bf.mp h,?_⟩
     have e:=Bf.mp h
     subst e;rw [hb] at h1;cases h1
     rw [Cp];exact (Bc.mp h2).1
  ·rintro H5 m5 ⟨M5,⟨S5,k5,cl5,lv5,u1,u2,u3⟩,dn5⟩
   rw [Cp,Cp,Dq] at dn5
   refine sR ?_
   refine EX.take ?_
   lk
   have hfz:∀ i∈keys,∀ H1:zA,(∀ a∈(List.range ((bs[i]?.map (fun p=>p.rows.length)).getD 0 + 1)).map (D i),H1 a = H5 a)→∃ H2,wH ρ (.lst ((List.range ((bs[i]?.map (fun p=>p.rows.length)).getD 0 + 1)).map fun p=>.ref (D i p))) H1 (.lst ((List.range ((bs[i]?.map (fun p=>p.rows.length)).getD 0 + 1)).map fun p=>.idct (M5 i p) ((M5 i p).map fun _=>.bool true))) H2∧∀ a,a ∉ (List.range ((bs[i]?.map (fun p=>p.rows.length)).getD 0 + 1)).map (D i)→H2 a = H1 a:=by
    intro i hi H1 h1
    obtain ⟨b,hb⟩:∃ b,bs[i]? = some b:=⟨_,Ci ((hk i).mp hi)⟩
    have hA:∀ p,p∈List.range ((bs[i]?.map (fun p=>p.rows.length)).getD 0 + 1)→At bs i p:=fun p hp=>⟨b,hb,by have:=Cg.mp hp;rw [hb] at this;simp at this;exact ω263 this⟩
    obtain ⟨H2,f,s⟩:=rJ (H:=H1) (A:=D i) (o:=fun p=>.idict ((M5 i p).map fun c=>(c,.bool true))) (av:=fun p=>.idct (M5 i p) ((M5 i p).map fun _=>.bool true)) (fun p H h=>by
     have:=wH.idict h
     rw [Bj,Bj,show (M5 i p).map ((fun p=>p.1) ∘ fun c=>((c,AV.bool true):Int×AV)) = M5 i p from List.map_id' _] at this
     exact this) (List.range ((bs[i]?.map (fun p=>p.rows.length)).getD 0 + 1)) (List.nodup_range.imp_of_mem fun hp hq h e=>h (S5.inj i _ i _ (hA _ hp) (hA _ hq) e).2) fun p hp=>by rw [h1 _ (Bm.mpr ⟨p,hp,rfl⟩)];exact S5.tab i p (hA p hp)
    exact ⟨H2,wH.lsts f,fun a ha=>s a fun p hp e=>ha (Bm.mpr ⟨p,hp,e.symm⟩)⟩
   have hA:∀ i∈keys,∀ p,p∈List.range ((bs[i]?.map (fun p=>p.rows.length)).getD 0 + 1)→At bs i p:=fun i hi p hp=>by
    obtain ⟨b,hb⟩:∃ b,bs[i]? = some b:=⟨_,Ci ((hk i).mp hi)⟩
    exact ⟨b,hb,by have:=Cg.mp hp;rw [hb] at this;simp at this;exact ω263 this⟩
   obtain ⟨H6,f6,s6⟩:=pV keys H5 hfz (hnd.imp_of_mem fun hi hj hne a ha hb=>by
    obtain ⟨p,hp,rfl⟩:=Bm.mp ha
    obtain ⟨q,hq,e⟩:=Bm.mp hb
    exact hne (S5.inj _ _ _ _ (hA _ hj _ hq) (hA _ hi _ hp) e).1.symm) fun _ _ _ _=>rfl
   refine ⟨encM bs keys M5,H6,pW f6,?_⟩
   refine q H6 keys M5 hk hnd (fun i p c hat=>⟨lv5 i p c hat,fun h=>?_⟩) S5.nd fun a ha=>?_
   ·clear hat
    induction h with
    | use hb hts hm=>exact dn5 _ _ _ _ _ hb hts ((hk _).mpr (Bc.mp hb).1) hm
    | step hb hr hd _ ih=>exact (((cl5 _ _ _ _ hb (by have:=(Bc.mp hr).1;exact ω24 this) ih).2 _ _ rfl hr hd).resolve_right id)
    | jump hb hg _ ih=>
     obtain ⟨b',hb'⟩:∃ b',bs[_]? = some b':=⟨_,Ci (B.tgt _ _ hb _ hg)⟩
     exact (((cl5 _ _ _ _ hb' (Bv _) ih).1 rfl _ _ hb hg).resolve_right id)
   ·rw [s6 a fun i hi h=>?_,k5 a ha]
    obtain ⟨p,hp,e⟩:=Bm.mp h
    exact ha (by rw [← e];exact hD0 i p (hA i hi p hp))
 rw [List.concat_eq_append] at hWx
 subst hWx
 rw [show (!(nL (W' ++ [j])).isEmpty) = true from by simp [nL,iL]]
 have hkl:=wQ B keys A.nd A.lt
 have hwl:=wQ B _ A.wnd fun i hi=>A.lt i (A.wk i hi)
 have hWz:(nL (W' ++ [j])).length ≤ sizeLine:=by rw [xY,Cu];exact wB hwl
 refine ST.c ?_
 intro Qc
 refine S1.name (EX.pop0 ?_)
 refine xH ?_
 refine ⟨⟨_,A.wt⟩,zE.pop A.wt hWz (x:=.int j) (by simp [nL,iL]) ?_⟩
 rw [show (nL (W' ++ [j])).dropLast = nL W' by simp [nL,iL]]
 have hjk:j∈keys:=A.wk j (by simp)
 have hjW:j ∉ W':=fun h=>(Di.mp A.wnd).2.2 j h j (by simp) rfl
 obtain ⟨b,hb⟩:∃ b,bs[j]? = some b:=⟨_,Ci (A.lt j hjk)⟩
 rw [Ct,Da] at hwl
 refine ST.c ?_
 intro Qc
 refine yB (INM5 H bs ad wa keys W' j b) ?_
 refine zO X 34 ?_
 refine yO.cons (EX.sub (EX.sub (EX.cell (by assumption) (by rfl) (by rfl) ?_) (by rfl)) (by rfl))
 lk
 refine zY.list (show yJ _ (.lst _) _ from rfl) xO hbl (vQ hb) ?_
 lk
 refine zY.tp rfl ?_
 lk
 refine goals_ok X (ω222 hl) ⟨_,yM.lst,⟨keys,ah,E,W',A.pop,hjk,hjW,fun i hi hw hne b hb=>cl i hi (fun h=>(Cx.mp h).elim hw fun h=>hne (Bf.mp h)) b hb,by simp,Ag _,m1,m2',m3,rfl⟩,?_,?_⟩
 ·rintro t x H3 m4 hx ⟨keys,ah,E,W,A,c1,c2,c3,c4,c5,u1,u2,u3,u4⟩
  refine sealG ?_
  intro Gs
  obtain ⟨g,hg,rfl⟩:=nL_at hx
  have hgm:g∈yN b.e:=Dr hg
  have hgl:=B.tgt j b hb g hgm
  have hkl:=wQ B keys A.nd A.lt
  have hwl:=wQ B _ A.wnd fun i hi=>A.lt i (A.wk i hi)
  have tail:∀ (H4:zA) (m5:zN) keys' ah' E' W',AHD H H4 bs ad wa keys' ah' E' W'→j∈keys'→j ∉ W'→(∀ i∈keys',i ∉ W'→i ≠ j→∀ b,bs[i]? = some b→∀ g∈yN b.e,g∈keys'∧i∈ah' g)→(∀ g∈(yN b.e).take t,g∈keys'∧j∈ah' g)→2 * (6 - keys'.length) + W'.length ≤ 2 * (6 - keys.length) + W.length→g∈keys'→m5 "blocks" = some (.lst (bs.map wO))→m5 "ahead" = some (.ref ad)→m5 "waiting" = some (.ref wa)→m5 "at" = some (.int j)→m5 "number" = some (.int g) →
    ST ρ (l + 1) (wN (yR (zJ 36)) L qual (fa 36) code) ((inB ((inB ((xD (zJ 36)).drop 1)).drop 1)).drop 1) H4 m5 (onN fun H' m'=>∃ keys' ah' E' W'',AHD H H' bs ad wa keys' ah' E' W''∧j∈keys'∧j ∉ W''∧(∀ i∈keys',i ∉ W''→i ≠ j→∀ b,bs[i]? = some b→∀ g∈yN b.e,g∈keys'∧i∈ah' g)∧(∀ g∈(yN b.e).take (t + 1),g∈keys'∧j∈ah' g)∧2 * (6 - keys'.length) + W''.length ≤ 2 * (6 - keys.length) + W.length∧m' "blocks" = some (.lst (bs.map wO))∧m' "ahead" = some (.ref ad)∧m' "waiting" = some (.ref wa)∧m' "at" = some (.int j)):=by
   intro H4 m5 keys' ah' E' W' A' d1 d2 d3 d4 d5 d6 v1 v2 v3 v4 v5
   have htk:(yN b.e).take (t + 1) = (yN b.e).take t ++ [g]:=by rw [Cj,hg];rfl
   refine ST.c0 ?_
   intro Qs Qc
   refine zK (zH ?_)
   lk
   refine zY.idict (show uZ _ (.ref ad) _ from A'.top) (xJ keys' _ d6) ?_
   refine tH (ns:=(ah' g).map fun (n:Nat)=>(n:Int)) (show yJ _ (.ref _) _ from A'.row g d6) ?_
   have hmem:((j:Int)∈(ah' g).map fun (n:Nat)=>(n:Int))↔j∈ah' g:=by
    rw [Bm];exact ⟨fun ⟨i,hi,e⟩=>Int.ofNat.inj e ▸ hi,fun h=>⟨j,h,rfl⟩⟩
   by_cases hja:j∈ah' g
   ·rw [Dc (hmem.mpr hja)]
    refine ST.nil (ST.nil ⟨keys',ah',E',W',A',d1,d2,d3,fun g' hg'=>?_,d5,v1,v2,v3,v4⟩)
    rw [htk] at hg'
    rcases Cx.mp hg' with h | h
    ·exact d4 g' h
    ·rw [Bf.mp h];exact ⟨d6,hja⟩
   ·rw [Dj fun h=>hja (hmem.mp h)]
    refine ST.c ?_
    intro Qc
    refine zV (EX.append ?_)
    lk
    refine zY.idict (show uZ _ (.ref ad) _ from A'.top) (xJ keys' _ d6) ?_
    refine ⟨⟨_,A'.row g d6⟩,?_⟩
    lk
    have hal:=wQ B _ (A'.ok g d6).1 fun i hi=>by obtain ⟨b,hb,_⟩:=(A'.ok g d6).2 i hi;exact (Bc.mp hb).1
    refine zE.append (A'.row g d6) (by rw [xY,Cu];exact wB hal) ?_
    refine ST.nil (ST.nil ⟨keys',_,E',W',A'.app d6 hja hb hgm,d1,d2,fun i hi hw hne b hb g' hg'=>?_,fun g' hg'=>?_,d5,v1,v2,v3,v4⟩)
    ·have:=d3 i hi hw hne b hb g' hg'
     refine ⟨this.1,?_⟩
     by_cases e:g' = g
     ·subst e;simp only [Ay];exact Cy _ this.2
     ·simp only [Aa e];exact this.2
    ·rw [htk] at hg'
     by_cases e:g' = g
     ·subst e;simp only [Ay];exact ⟨d6,by simp⟩
     ·simp only [Aa e]
      refine sealG ?_
      intro Gs
      rcases Cx.mp hg' with h | h
      ·exact d4 g' h
      ·exact absurd (Bf.mp h) e
  refine AS.name ?_
  refine ST.c0 ?_
  intro Qs Qc
  refine zK (zH ?_)
  lk
  refine sU (show uZ _ (.ref ad) _ from A.top) ?_
  by_cases hgk:g∈keys
  ·rw [xJ keys _ hgk]
   refine ST.nil ?_
   refine (tail H3 (wA m4 "number" (.int g)) keys ah E W A c1 c2 c3 c4 (Ag _) hgk u1 u2 u3 u4 rfl).mono fun af H' m' h=>?_
   cases af <;> first | exact h.elim | skip
   refine sealG ?_
   intro Gs
   obtain ⟨a1,a2,a3,a4,a5,a6,a7,a8,a9,h,v1,v2,v3,v4⟩:=h
   exact ⟨a1,a2,a3,a4,a5,a6,a7,a8,a9,ω266 c5 h,v1,v2,v3,v4⟩
  ·rw [rE keys _ hgk]
   refine ST.c ?_
   intro Qc
   refine S1.sub (xQ ?_)
   lk
   intro e he
   lk
   have hne:ad ≠ e:=fun h=>by rw [← h,A.top] at he;cases he
   refine wT.idict (show upd H3 e _ ad = _ by rw [zB hne];exact A.top) (by rw [Cp,Cu];exact wB hkl) ?_
   rw [qL (by rw [rE keys _ hgk];rfl)]
   have hnw:wa ≠ e:=fun h=>by rw [← h,A.wt] at he;cases he
   have hwt:upd (upd H3 e (.list [])) ad (.idict ((keys.map fun (i:Nat)=>((i:Int),AV.ref (E i))) ++ [((g:Int),.ref e)])) wa = some (.list (nL W)):=by rw [zB (Ne.symm A.aw),zB hnw];exact A.wt
   refine ST.c ?_
   intro Qc
   refine zV (EX.append ?_)
   refine xH ?_
   refine ⟨⟨_,hwt⟩,?_⟩
   lk
   refine zE.append hwt (by rw [xY,Cu];exact wB hwl) ?_
   refine ST.nil ?_
   have hkl2:=wQ B _ (A.new he hgk hgl).nd (A.new he hgk hgl).lt
   rw [Ct,Da] at hkl2
   have hjg:j ≠ g:=fun h=>hgk (h ▸ c1)
   refine (tail _ (wA m4 "number" (.int g)) _ _ _ _ (A.new he hgk hgl) (Cy _ c1) (fun h=>(Cx.mp h).elim c2 fun h=>hjg (Bf.mp h)) (fun i hi hw hne b hb g' hg'=>?_) (fun g' hg'=>?_) ?_ (by simp) u1 u2 u3 u4 rfl).mono fun af H' m' h=>?_
   ·have hi':i∈keys:=(Cx.mp hi).resolve_right fun h=>hw (Cz _ h)
    have:=c3 i hi' (fun h=>hw (Cy _ h)) hne b hb g' hg'
    refine ⟨Cy _ this.1,?_⟩
    rw [Aa fun (e:g' = g)=>hgk (by rw [← e];exact this.1)];exact this.2
   ·have:=c4 g' hg'
    refine ⟨Cy _ this.1,?_⟩
    rw [Aa fun (e:g' = g)=>hgk (by rw [← e];exact this.1)];exact this.2
   ·simp only [Ct,Da];exact zw 4 0 2 3 0x1015112000202a1010151120020091008a2150284921502076266115406115056110546110 rfl hkl hkl2 hjg
   ·cases af <;> first | exact h.elim | skip
    refine sealG ?_
    intro Gs
    obtain ⟨a1,a2,a3,a4,a5,a6,a7,a8,a9,h,v1,v2,v3,v4⟩:=h
    exact ⟨a1,a2,a3,a4,a5,a6,a7,a8,a9,ω266 c5 h,v1,v2,v3,v4⟩
 ·rintro H3 m4 ⟨keys',ah',E',W'',A',c1,c2,c3,c4,c5,u1,u2,u3,u4⟩
  rw [xY,Dq] at c4
  refine ST.nil ⟨_,?_,keys',ah',E',W'',A',fun i hi hw b' hb' g hg=>?_,rfl,u1,u2,u3⟩
  ·rw [Ct,Da];exact zw 4 0 2 1 0x1141184a21502692150218a21502692150207611056110 rfl c5
  ·by_cases e:i = j
   ·subst e;rw [hb] at hb';cases hb';exact c4 g hg
   ·exact c3 i hi hw e b' hb' g hg
end
end
section
theorem yV (kvs:List (Int×AV)) (c:Int):(yE kvs c).isSome = decide (c∈kvs.map (fun p=>p.1)):=by
 unfold yE
 rw [Option.isSome_map,Bool.eq_iff_iff,List.find?_isSome,Bq,Bm]
 simp
theorem sH {kvs:List (Int×AV)} {c:Int} {x:AV} (h:yE kvs c = some x):(c,x)∈kvs:=by
 unfold yE at h
 rw [Bi] at h
 obtain ⟨p,h1,rfl⟩:=h
 have h2:=List.find?_some h1
 have h3:=List.mem_of_find?_eq_some h1
 have:p.1 = c:=by simpa using h2
 rw [← this];exact h3
theorem pH (kvs:List (Int×AV)) (k:Int) (x:AV):(keep kvs k x).map (fun p=>p.1) = if k∈kvs.map (fun p=>p.1) then kvs.map (fun p=>p.1) else kvs.map (fun p=>p.1) ++ [k]:=by
 unfold keep
 by_cases h:k∈kvs.map (fun p=>p.1)
 ·rw [Ab h,Ab,Bj]
  ·exact Cf fun p U=>by simp only [Function.comp];split <;> rfl
  ·refine sealG ?_
   intro Gs
   obtain ⟨p,hp,e⟩:=Bm.mp h
   exact Bp.mpr ⟨p,hp,by simpa using e⟩
 ·rw [Aa h,Aa]
  ·simp
  ·intro q;obtain ⟨p,hp,e⟩:=Bp.mp q
   exact h (Bm.mpr ⟨p,hp,by simpa using e⟩)
theorem nK {kvs:List (Int×AV)} {k:Int} {x:AV} (h:(kvs.map (fun p=>p.1)).Nodup):((keep kvs k x).map (fun p=>p.1)).Nodup:=by
 rw [pH];split
 ·exact h
 ·rename_i hk;rw [Di];exact ⟨h,by simp,fun a ha b hb=>by rw [Bf.mp hb];exact fun e=>hk (e ▸ ha)⟩
theorem yZ {kvs:List (Int×AV)} {k:Int} {x:AV} {c:Int}:c∈(keep kvs k x).map (fun p=>p.1)↔c∈kvs.map (fun p=>p.1)∨c = k:=by
 rw [pH];split
 ·rename_i hk;exact ⟨.inl,fun h=>h.elim id fun e=>e ▸ hk⟩
 ·simp
theorem pG {kvs:List (Int×AV)} {k:Int} {x:AV} {p:Int×AV} (h:p∈keep kvs k x):p∈kvs∨p = (k,x):=by
 unfold keep at h
 split at h
 ·obtain ⟨q,hq,e⟩:=Bm.mp h
  by_cases hk:q.1 = k
  ·rw [Ab hk] at e;rw [← e,hk];exact .inr rfl
  ·rw [Aa hk] at e;rw [← e];exact .inl hq
 ·exact (Cx.mp h).imp_right fun h=>by simpa using h
theorem uD (ks:List Int) (k:Int):keep (ks.map fun c=>(c,AV.bool true)) k (.bool true) = (if k∈ks then ks else ks ++ [k]).map fun c=>(c,AV.bool true):=by
 unfold keep
 by_cases h:k∈ks
 ·rw [Ab h,Ab,Bj]
  ·exact Cf fun c U=>by simp only [Function.comp];split <;> simp_all
  ·exact Bp.mpr ⟨(k,.bool true),Bm.mpr ⟨k,h,rfl⟩,by simp⟩
 ·rw [Aa h,Aa]
  ·simp
  ·intro q;obtain ⟨p,hp,e⟩:=Bp.mp q
   obtain ⟨c,hc,rfl⟩:=Bm.mp hp
   exact h (by rw [← show c = k by simpa using e];exact hc)
noncomputable def pP (ks:List Int) (k:Int):List Int:=if k∈ks then ks else ks ++ [k]
theorem wS {ks:List Int} {k c:Int}:c∈pP ks k↔c∈ks∨c = k:=by
 unfold pP;split
 ·rename_i h;exact ⟨.inl,fun q=>q.elim id fun e=>e ▸ h⟩
 ·simp
theorem wG {ks:List Int} {k:Int} (h:ks.Nodup):(pP ks k).Nodup:=by
 unfold pP;split
 ·exact h
 ·rename_i hk;rw [Di];exact ⟨h,by simp,fun a ha b hb=>by rw [Bf.mp hb];exact fun e=>hk (e ▸ ha)⟩
noncomputable def zZ (ts:List xA):List Int:=(ts.filter fun t=>decide (t.1 = Str.ofString "r")).map (fun p=>p.2)
theorem yU {ts:List xA} {c:Int}:c∈zZ ts↔((Str.ofString "r",c):xA)∈ts:=by
 unfold zZ;rw [Bm]
 constructor
 ·rintro ⟨t,ht,rfl⟩
  obtain ⟨h1,h2⟩:=List.mem_filter.mp ht
  have:t = (Str.ofString "r",t.2):=Prod.ext (Ad h2) rfl
  rw [← this];exact h1
 ·intro h;exact ⟨_,List.mem_filter.mpr ⟨h,Dc rfl⟩,rfl⟩
theorem wZ {ts:List xA} {i:Nat} {t:xA} (h:ts[i]? = some t):zZ (ts.take (i + 1)) = zZ (ts.take i) ++ if t.1 = "r" then [t.2] else []:=by
 unfold zZ;rw [Cj,h,Option.toList_some,List.filter_append,Bt]
 congr 1
 by_cases e:t.1 = "r"
 ·rw [Ab e];simp [e]
 ·rw [Aa e];simp [e]
theorem rS (ts:List xA):(zZ ts).length ≤ ts.length:=by unfold zZ;rw [Cp];exact List.length_filter_le _ _
noncomputable def rR (bs:List yF) (c:Int):Prop:=0 ≤ c∧∃ b∈bs,(∃ r∈b.rows,r.dst = c)∨∃ ts∈yD b,((Str.ofString "r",c):xA)∈ts
noncomputable def uK (b:yF):rQ:=⟨"end",-1,(yS b.c b.v b.e).terms,.int 0⟩
section
variable {l:Nat} {H:zA} {Q:AV→zA→Prop} {k:Nat}
theorem yA {α β:Type} {f:α→β} {xs:List α} {i:Nat} {x:β} (h:(xs.map f)[i]? = some x):∃ y,xs[i]? = some y∧x = f y:=by
 rw [Bg,Bi] at h
 refine sealG ?_
 intro Gs
 obtain ⟨r,h1,h2⟩:=h;exact ⟨r,h1,h2.symm⟩
theorem named_mem {bs:List yF} {c:Int}:rR bs c↔0 ≤ c∧∃ b∈bs,∃ r∈b.rows ++ [uK b],c∈r.dst :: zZ r.terms:=by
 unfold rR
 constructor
 ·rintro ⟨h0,b,hb,h⟩
  refine ⟨h0,b,hb,?_⟩
  refine sealG ?_
  intro Gs
  rcases h with ⟨r,hr,rfl⟩ | ⟨ts,hts,hc⟩
  ·exact ⟨r,Cy _ hr,Db⟩
  ·refine sealG ?_
   intro Gs
   rcases Cx.mp hts with h | h
   ·refine sealG ?_
    intro Gs
    obtain ⟨r,hr,rfl⟩:=Bm.mp h
    exact ⟨r,Cy _ hr,Dh _ (yU.mpr hc)⟩
   ·rw [Bf.mp h] at hc
    exact ⟨uK b,by simp,Dh _ (yU.mpr hc)⟩
 ·rintro ⟨h0,b,hb,r,hr,hc⟩
  refine ⟨h0,b,hb,?_⟩
  refine sealG ?_
  intro Gs
  rcases Cx.mp hr with h | h
  ·refine sealG ?_
   intro Gs
   rcases Be.mp hc with e | hc
   ·exact .inl ⟨r,h,e.symm⟩
   ·exact .inr ⟨r.terms,Cy _ (Bm.mpr ⟨r,h,rfl⟩),yU.mp hc⟩
  ·rw [Bf.mp h] at hc
   refine sealG ?_
   intro Gs
   rcases Be.mp hc with e | hc
   ·have:c = -1:=e;exact (zw 0 2 0 3 0x10010791114001051100105010013 rfl h0 e this).elim
   ·exact .inr ⟨_,Cz _ (Bf.mpr rfl),yU.mp hc⟩
inductive INN1 (bs:List yF) (fd:Addr) (I:zA→List (Int×AV)→Prop) (t:Nat) (H':zA) (m':zN):Prop
 | mk:∀ kvs,I H' kvs→(∀ b∈bs.take t,∀ r∈b.rows ++ [uK b],∀ c∈r.dst :: zZ r.terms,0 ≤ c→c∈kvs.map (fun p=>p.1))→m' "found" = some (.ref fd)→INN1 bs fd I t H' m'
inductive INN2 (bs:List yF) (fd:Addr) (I:zA→List (Int×AV)→Prop) (t:Nat) (b:yF) (t2:Nat) (H':zA) (m':zN):Prop
 | mk:∀ kvs,I H' kvs→(∀ b∈bs.take t,∀ r∈b.rows ++ [uK b],∀ c∈r.dst :: zZ r.terms,0 ≤ c→c∈kvs.map (fun p=>p.1))→(∀ r∈(b.rows ++ [uK b]).take t2,∀ c∈r.dst :: zZ r.terms,0 ≤ c→c∈kvs.map (fun p=>p.1))→m' "found" = some (.ref fd)→INN2 bs fd I t b t2 H' m'
inductive INN3 (bs:List yF) (fd:Addr) (I:zA→List (Int×AV)→Prop) (t:Nat) (b:yF) (t2:Nat) (r:rQ) (t3:Nat) (H':zA) (m':zN):Prop
 | mk:∀ kvs,I H' kvs→(∀ b∈bs.take t,∀ r∈b.rows ++ [uK b],∀ c∈r.dst :: zZ r.terms,0 ≤ c→c∈kvs.map (fun p=>p.1))→(∀ r∈(b.rows ++ [uK b]).take t2,∀ c∈r.dst :: zZ r.terms,0 ≤ c→c∈kvs.map (fun p=>p.1))→(∀ c∈(r.dst :: zZ r.terms).take t3,0 ≤ c→c∈kvs.map (fun p=>p.1))→m' "found" = some (.ref fd)→INN3 bs fd I t b t2 r t3 H' m'
theorem named_ok (X:Prog K ρ.base fa) (hl:l ≤ 28) {bs:List yF} {nx:Nat} (B:BOK bs nx)
  (q:∀ H' (ks:List Int) xs,ks.Nodup→(∀ c,c∈ks↔rR bs c)→Kp H H'→Q (.idct ks xs) H') :
  zE ρ l (.ref (fa 37)) [.lst (bs.map wO)] H Q:=by
 refine zE.fn X.S (ω83 hl) (X.fn 37 (by decide)).2 rfl (by decide) (fun L qual code hc=>?_) (by intro x hx;left;revert x hx;decide)
 refine ST.c ?_
 intro Qc
 refine S1.name (xR X.S (.inr fun fd hfd=>?_))
 let I:zA→List (Int×AV)→Prop:=fun H' kvs=>H' fd = some (.idict kvs)∧(kvs.map (fun p=>p.1)).Nodup∧(∀ p∈kvs,∃ i,p.2 = .int i)∧(∀ c∈kvs.map (fun p=>p.1),rR bs c)∧Kp H H'
 have klen:∀ {H' kvs},I H' kvs→kvs.length ≤ 50:=fun {H' kvs} h=>by
  have:=yH (N:=50) h.2.1 fun c hc=>by
   have:=h.2.2.2.1 c hc
   obtain ⟨h0,b,hb,h⟩:=this
   refine ⟨h0,?_⟩
   have hn:=B.nxb
   rcases h with ⟨r,hr,e⟩ | ⟨ts,hts,hc⟩
   ·exact Int.lt_of_lt_of_le (p_rng e h0 (B.row b hb r hr).2) (Int.ofNat_le.mpr (Ah hn (by decide)))
   ·rcases B.terms b hb ts hts _ hc with h | h
    ·exact Int.lt_of_lt_of_le h.2.2 (Int.ofNat_le.mpr (Ah hn (by decide)))
    ·exact absurd h (show ¬ Str.ofString "r" = Str.ofString "k" by decide)
  rw [Cp] at this;exact this
 refine ST.c ?_
 intro Qc
 refine yB (INN1 bs fd I) ?_
 lk
 refine ⟨_,yM.lst,⟨[],⟨zC,by simp,by simp,by simp,.new hfd⟩,by simp,rfl⟩,?_,?_⟩
 ·rintro t x H1 m1 hx ⟨kv1,I1,d1,u1⟩
  obtain ⟨b,hb,rfl⟩:=yA hx
  have hbm:=Dr hb
  have hrz:=B.rsz b hbm
  have hts:∀ r∈b.rows ++ [uK b],r.terms.length ≤ 10:=fun r hr=>by
   rcases Cx.mp hr with h | h
   ·exact B.tsz b hbm _ (Cy _ (Bm.mpr ⟨r,h,rfl⟩))
   ·rw [Bf.mp h];exact B.tsz b hbm _ (Cz _ (Bf.mpr rfl))
  have htk:bs.take (t + 1) = bs.take t ++ [b]:=by rw [Cj,hb];rfl
  refine AS.tup (xN.cons (AS.name (xN.cons (AS.name (xN.nil ?_)))))
  refine ST.c ?_
  intro Qc
  refine yB (INN2 bs fd I t b) ?_
  refine yY ?_
  lk
  refine zY.tp rfl ?_
  lk
  refine wL (show yJ _ (.lst _) _ from rfl) (show yJ _ (.lst _) _ from rfl) (by rw [Cp,Cu];simp;exact zy 1 1 0x114ffffff6150642150 rfl hrz) (.inl ?_)
  rw [show b.rows.map xG ++ [AV.tup [.str "end",.int (-1),.lst ((yS b.c b.v b.e).terms.map uX),.int 0]] = (b.rows ++ [uK b]).map xG by rw [Bt];rfl]
  refine ⟨_,yM.lst,⟨kv1,I1,d1,by simp,u1⟩,?_,?_⟩
  ·rintro t2 x H2 m2 hx ⟨kv2,I2,d2,d2',u2⟩
   obtain ⟨r,hr,rfl⟩:=yA hx
   have hrm:=Dr hr
   have hrt:=hts r hrm
   have htk2:(b.rows ++ [uK b]).take (t2 + 1) = (b.rows ++ [uK b]).take t2 ++ [r]:=by rw [Cj,hr];rfl
   refine AS.tup (xN.cons (AS.name (xN.cons (AS.name (xN.cons (AS.name (xN.cons (AS.name (xN.nil ?_)))))))))
   refine ST.c ?_
   intro Qc
   refine yB (INN3 bs fd I t b t2 r) ?_
   refine yY ?_
   lk
   refine vH X.S (cl:=[]) [] (.of (by rfl) (by rfl) (by rfl) (by rfl)) ?_
   lk
   refine ⟨_,yM.lst,fun s ys H' m'=>H' = H2∧ys = iL (zZ (r.terms.take s)),⟨rfl,rfl⟩,?_,?_⟩
   ·rintro L' s x ys H' m' hx ⟨rfl,rfl⟩
    obtain ⟨tm,htm,rfl⟩:=yA hx
    refine AS.name ?_
    refine (show TR ρ _ _ _ _ _ _ from zH ?_)
    lk
    refine zY.tp rfl ?_
    lk
    refine yI.seq ?_
    by_cases hr:tm.1 = "r"
    ·rw [Dc hr]
     lk
     refine zY.tp rfl ⟨?_,rfl,by rw [wZ htm,Ab hr,← vX]⟩
     have:=rS (r.terms.take s)
     rw [Cs] at this
     rw [zP,Cu];exact zw 3 0 1 2 0x11001181101118010000007160860a1150571 rfl hrt this
    ·rw [Dj hr]
     exact ⟨rfl,by rw [wZ htm,Aa hr,List.append_nil]⟩
   ·rintro ys H' m' ⟨rfl,rfl⟩
    rw [Cp,Dq]
    have hrl:=rS r.terms
    refine .inl (wL (show yJ _ (.lst _) _ from rfl) (show yJ _ (.lst _) _ from rfl) (by rw [zP,Cu];simp;exact zy 2 2 0x1115100000071611120560a1150 rfl hrt hrl) (.inl ?_))
    rw [show [AV.int r.dst] ++ iL (zZ r.terms) = iL (r.dst :: zZ r.terms) from rfl]
    refine ⟨_,yM.lst,⟨kv2,I2,d2,d2',by simp,u2⟩,?_,?_⟩
    ·rintro t3 x H3 m3 hx ⟨kv3,I3,d3,d3',d3'',u3⟩
     obtain ⟨c,hc,rfl⟩:=yA hx
     have hcm:=Dr hc
     have htk3:(r.dst :: zZ r.terms).take (t3 + 1) = (r.dst :: zZ r.terms).take t3 ++ [c]:=by rw [Cj,hc];rfl
     refine AS.name ?_
     refine ST.c ?_
     intro Qc
     refine zK (zH ?_)
     lk
     refine yI.ge ?_
     by_cases h0:0 ≤ c
     ·rw [Dc h0]
      refine ST.c ?_
      intro Qc
      refine S1.sub (yY (qU ?_))
      lk
      have hl3:=klen I3
      refine ⟨⟨_,I3.1⟩,?_⟩
      lk
      refine zE.get (show uZ _ (.ref fd) _ from I3.1) ?_
      obtain ⟨i,hi⟩:∃ i,(yE kv3 c).getD (.int 0) = .int i:=by
       cases h:yE kv3 c with
       | none=>exact ⟨0,rfl⟩
       | some x=>obtain ⟨i,e⟩:=I3.2.2.1 _ (sH h);exact ⟨i,e⟩
      rw [hi]
      lk
      refine xW.add ?_
      lk
      refine wT.idict I3.1 (by rw [Cu];exact vN hl3) ?_
      refine ST.nil (ST.nil ⟨_,⟨zC,nK I3.2.1,fun p hp=>?_,fun d hd=>?_,fun a ha=>by rw [zB fun e=>ha (by rw [e];exact hfd)];exact I3.2.2.2.2 a ha⟩,fun b hb r hr d hd h0=>yZ.mpr (.inl (d3 b hb r hr d hd h0)),fun r hr d hd h0=>yZ.mpr (.inl (d3' r hr d hd h0)),fun d hd h0'=>yZ.mpr ?_,u3⟩)
      ·rcases pG hp with h | h
       ·exact I3.2.2.1 p h
       ·exact ⟨_,by rw [h]⟩
      ·rcases yZ.mp hd with h | h
       ·exact I3.2.2.2.1 d h
       ·rw [h];exact named_mem.mpr ⟨h0,b,hbm,r,hrm,hcm⟩
      ·rw [htk3] at hd
       rcases Cx.mp hd with h | h
       ·exact .inl (d3'' d h h0')
       ·exact .inr (Bf.mp h)
     ·rw [Dj h0]
      refine ST.nil (ST.nil ⟨kv3,I3,d3,d3',fun d hd h0'=>?_,u3⟩)
      rw [htk3] at hd
      rcases Cx.mp hd with h | h
      ·exact d3'' d h h0'
      ·rw [Bf.mp h] at h0';exact absurd h0' h0
    ·rintro H3 m3 ⟨kv3,I3,d3,d3',d3'',u3⟩
     rw [zP,Dq] at d3''
     refine ST.nil ⟨kv3,I3,d3,fun r' hr'=>?_,u3⟩
     rw [htk2] at hr'
     rcases Cx.mp hr' with h | h
     ·exact d3' r' h
     ·rw [Bf.mp h];exact d3''
  ·rintro H2 m2 ⟨kv2,I2,d2,d2',u2⟩
   rw [Cp,Dq] at d2'
   refine ST.nil ⟨kv2,I2,fun b' hb'=>?_,u2⟩
   rw [htk] at hb'
   rcases Cx.mp hb' with h | h
   ·exact d2 b' h
   ·rw [Bf.mp h];exact d2'
 ·rintro H1 m1 ⟨kv1,I1,d1,u1⟩
  rw [Cp,Dq] at d1
  refine ST.take (x:="found") u1 (wH.idict I1.1) ?_
  refine sR ?_
  lk
  refine q _ _ _ I1.2.1 (fun c=>⟨I1.2.2.2.1 c,fun h=>?_⟩) fun a ha=>?_
  ·obtain ⟨h0,b,hb,r,hr,hc⟩:=named_mem.mp h
   exact d1 b hb r hr c hc h0
  ·rw [zR fun e=>ha ?_];exact I1.2.2.2.2 a ha
   rw [e];exact hfd
end
end
section
theorem rG (H:zA) (ks:List Int) (f:Int→AV):uZ H (.idct ks (ks.map f)) (ks.map fun c=>(c,f c)):=by
 constructor <;> rw [Bj]
 ·exact List.map_id' _
 ·rfl
theorem tB (ks:List Int) (f:Int→AV) (c:Int):yE (ks.map fun c=>(c,f c)) c = if c∈ks then some (f c) else none:=by
 unfold yE
 induction ks with
 | nil=>rfl
 | cons x xs ih=>
  rw [Ba,List.find?_cons]
  by_cases e:x = c
  ·subst e;simp
  ·simp only [e,decide_false,Be,show ¬ c = x from fun h=>e h.symm,false_or];exact ih
theorem pD {bs:List yF} {i p:Nat} {c:Int} (h:yK bs i p c):∃ b∈bs,∃ ts∈yD b,((Str.ofString "r",c):xA)∈ts:=by
 induction h with
 | use hb hts hm=>exact ⟨_,Dr hb,_,Dr hts,hm⟩
 | step _ _ _ _ ih=>exact ih
 | jump _ _ _ ih=>exact ih
theorem xF {bs:List yF} {nx:Nat} (B:BOK bs nx) {b:yF} (hb:b∈bs) {ts:List xA} (hts:ts∈yD b) {c:Int} (hc:((Str.ofString "r",c):xA)∈ts):0 ≤ c∧c < nx:=by
 rcases B.terms b hb ts hts _ hc with h | h
 ·exact h.2
 ·exact absurd h (show ¬ Str.ofString "r" = Str.ofString "k" by decide)
theorem uF {bs:List yF} {nx:Nat} (B:BOK bs nx) {i p:Nat} {c:Int} (h:yK bs i p c):rR bs c:=by
 obtain ⟨b,hb,ts,hts,hc⟩:=pD h
 exact ⟨(xF B hb hts hc).1,b,hb,.inr ⟨ts,hts,hc⟩⟩
theorem uS {bs:List yF} {nx:Nat} (B:BOK bs nx) {c:Int} (h:rR bs c):0 ≤ c∧c < nx:=by
 obtain ⟨h0,b,hb,h⟩:=h
 refine ⟨h0,?_⟩
 rcases h with ⟨r,hr,e⟩ | ⟨ts,hts,hc⟩
 ·exact p_rng e h0 (B.row b hb r hr).2
 ·exact (xF B hb hts hc).2
noncomputable def rV (r:rQ):Prop:=r.op = Str.ofString "call"∨r.op = Str.ofString "callreg"
noncomputable def uC (bs:List yF) (i p:Nat) (c:Int):Prop:=∃ b r,bs[i]? = some b∧b.rows[p]? = some r∧rV r∧yK bs i (p + 1) c∧c ≠ r.dst
noncomputable def oK (x:Int×Int):AV:=.tup [.int x.1,.int x.2]
noncomputable def tru (ks:List Int):List (Int×AV):=ks.map fun c=>(c,.bool true)
noncomputable def oJ (ks:List Int):AV:=.idct ks (ks.map fun U=>.bool true)
noncomputable def encN (ks:List Int) (N:Int→List Int):AV:=.idct ks (ks.map fun c=>oJ (N c))
section
variable {l:Nat} {H:zA} {Q:AV→zA→Prop} {k:Nat}
theorem wH.tru {H:zA} {a:Addr} {ks:List Int} (h:H a = some (.idict (tru ks))):wH ρ (.ref a) H (oJ ks) (del H a):=by
 have:=wH.idict h
 unfold Mine.tru at this
 rw [Bj,Bj,show ks.map ((fun p=>p.1) ∘ fun c=>((c,AV.bool true):Int×AV)) = ks from List.map_id' _] at this
 exact this
inductive INO0 (H:zA) (bs:List yF) (keys:List Nat) (M:Nat→Nat→List Int) (ks:List Int) (D:Int→Addr) (cx pa:Addr) (n:Nat) (H':zA) (m':zN) (Dn:(Int→Prop)):Prop
 | mk:∀ (P:List (Int×Int)) (C:List Int),H' pa = some (.list (P.map oK))→H' cx = some (.idict (tru C))→(∀ c∈ks,H' (D c) = some (.idict []))→(∀ x∈P,x.1∈ks∧x.2∈ks)→P.length ≤ n→C.Nodup→(∀ c∈C,∃ i p,uC bs i p c)→(∀ c,Dn c→c∈C)→Kp H H'→m' "blocks" = some (.lst (bs.map wO))→m' "alive" = some (encM bs keys M)→m' "near" = some (.idct ks (ks.map fun c=>.ref (D c)))→m' "crossing" = some (.ref cx)→m' "pairs" = some (.ref pa)→INO0 H bs keys M ks D cx pa n H' m' Dn
inductive INO1 (bs:List yF) (keys:List Nat) (PQ:Nat→zA→zN→(Int→Prop)→Prop) (t i:Nat) (t2:Nat) (H':zA) (m':zN):Prop
 | mk:PQ (100 + 6000 * t + 60 * t2) H' m' (fun c=>(∃ i∈keys.take t,∃ p,uC bs i p c)∨∃ p,p < t2∧uC bs i p c)→m' "at" = some (.int i)→INO1 bs keys PQ t i t2 H' m'
inductive INO2 (bs:List yF) (keys:List Nat) (M:Nat→Nat→List Int) (PQ:Nat→zA→zN→(Int→Prop)→Prop) (t i p:Nat) (r:rQ) (t3:Nat) (H':zA) (m':zN):Prop
 | mk:PQ (100 + 6000 * t + 60 * p + t3) H' m' (fun c=>(∃ i∈keys.take t,∃ p,uC bs i p c)∨(∃ q,q < p∧uC bs i q c)∨(rV r∧c∈(M i (p + 1)).take t3∧c ≠ r.dst))→m' "at" = some (.int i)→m' "row" = some (xG r)→INO2 bs keys M PQ t i p r t3 H' m'
inductive INO3 (H:zA) (ks:List Int) (D:Int→Addr) (cx:Addr) (C:List Int) (t:Nat) (H':zA) (m':zN):Prop
 | mk:∀ N:Int→List Int,(∀ c∈ks,H' (D c) = some (.idict (tru (N c))))→(∀ c∈ks,(N c).Nodup∧∀ d∈N c,d∈ks)→H' cx = some (.idict (tru C))→Kp H H'→m' "near" = some (.idct ks (ks.map fun c=>.ref (D c)))→m' "crossing" = some (.ref cx)→INO3 H ks D cx C t H' m'
inductive JNO0 (H1:zA) (ks:List Int) (t:Nat) (ys:List (Int×AV)) (H':zA) (m':zN):Prop
 | mk:∀ D:Int→Addr,ys = (ks.take t).map (fun c=>(c,.ref (D c)))→(∀ c∈ks.take t,H' (D c) = some (.idict [])∧H1 (D c) = none)→(∀ c∈ks.take t,∀ d∈ks.take t,D c = D d→c = d)→Kp H1 H'→JNO0 H1 ks t ys H' m'
inductive JNO1 (ps ks:List Int) (H2:zA) (D:Int→Addr) (cx:Addr) (t:Nat) (ys:List AV) (H':zA) (m':zN):Prop
 | mk:H' = upd H2 cx (.idict [])→m' "near" = some (.idct ks (ks.map fun c=>.ref (D c)))→m' "params" = some (.lst (iL ps))→∀ P:List (Int×Int),ys = P.map oK→(∀ x∈P,x.1∈ks∧x.2∈ks)→P.length ≤ 10 * t→JNO1 ps ks H2 D cx t ys H' m'
inductive JNO2 (ps ks:List Int) (H2:zA) (D:Int→Addr) (cx:Addr) (t:Nat) (a:Int) (s:Nat) (ys:List AV) (H':zA) (m':zN):Prop
 | mk:H' = upd H2 cx (.idict [])→m' "near" = some (.idct ks (ks.map fun c=>.ref (D c)))→m' "params" = some (.lst (iL ps))→m' "one" = some (.int a)→∀ P:List (Int×Int),ys = P.map oK→(∀ x∈P,x.1∈ks∧x.2∈ks)→P.length ≤ 10 * t + s→JNO2 ps ks H2 D cx t a s ys H' m'
theorem beside_ok (X2:Prog2 K ρ.base fa) (hl:l ≤ 26) {bs:List yF} {nx:Nat} (B:BOK bs nx) {ps:List Int} (hps:ps.length ≤ 10) {keys:List Nat} (hkeys:∀ i,i∈keys↔i < bs.length) (hknd:keys.Nodup) {M:Nat→Nat→List Int} (hM:∀ i p c,At bs i p→(c∈M i p↔yK bs i p c)) (hMn:∀ i p,At bs i p→(M i p).Nodup∧∀ c∈M i p,0 ≤ c∧c < (50:Nat))
  (q:∀ H' (ks:List Int) (N:Int→List Int) (cr:List Int),ks.Nodup→(∀ c,c∈ks↔rR bs c)→(∀ c∈ks,(N c).Nodup∧∀ d∈N c,d∈ks)→cr.Nodup→(∀ c,c∈cr↔∃ i p,uC bs i p c)→Kp H H'→Q (.tup [encN ks N,oJ cr]) H') :
  zE ρ l (.ref (fa 38)) [.lst (bs.map wO),.lst (iL ps),encM bs keys M] H Q:=by
 have X:=X2.toProg
 refine zE.fn X.S (oB hl) (X.fn 38 (by decide)).2 rfl (by decide) (fun L qual code hc=>?_) (by
  intro x hx
  have:x = "blocks"∨x = "params"∨x = "alive":=by revert x hx;decide
  rcases this with rfl | rfl | rfl
  ·exact .inl (by rfl)
  ·exact .inr ⟨by rfl,fun n=>by rfl⟩
  ·exact .inl (by rfl))
 have hbl:(bs.map wO).length ≤ sizeLine:=by rw [Cp,Cu];have:=B.len;exact wB this
 have hlen:=B.len
 have hkl:=wQ B keys hknd fun i hi=>(hkeys i).mp hi
 refine ST.c ?_
 intro Qc
 refine S1.name (EX.compD X.S (cl:=[]) [] (.of (by rfl) (by rfl) (by rfl) (by rfl)) ?_)
 refine zO X 37 ?_
 lk
 refine named_ok X (nE hl) B fun H1 ks xs hnd hks k1=>?_
 have hksl:ks.length ≤ 50:=yH (N:=50) hnd fun c hc=>r50 (uS B ((hks c).mp hc)) B.nxb
 refine ⟨_,yM.idct,JNO0 H1 ks,⟨fun U=>0,rfl,by simp,by simp,.refl⟩,?_,?_⟩
 ·rintro L' t x ys H' m' hx ⟨D,rfl,e2,e3,e4⟩
  obtain ⟨c,hc',rfl⟩:=yA hx
  have htk:ks.take (t + 1) = ks.take t ++ [c]:=by rw [Cj,hc'];rfl
  have hcn:c ∉ ks.take t:=fun h=>by
   have hn:=hnd
   have ht:=(Bc.mp hc').1
   rw [← Dp t ks,Di] at hn
   refine hn.2.2 c h c ?_ rfl
   rw [Ds ht,(Bc.mp hc').2];exact Db
  have hne:∀ d∈ks.take t,d ≠ c:=fun d hd e=>hcn (e ▸ hd)
  refine AS.name ?_
  lk
  refine xR X.S (.inr fun a ha=>⟨_,rfl,?_,?_,fun d=>if d = c then a else D d,?_,fun d hd=>?_,fun d hd d' hd' h=>?_,e4.trans (.new ha)⟩)
  ·rw [Cp,Cs,Cu];exact ω269 hksl
  ·rw [Bj];intro h;obtain ⟨d,hd,e⟩:=Bm.mp h;exact hne d hd e
  ·rw [htk,Bt,List.map_singleton]
   congr 1
   ·exact Cf fun d hd=>by simp only [Aa (hne d hd)]
   ·simp
  ·rw [htk] at hd
   rcases Cx.mp hd with h | h
   ·simp only [Aa (hne d h)]
    have:=e2 d h
    exact ⟨by rw [zB fun e=>by rw [e,ha] at this;cases this.1];exact this.1,this.2⟩
   ·simp only [Ab (Bf.mp h)]
    exact ⟨zC,Ae fun q=>q (by rw [← e4 a q];exact ha)⟩
  ·have hn:∀ d∈ks.take t,D d ≠ a:=fun d hd e=>by have:=(e2 d hd).1;rw [e,ha] at this;cases this
   rw [htk] at hd hd'
   rcases Cx.mp hd with h1 | h1 <;> rcases Cx.mp hd' with h2 | h2
   ·simp only [Aa (hne d h1),Aa (hne d' h2)] at h;exact e3 d h1 d' h2 h
   ·simp only [Aa (hne d h1),Ab (Bf.mp h2)] at h;exact absurd h (hn d h1)
   ·simp only [Aa (hne d' h2),Ab (Bf.mp h1)] at h;exact absurd h.symm (hn d' h2)
   ·rw [Bf.mp h1,Bf.mp h2]
 rintro ys H2 m2 ⟨D,rfl,e2,e3,e4⟩
 rw [Cp,Dq] at e2 e3 ⊢
 refine .inl ?_
 rw [Bj,Bj,show ks.map ((fun p=>p.1) ∘ fun c=>((c,AV.ref (D c)):Int×AV)) = ks from List.map_id' _,show ks.map ((fun p=>p.2) ∘ fun c=>((c,AV.ref (D c)):Int×AV)) = ks.map fun c=>.ref (D c) from rfl]
 have hD0:∀ c∈ks,H (D c) = none:=fun c h=>Ae fun q=>q (by rw [← k1 _ q];exact (e2 c h).2)
 have k2:=k1.trans e4
 refine ST.c0 ?_
 intro Qs Qc
 refine S1.name (xR X.S (.inr fun cx hcx=>?_))
 have hcD:∀ c∈ks,D c ≠ cx:=fun c h e=>by have:=(e2 c h).1;rw [e,hcx] at this;cases this
 have hcx0:H cx = none:=Ae fun q=>q (by rw [← k2 _ q];exact hcx)
 refine ST.c0 ?_
 intro Qs Qc
 refine S1.comp2 X.S (cl:=[("params",L + 1),("near",L + 1 + 1)]) ["params","near"] (.of (by rfl) (by rfl) (by rfl) (by rfl)) (.inl (by rfl)) ?_
 refine EX.cc ?_
 refine ⟨_,yM.lst,JNO1 ps ks H2 D cx,⟨rfl,rfl,rfl,[],rfl,by simp,by simp⟩,?_,?_⟩
 ·rintro L' t x ys H' m' hx ⟨rfl,u1,u2,P,rfl,p1,p2⟩
  obtain ⟨a,ha,rfl⟩:=yA hx
  have ht:t < 10:=by have:=(Bc.mp ha).1;exact zy 2 2 0x1115a1161561a1150 rfl hps this
  refine AS.name ?_
  refine EX.cell (by assumption) (by rfl) (by rfl) ?_
  refine ⟨_,yM.lst,JNO2 ps ks H2 D cx t a,⟨rfl,u1,u2,rfl,P,rfl,p1,p2⟩,?_,?_⟩
  ·rintro s y ys H' m' hy ⟨rfl,u1,u2,u3,P,rfl,p1,p2⟩
   obtain ⟨b,hb,rfl⟩:=yA hy
   have hs:s < 10:=by have:=(Bc.mp hb).1;exact zy 2 2 0x1115a1161561a1150 rfl hps this
   refine AS.name ?_
   refine (show TR ρ _ _ _ _ _ _ from TR.bool (sC.cons (zH ?_)))
   lk
   refine EX.cell (by assumption) (by rfl) (by rfl) ?_
   refine wK (rG _ ks _) ?_
   rw [tB]
   by_cases h1:a∈ks
   ·rw [Ab h1]
    refine sC.cons (zH ?_)
    lk
    refine EX.cell (by assumption) (by rfl) (by rfl) ?_
    refine wK (rG _ ks _) ?_
    rw [tB]
    by_cases h2:b∈ks
    ·rw [Ab h2]
     refine sC.nil ?_
     refine EX.tup ?_
     lk
     exact ⟨by rw [Cp,Cu];exact ω271 ht p2 hs,rfl,u1,u2,u3,P ++ [(a,b)],by rw [Bt];rfl,fun x hx=>(Cx.mp hx).elim (p1 x) fun h=>by rw [Bf.mp h];exact ⟨h1,h2⟩,by rw [Ct,Da];exact zy 3 1 0x114746a150254076a150250 rfl p2⟩
    ·rw [Aa h2]
     exact ⟨rfl,u1,u2,u3,P,rfl,p1,zy 3 1 0x114746a15025076a150250 rfl p2⟩
   ·rw [Aa h1]
    exact ⟨rfl,u1,u2,u3,P,rfl,p1,zy 3 1 0x114746a15025076a150250 rfl p2⟩
  ·rintro ys H' m' ⟨rfl,u1,u2,u3,P,rfl,p1,p2⟩
   rw [zP] at p2
   exact ⟨rfl,u1,u2,P,rfl,p1,zy 3 2 0x111574a1506057a150260a1150 rfl hps p2⟩
 rintro ys H' m' ⟨rfl,u1,u2,P0,rfl,p1,p2⟩
 rw [zP] at p2
 refine .inr fun pa hpa=>?_
 have hpa2:H2 pa = none:=Ae fun q=>by
  have:pa ≠ cx:=fun e=>by rw [e,zC] at hpa;cases hpa
  rw [zB this] at hpa;exact q hpa
 have hpc:pa ≠ cx:=fun e=>by rw [e,zC] at hpa;cases hpa
 have hpD:∀ c∈ks,D c ≠ pa:=fun c h e=>by have:=(e2 c h).1;rw [e,hpa2] at this;cases this
 have hpa0:H pa = none:=Ae fun q=>q (by rw [← k2 _ q];exact hpa2)
 have hksN:∀ {c},rR bs c→c∈ks:=fun h=>(hks _).mpr h
 let PQ:Nat→zA→zN→(Int→Prop)→Prop:=INO0 H bs keys M ks D cx pa
 refine ST.c ?_
 intro Qc
 refine yB (fun t H' m'=>PQ (100 + 6000 * t) H' m' fun c=>∃ i∈keys.take t,∃ p,uC bs i p c) ?_
 refine yG ?_
 refine ⟨_,yM.idct,⟨P0,[],zC,by rw [zB (Ne.symm hpc),zC];rfl,fun c h=>by rw [zB (hpD c h),zB (hcD c h)];exact (e2 c h).1,p1,zy 2 2 0x1a1501177045064212605a15060a1150 rfl hps p2,by simp,by simp,by simp,fun a ha=>by rw [zB fun e=>ha (by rw [e];exact hpa0),zB fun e=>ha (by rw [e];exact hcx0)];exact k2 a ha,rfl,rfl,rfl,rfl,rfl⟩,?_,?_⟩
 ·rintro t x H4 m4 hx ⟨P,C,q1,q2,q3,q4,q5,q6,q7,q8,q9,v1,v2,v3,v4,v5⟩
  obtain ⟨i0,hi',rfl⟩:=yA hx
  obtain ⟨i,hi,rfl⟩:=yA hi'
  have ht:t < keys.length:=(Bc.mp hi).1
  have hik:i∈keys:=Dr hi
  obtain ⟨b,hb⟩:∃ b,bs[i]? = some b:=⟨_,Ci ((hkeys i).mp hik)⟩
  have hbm:=Dr hb
  have hrz:=B.rsz b hbm
  have htk:keys.take (t + 1) = keys.take t ++ [i]:=by rw [Cj,hi];rfl
  refine AS.name ?_
  refine ST.c0 ?_
  intro Qs Qc
  refine oV X.S (INO1 bs keys PQ t i) X.enum (by rfl) (by rfl) (by rfl) ?_
  lk
  refine zY.list (show yJ _ (.lst _) _ from rfl) xO hbl (vQ hb) ?_
  lk
  refine zY.tp rfl ?_
  refine ⟨_,rfl,⟨⟨P,C,q1,q2,q3,q4,ω276 q5,q6,q7,fun c h=>q8 c (h.resolve_right fun p1=>p1.elim fun p p2=>p2.elim fun hp U=>absurd hp (Nat.not_lt_zero _)),q9,v1,v2,v3,v4,v5⟩,rfl⟩,?_,?_⟩
  ·rintro p y H5 m5 hy ⟨⟨P,C,q1,q2,q3,q4,q5,q6,q7,q8,q9,v1,v2,v3,v4,v5⟩,v6⟩
   obtain ⟨x,hx,rfl⟩:=sL hy
   obtain ⟨r,hr,rfl⟩:=yA hx
   have hpl:=(Bc.mp hr).1
   have hat:At bs i (p + 1):=⟨b,hb,hpl⟩
   have hMl:(M i (p + 1)).length ≤ 50:=yH (hMn i _ hat).1 (hMn i _ hat).2
   have hcross:∀ c,uC bs i p c↔rV r∧c∈M i (p + 1)∧c ≠ r.dst:=fun c=>by
    constructor
    ·rintro ⟨b',r',h1,h2,h3,h4,h5⟩
     rw [hb] at h1;cases h1;rw [hr] at h2;cases h2
     exact ⟨h3,(hM i _ c hat).mpr h4,h5⟩
    ·rintro ⟨h1,h2,h3⟩
     exact ⟨b,r,hb,hr,h1,(hM i _ c hat).mp h2,h3⟩
   refine AS.tup (xN.cons (AS.name (xN.cons (AS.name (xN.nil ?_)))))
   refine ST.c ?_
   intro Qc
   refine yB (INO2 bs keys M PQ t i p r) ?_
   lk
   refine zY.idict (sI _ keys _) (xJ keys _ hik) ?_
   lk
   refine xW.add ?_
   have hbd:=B.at_le hat
   refine zY.list (k:=((p:Int) + 1)) (show yJ _ (.lst _) _ from rfl) (ω277 hbd) (by rw [Cp,Bh,Cu];exact ω278 hbd.1 hbd.2) (show _ = some (AV.idct (M i (p + 1)) ((M i (p + 1)).map fun U=>.bool true)) from by
    have:=vP (f:=fun p=>AV.idct (M i p) ((M i p).map fun U=>.bool true)) hat.rng
    exact this) ?_
   refine ⟨_,yM.idct,⟨⟨P,C,q1,q2,q3,q4,zy 3 1 0x114073c2506177045064212235073c2506177045064212250 rfl q5,q6,q7,fun c h=>q8 c (h.imp_right fun h=>h.resolve_right (by simp)),q9,v1,v2,v3,v4,v5⟩,v6,rfl⟩,?_,?_⟩
   ·rintro t3 x H6 m6 hx ⟨⟨P,C,q1,q2,q3,q4,q5,q6,q7,q8,q9,v1,v2,v3,v4,v5⟩,v6,v7⟩
    obtain ⟨c,hc',rfl⟩:=yA hx
    have hcm:=Dr hc'
    have hlv:=(hM i _ c hat).mp hcm
    have hcks:=hksN (uF B hlv)
    have htk3:(M i (p + 1)).take (t3 + 1) = (M i (p + 1)).take t3 ++ [c]:=by rw [Cj,hc'];rfl
    have ht3:t3 < 50:=by have:=(Bc.mp hc').1;exact zy 2 2 0x1115322161561322150 rfl hMl this
    refine AS.name ?_
    have tail:∀ (P':List (Int×Int)) (H7:zA) (m7:zN),H7 pa = some (.list (P'.map oK))→H7 cx = some (.idict (tru C))→(∀ c∈ks,H7 (D c) = some (.idict []))→(∀ x∈P',x.1∈ks∧x.2∈ks)→P'.length ≤ 100 + 6000 * t + 60 * p + (t3 + 1)→Kp H H7→m7 "blocks" = some (.lst (bs.map wO))→m7 "alive" = some (encM bs keys M)→m7 "near" = some (.idct ks (ks.map fun c=>.ref (D c)))→m7 "crossing" = some (.ref cx)→m7 "pairs" = some (.ref pa)→m7 "at" = some (.int i)→m7 "row" = some (xG r)→m7 "cell" = some (.int c) →
      ST ρ (l + 1) (wN (yR (zJ 38)) L qual (fa 38) code) ((inB (inB (inB ((xD (zJ 38)).drop 3)))).drop 1) H7 m7 (onN fun H' m'=>INO2 bs keys M PQ t i p r (t3 + 1) H' m'):=by
     intro P' H7 m7 a1 a2 a3 a4 a5 a6 w1 w2 w3 w4 w5 w6 w7 w8
     have skip:¬ (rV r∧c ≠ r.dst)→INO2 bs keys M PQ t i p r (t3 + 1) H7 m7:=fun hn=>
      ⟨⟨P',C,a1,a2,a3,a4,a5,q6,q7,fun d h=>q8 d (h.imp_right fun h=>h.imp_right fun p1=>p1.elim fun h1 p2=>p2.elim fun h2 h3=>⟨h1,by
       rw [htk3] at h2
       exact (Cx.mp h2).resolve_right fun e=>hn ⟨h1,by rw [← Bf.mp e];exact h3⟩,h3⟩),a6,w1,w2,w3,w4,w5⟩,w6,w7⟩
     refine ST.c0 ?_
     intro Qs Qc
     refine zK (TR.bool (sC.cons (zH ?_)))
     lk
     refine zY.tp rfl ?_
     refine EX.cst X.S X2.kcalls (by rfl) (by rfl) ?_
     refine yI.inT (ns:=["call","callreg"]) ?_
     by_cases hcl:rV r
     ·rw [Dc (show r.op∈([Str.ofString "call",Str.ofString "callreg"]:List Str) by rcases hcl with e | e <;> rw [e] <;> simp)]
      refine sC.cons (zH ?_)
      lk
      refine zY.tp rfl ?_
      refine yI.ne ?_
      by_cases hd:c = r.dst
      ·rw [Dj (by simpa using hd)]
       exact ST.nil (ST.nil (skip fun h=>h.2 hd))
      ·rw [Dc hd]
       refine sC.nil ?_
       refine ST.c ?_
       intro Qc
       refine S1.sub ?_
       lk
       have hCl:C.length ≤ 50:=yH q6 fun d hd=>by
        obtain ⟨i,p,b,r,U,U,U,h,U⟩:=q7 d hd
        exact r50 (uS B (uF B h)) B.nxb
       refine wT.idict a2 (by unfold tru;rw [Cp,Cu];exact vN hCl) ?_
       unfold tru at a2 ⊢
       rw [uD]
       refine ST.nil (ST.nil ⟨⟨P',pP C c,by rw [zB hpc];exact a1,zC,fun d h=>by rw [zB (hcD d h)];exact a3 d h,a4,a5,wG q6,fun d h=>(wS.mp h).elim (q7 d) fun e=>⟨i,p,by rw [e];exact (hcross c).mpr ⟨hcl,hcm,hd⟩⟩,fun d h=>wS.mpr ?_,fun a ha=>by rw [zB fun e=>ha (by rw [e];exact hcx0)];exact a6 a ha,w1,w2,w3,w4,w5⟩,w6,w7⟩)
       rcases h with h | h | ⟨h1,h2,h3⟩
       ·exact .inl (q8 d (.inl h))
       ·exact .inl (q8 d (.inr (.inl h)))
       ·rw [htk3] at h2
        rcases Cx.mp h2 with h | h
        ·exact .inl (q8 d (.inr (.inr ⟨h1,h,h3⟩)))
        ·exact .inr (Bf.mp h)
     ·rw [Dj (fun h=>hcl (by simpa [rV] using h))]
      exact ST.nil (ST.nil (skip fun h=>hcl h.1))
    refine ST.c0 ?_
    intro Qs Qc
    refine zK (zH ?_)
    lk
    refine zY.tp rfl ?_
    lk
    refine yI.ge ?_
    by_cases h0:0 ≤ r.dst
    ·rw [Dc h0]
     refine ST.c ?_
     intro Qc
     refine zV (EX.append ?_)
     refine xH ?_
     refine ⟨⟨_,q1⟩,EX.tup ?_⟩
     lk
     refine zY.tp rfl ?_
     lk
     refine zE.append q1 (by rw [Cp,Cu];exact zy 6 6 0x117704f17704f3c2f0119100000071903221a1a73c25061770450642122290642180642174056161150 rfl hkl ht hbd.1 hbd.2 q5 ht3) (ST.nil ?_)
     have hrk:r.dst∈ks:=hksN ⟨h0,b,hbm,.inl ⟨r,Dr hr,rfl⟩⟩
     refine (tail (P ++ [(r.dst,c)]) _ (wA m6 "cell" (.int c)) (by rw [zC,Bt];rfl) (by rw [zB (Ne.symm hpc)];exact q2) (fun d h=>by rw [zB (hpD d h)];exact q3 d h) (fun x hx=>(Cx.mp hx).elim (q4 x) fun h=>by rw [Bf.mp h];exact ⟨hrk,hcks⟩) (by rw [Ct,Da];exact zy 4 1 0x1148473c250617704506421222540873c25061770450642122250 rfl q5) (fun a ha=>by rw [zB fun e=>ha (by rw [e];exact hpa0)];exact q9 a ha) v1 v2 v3 v4 v5 v6 v7 rfl).mono fun af H' m' h=>?_
     cases af <;> first | exact h | exact h.elim
    ·rw [Dj h0]
     refine ST.nil ?_
     refine (tail P H6 (wA m6 "cell" (.int c)) q1 q2 q3 q4 (zy 4 1 0x1148473c25061770450642122250873c25061770450642122250 rfl q5) q9 v1 v2 v3 v4 v5 v6 v7 rfl).mono fun af H' m' h=>?_
     cases af <;> first | exact h | exact h.elim
   ·rintro H6 m6 ⟨⟨P,C,q1,q2,q3,q4,q5,q6,q7,q8,q9,v1,v2,v3,v4,v5⟩,v6,v7⟩
    rw [Cp] at q5 q8
    rw [Dq] at q8
    refine ST.nil ⟨⟨P,C,q1,q2,q3,q4,zy 4 2 0x1115843c2507177045064212260583c25071770450642122260322150 rfl hMl q5,q6,q7,fun c h=>q8 c ?_,q9,v1,v2,v3,v4,v5⟩,v6⟩
    rcases h with h | ⟨q,hq,h⟩
    ·exact .inl h
    ·by_cases e:q = p
     ·subst e;exact .inr (.inr ((hcross c).mp h))
     ·exact .inr (.inl ⟨q,tT hq e,h⟩)
  ·rintro H5 m5 ⟨⟨P,C,q1,q2,q3,q4,q5,q6,q7,q8,q9,v1,v2,v3,v4,v5⟩,v6⟩
   rw [Cp] at q5 q8
   refine ST.nil ⟨P,C,q1,q2,q3,q4,ω285 hrz q5,q6,q7,fun c h=>q8 c ?_,q9,v1,v2,v3,v4,v5⟩
   obtain ⟨i',hi',p,hp⟩:=h
   rw [htk] at hi'
   rcases Cx.mp hi' with h | h
   ·exact .inl ⟨i',h,p,hp⟩
   ·have e:=Bf.mp h
    subst e
    refine .inr ⟨p,?_,hp⟩
    obtain ⟨b',r',h1,h2,U⟩:=hp
    rw [hb] at h1;cases h1
    exact (Bc.mp h2).1
 rintro H4 m4 ⟨P,C,q1,q2,q3,q4,q5,q6,q7,q8,q9,v1,v2,v3,v4,v5⟩
 rw [Cp,Cp] at q5 q8
 rw [Dq] at q8
 refine ST.take (x:="pairs") v5 (wH.list q1) ?_
 refine ST.c ?_
 intro Qc
 refine yB (INO3 H ks D cx C) ?_
 refine yG ?_
 refine ⟨_,yM.lst,⟨fun U=>[],fun c h=>by rw [zR (hpD c h)];exact q3 c h,fun c U=>⟨by simp,by simp⟩,by rw [zR (Ne.symm hpc)];exact q2,fun a ha=>by rw [zR fun e=>ha (by rw [e];exact hpa0)];exact q9 a ha,v3,v4⟩,?_,?_⟩
 ·rintro t x H5 m5 hx ⟨N,n1,n2,n3,n4,u1,u2⟩
  obtain ⟨⟨a,b⟩,hab,rfl⟩:=yA hx
  obtain ⟨hak,hbk⟩:=q4 (a,b) (Dr hab)
  dsimp only at hak hbk
  refine AS.tup (xN.cons (AS.name (xN.cons (AS.name (xN.nil ?_)))))
  refine ST.c ?_
  intro Qc
  refine zK (zH ?_)
  lk
  refine yI.ne ?_
  by_cases hne:a = b
  ·rw [Dj (by simpa using hne)]
   exact ST.nil (ST.nil ⟨N,n1,n2,n3,n4,u1,u2⟩)
  ·rw [Dc hne]
   have nl:∀ c∈ks,(N c).length ≤ 50:=fun c h=>by
    refine yH (n2 c h).1 fun d hd=>?_
    exact r50 (uS B ((hks d).mp ((n2 c h).2 d hd))) B.nxb
   have lk:∀ c∈ks,yE (ks.map fun c=>(c,AV.ref (D c))) c = some (.ref (D c)):=fun c h=>by rw [tB,Ab h]
   refine ST.c ?_
   intro Qc
   refine S1.sub ?_
   lk
   refine EX.cell (by assumption) (by rfl) (by rfl) ?_
   lk
   refine zY.idict (rG _ ks _) (lk a hak) ?_
   lk
   have hna:=n1 a hak
   refine wT.idict hna (by unfold tru;rw [Cp,Cu];have:=nl a hak;exact vN this) ?_
   unfold tru
   rw [uD]
   refine ST.c ?_
   intro Qc
   refine S1.sub ?_
   lk
   refine EX.cell (by assumption) (by rfl) (by rfl) ?_
   lk
   refine zY.idict (rG _ ks _) (lk b hbk) ?_
   lk
   have hDab:D b ≠ D a:=fun e=>hne (e3 a hak b hbk e.symm)
   refine wT.idict (show upd H5 (D a) _ (D b) = _ by rw [zB hDab];exact n1 b hbk) (by unfold tru;rw [Cp,Cu];have:=nl b hbk;exact vN this) ?_
   unfold tru
   rw [uD]
   refine ST.nil (ST.nil ⟨fun c=>if c = b then pP (N b) a else if c = a then pP (N a) b else N c,fun c h=>?_,fun c h=>?_,by rw [zB (Ne.symm (hcD b hbk)),zB (Ne.symm (hcD a hak))];exact n3,fun z hz=>by rw [zB fun e=>hz (by rw [e];exact hD0 b hbk),zB fun e=>hz (by rw [e];exact hD0 a hak)];exact n4 z hz,u1,u2⟩)
   ·by_cases h1:c = b
    ·subst h1;rw [zC];simp only [Ay];rfl
    ·rw [zB fun e=>h1 (e3 c h b hbk e)]
     by_cases h2:c = a
     ·subst h2;rw [zC];simp only [Aa h1,Ay];rfl
     ·rw [zB fun e=>h2 (e3 c h a hak e)];simp only [Aa h1,Aa h2];exact n1 c h
   ·by_cases h1:c = b
    ·subst h1;simp only [Ay]
     exact ⟨wG (n2 c h).1,fun d hd=>(wS.mp hd).elim ((n2 c h).2 d) fun e=>e ▸ hak⟩
    ·by_cases h2:c = a
     ·subst h2;simp only [Aa h1,Ay]
      exact ⟨wG (n2 c h).1,fun d hd=>(wS.mp hd).elim ((n2 c h).2 d) fun e=>e ▸ hbk⟩
     ·simp only [Aa h1,Aa h2];exact n2 c h
 rintro H5 m5 ⟨N,n1,n2,n3,n4,u1,u2⟩
 obtain ⟨H6,f6,s6⟩:=rJ (H:=H5) (A:=D) (o:=fun c=>.idict (tru (N c))) (av:=fun c=>oJ (N c)) (fun U U h=>wH.tru h) ks (hnd.imp_of_mem fun hi hj h e=>h (e3 _ hi _ hj e)) n1
 refine ST.take (x:="near") u1 (pW f6) ?_
 have hcx6:H6 cx = some (.idict (tru C)):=by rw [s6 _ fun c hc e=>hcD c hc e.symm];exact n3
 refine ST.take (x:="crossing") (show wA m5 "near" _ "crossing" = _ from u2) (wH.tru hcx6) ?_
 refine sR ?_
 refine EX.tup ?_
 refine yO.cons (EX.cell (show wA (wA m5 "near" _) "crossing" _ "near" = some (encN ks N) from rfl) (by rfl) (by rfl) ?_)
 lk
 refine q _ ks N C hnd hks n2 q6 (fun c=>⟨q7 c,fun p1=>p1.elim fun i p2=>p2.elim fun p h=>q8 c ⟨i,(hkeys i).mpr ?_,p,h⟩⟩) fun a ha=>?_
 ·obtain ⟨b,r,hb,U⟩:=h;exact (Bc.mp hb).1
 ·rw [zR fun e=>ha (by rw [e];exact hcx0),s6 a fun c hc e=>ha (by rw [e];exact hD0 c hc)];exact n4 a ha
end
end
section
theorem sub_len:∀ {xs ys:List Int},xs.Nodup→(∀ x∈xs,x∈ys)→xs.length ≤ ys.length
 | [],_,_,_=>by simp
 | x :: xs,ys,nd,h=>by
  have nd':=Bl.mp nd
  have hx:=h x Db
  have t1:=sub_len (ys:=ys.erase x) nd'.2 fun y hy=>(List.mem_erase_of_ne (fun e=>nd'.1 (by rw [← e];exact hy))).mpr (h y (Dh _ hy))
  rw [List.length_erase_of_mem hx] at t1
  have:0 < ys.length:=List.length_pos_of_mem hx
  exact Ah (Nat.succ_le_succ t1) (Nat.le_of_eq (Nat.sub_add_cancel this))
structure TB (kvs:List (Int×AV)):Prop where
 nd:(kvs.map (fun p=>p.1)).Nodup
 rg:∀ c∈kvs.map (fun p=>p.1),(0:Int) ≤ c∧c < (50:Nat)
 vi:∀ p∈kvs,∃ i,p.2 = .int i∧0 ≤ i
theorem TB.len {kvs:List (Int×AV)} (t:TB kvs):kvs.length ≤ 50:=by have:=yH t.nd t.rg;rwa [Cp] at this
theorem TB.keep {kvs:List (Int×AV)} (t:TB kvs) {c i:Int} (h0:0 ≤ c) (h1:c < (50:Nat)) (hi:0 ≤ i):TB (keep kvs c (.int i)):=
 ⟨nK t.nd,fun d hd=>(yZ.mp hd).elim (t.rg d) fun e=>e ▸ ⟨h0,h1⟩,fun p hp=>(pG hp).elim (t.vi p) fun e=>⟨i,by rw [e],hi⟩⟩
theorem TB.drop {kvs:List (Int×AV)} (t:TB kvs) (c:Int):TB (kvs.filter fun kv=>decide (kv.1 ≠ c)):=
 ⟨t.nd.sublist (List.filter_sublist.map _),fun d hd=>t.rg d ((List.filter_sublist.map _).subset hd),fun p hp=>t.vi p (List.mem_filter.mp hp).1⟩
theorem TB.get {kvs:List (Int×AV)} (t:TB kvs) (c:Int) {d:Int} (hd:0 ≤ d):∃ i,(yE kvs c).getD (.int d) = .int i∧0 ≤ i:=by
 cases h:yE kvs c with
 | none=>exact ⟨d,rfl,hd⟩
 | some x=>obtain ⟨i,e,h⟩:=t.vi _ (sH h);exact ⟨i,e,h⟩
section
variable {l:Nat} {H:zA} {Q:AV→zA→Prop} {k:Nat}
inductive INP0 (k:Nat) (wl nu:Addr) (ks cr lo ke:List Int) (N:Int→List Int) (sa:Addr) (t:Nat) (H':zA) (m':zN):Prop
 | mk:∀ k' kvs,Well H' wl nu k'→k' ≤ k + t→H' sa = some (.idict kvs)→TB kvs→m' "well" = some (.ref wl)→m' "near" = some (encN ks N)→m' "crossing" = some (oJ cr)→m' "kept" = some (.lst (iL ke))→m' "seats" = some (.ref sa)→m' "ways" = some (.lst [.lst (iL (ke ++ lo)),.lst (iL (lo ++ ke))])→INP0 k wl nu ks cr lo ke N sa t H' m'
inductive INP1 (wl:Addr) (ks cr lo ke:List Int) (N:Int→List Int) (sa:Addr) (c:Int) (so:List Int) (H':zA) (F:List Int) (n:Nat) (H'':zA) (m':zN):Prop
 | mk:∀ i:Nat,H'' = H'→(∀ j,j < i→∃ x,so[j]? = some x∧x∈F)→i ≤ F.length→n = F.length + 1 - i→m' "index" = some (.int i)→m' "some" = some (.lst (iL so))→m' "filled" = some (.lst (iL F))→m' "cell" = some (.int c)→m' "well" = some (.ref wl)→m' "near" = some (encN ks N)→m' "crossing" = some (oJ cr)→m' "kept" = some (.lst (iL ke))→m' "seats" = some (.ref sa)→m' "ways" = some (.lst [.lst (iL (ke ++ lo)),.lst (iL (lo ++ ke))])→INP1 wl ks cr lo ke N sa c so H' F n H'' m'
inductive JNP0 (sa:Addr) (H2:zA) (s:Nat) (ys:List AV) (H':zA) (m':zN):Prop
 | mk:H' = H2→m' "seats" = some (.ref sa)→∀ F:List Int,ys = iL F→F.length ≤ s→JNP0 sa H2 s ys H' m'
theorem seats_ok (X:Prog K ρ.base fa) (hl:l ≤ 26) {wl nu:Addr} (W:Well H wl nu k) (hk:k ≤ 5000) {ks cr lo ke:List Int} {N:Int→List Int} (hkn:ks.Nodup) (hkr:∀ c∈ks,0 ≤ c∧c < (43:Nat)) (hN:∀ c∈ks,(N c).Nodup∧∀ d∈N c,d∈ks)
  (h1:(ke ++ lo).Nodup) (h2:(lo ++ ke).Nodup) (h3:50 ≤ ke.length) (h4:ke.length + lo.length ≤ 1000) (h5:∀ x∈ke ++ lo,0 ≤ x)
  (q:∀ H' k' sa kvs,Well H' wl nu k'→k' ≤ k + 50→H' sa = some (.idict kvs)→TB kvs→Q (.ref sa) H') :
  zE ρ l (.ref (fa 39)) [.ref wl,encN ks N,oJ cr,.lst (iL lo),.lst (iL ke)] H Q:=by
 refine zE.fn X.S (oB hl) (X.fn 39 (by decide)).2 rfl (by decide) (fun L qual code hc=>?_) (by intro x hx;left;revert x hx;decide)
 have hkl:ks.length ≤ 43:=yH hkn hkr
 refine ST.c0 ?_
 intro Qs Qc
 refine S1.tup (EX.tup (yO.cons (xR X.S (.inr fun sa hsa=>?_))))
 lk
 refine wL (show yJ _ (.lst _) _ from rfl) (show yJ _ (.lst _) _ from rfl) (by rw [zP,zP,Cu];exact zy 2 1 0x11410000007165203e8316520 rfl h4) (.inl ?_)
 lk
 refine wL (show yJ _ (.lst _) _ from rfl) (show yJ _ (.lst _) _ from rfl) (by rw [zP,zP,Cu];exact zy 2 1 0x11410000007156203e8316520 rfl h4) (.inl ?_)
 lk
 refine AS.tup (xN.cons (AS.name (xN.cons (AS.name (xN.nil ?_)))))
 have hcat:∀ xs ys:List Int,iL xs ++ iL ys = iL (xs ++ ys):=fun xs ys=>by simp [iL]
 rw [hcat,hcat]
 have w0:Well (upd H sa (.idict [])) wl nu k:=by
  obtain ⟨ns,p,e1,e2,e3⟩:=W.ex
  exact ⟨W.ne,ns,p,by rw [zB fun e=>by rw [e,hsa] at e1;cases e1];exact e1,by rw [zB fun e=>by rw [e,hsa] at e2;cases e2];exact e2,e3⟩
 refine ST.c ?_
 intro Qc
 refine yB (INP0 k wl nu ks cr lo ke N sa) ?_
 refine yG ?_
 refine ⟨_,yM.idct,⟨k,[],w0,(wM 19944272 rfl),zC,⟨by simp,by simp,by simp⟩,rfl,rfl,rfl,rfl,rfl,rfl⟩,?_,?_⟩
 ·rintro t x H1 m1 hx ⟨k1,kvs,W1,hk1,q1,tb,u1,u2,u3,u4,u5,u6⟩
  obtain ⟨c,hc',rfl⟩:=yA hx
  have hck:=Dr hc'
  have ht:t < ks.length:=(Bc.mp hc').1
  obtain ⟨hc0,hc1⟩:=hkr c hck
  have hNl:(N c).length ≤ 43:=yH (hN c hck).1 fun d hd=>hkr d ((hN c hck).2 d hd)
  refine AS.name ?_
  have tail:∀ (so:List Int) (H2:zA) (k2:Nat),so.Nodup→50 ≤ so.length→so.length ≤ 1000→(∀ x∈so,0 ≤ x)→Well H2 wl nu k2→k2 ≤ k + (t + 1)→H2 sa = some (.idict kvs) →
    ST ρ (l + 1) (wN (yR (zJ 39)) L qual (fa 39) code) ((inB ((xD (zJ 39)).drop 1)).drop 1) H2 (wA (wA m1 "cell" (.int c)) "some" (.lst (iL so))) (onN fun H' m'=>INP0 k wl nu ks cr lo ke N sa (t + 1) H' m'):=by
   intro so H2 k2 g1 g2 g3 g4 W2 hk2 q2
   refine ST.c0 ?_
   intro Qs Qc
   refine tF X.S (cl:=[("seats",L + 1)]) ["seats"] (.of (by rfl) (by rfl) (by rfl) (by rfl)) (.inl (by rfl)) ?_
   lk
   refine zY.idict (rG _ ks _) (by rw [tB,Ab hck]) ?_
   refine ⟨_,yM.idct,JNP0 sa H2,⟨rfl,u5,[],rfl,by simp⟩,?_,?_⟩
   ·rintro L' s x ys H' m' hx ⟨rfl,v1,F,rfl,hF⟩
    obtain ⟨d,hd,rfl⟩:=yA hx
    have hs:=(Bc.mp hd).1
    refine AS.name ?_
    refine (show TR ρ _ _ _ _ _ _ from zH ?_)
    lk
    refine EX.cell (by assumption) (by rfl) (by rfl) ?_
    refine wK (show uZ _ (.ref sa) _ from q2) ?_
    cases hlk:yE kvs d with
    | none=>exact ⟨rfl,v1,F,rfl,ω56 hF⟩
    | some x=>
     obtain ⟨i,hi,U⟩:=tb.vi _ (sH hlk)
     dsimp only at hi
     subst hi
     refine EX.sub (EX.cell (by assumption) (by rfl) (by rfl) ?_) (by rfl)
     lk
     refine zY.idict (show uZ _ (.ref sa) _ from q2) hlk ⟨by rw [zP,Cu];exact zy 3 3 0x11116100000071605717602b2150 rfl hNl hF hs,rfl,v1,F ++ [i],vX ..,by rw [Ct,Da];exact ω290 hF⟩
   rintro ys H' m' ⟨rfl,v1,F,rfl,hF⟩
   rw [Cp] at hF
   refine .inl ?_
   refine sN0 ?_
   intro Qs Qc
   lk
   refine ST.c0 ?_
   intro Qs Qc
   refine uE (INP1 wl ks cr lo ke N sa c so H' F) _ ⟨0,rfl,by simp,(wM 1265680 rfl),rfl,rfl,rfl,rfl,rfl,u1,u2,u3,u4,u5,u6⟩ ?_
   rintro n H3 m3 ⟨i,rfl,hj,hiF,rfl,w1,w2,w3,w4,w5,w6,w7,w8,w9,w10⟩
   have hil:i < so.length:=by exact zy 4 5 0x11101186817805703e831606322102b2150 rfl hNl g2 g3 hF hiF
   have hso:so[i]? = some so[i]:=Ci hil
   refine zH ?_
   lk
   refine zY.list (show yJ _ (.lst _) _ from rfl) xO (by rw [zP,Cu];exact ω293 g2 g3) (x:=.int so[i]) (by rw [Ce];exact vE hil) ?_
   lk
   refine yI.inL (show yJ _ (.lst _) _ from rfl) ?_
   by_cases hin:so[i]∈F
   ·rw [Dc hin]
    have hlt:i + 1 ≤ F.length:=by
     have:=sub_len (xs:=so.take (i + 1)) (ys:=F) (g1.sublist (List.take_sublist _ _)) fun x hx=>by
      obtain ⟨j,hj',e⟩:=Cc hx
      rw [Cs] at hj'
      rw [List.getElem_take] at e
      by_cases h:j = i
      ·subst h;rw [← e];exact hin
      ·obtain ⟨y,hy,hyF⟩:=hj j (zw 4 0 1 4 0x1010011910000001a01000011910000001a0057157269718716516541 rfl hil hj' hj' h)
       rw [Ci (by exact zw 4 0 1 4 0x110000191110010191067157269718716516541 rfl hil hj' hj' h)] at hy
       cases hy;rw [← e];exact hyF
     rw [Cs] at this;exact zw 3 0 1 3 0x1010011910100019065406807516507541 rfl hiF hil this
    refine sN ?_
    intro Qc
    lk
    refine xW.add (ST.nil ⟨_,?_,i + 1,rfl,fun j hj'=>?_,hlt,rfl,rfl,w2,w3,w4,w5,w6,w7,w8,w9,w10⟩)
    ·exact zw 2 0 2 1 0x11411141100108008716540564054640 rfl hlt
    ·by_cases h:j = i
     ·subst h;exact ⟨_,hso,hin⟩
     ·exact hj j (tT hj' h)
   ·rw [Dj hin]
    refine ST.c0 ?_
    intro Qs Qc
    refine S1.sub ?_
    lk
    refine zY.list (show yJ _ (.lst _) _ from rfl) xO (by rw [zP,Cu];exact ω293 g2 g3) (x:=.int so[i]) (by rw [Ce];exact vE hil) ?_
    refine EX.cell (by assumption) (by rfl) (by rfl) ?_
    lk
    refine wT.idict q2 (by rw [Cu];have:=tb.len;exact vN this) ?_
    refine ST.nil ⟨k2,_,?_,hk2,zC,tb.keep hc0 (zw 0 1 0 2 0x101532212001042b21200104010013 rfl hc0 hc1) (g4 _ (Cr _)),w5,w6,w7,w8,w9,w10⟩
    obtain ⟨ns,p,e1,e2,e3⟩:=W2.ex
    have z1:wl ≠ sa:=fun e=>by rw [e,q2] at e1;cases e1
    have z2:nu ≠ sa:=fun e=>by rw [e,q2] at e2;cases e2
    exact ⟨W2.ne,ns,p,by rw [zB z1];exact e1,by rw [zB z2];exact e2,e3⟩
  refine ST.c0 ?_
  intro Qs Qc
  refine S1.name (uO (zH ?_))
  lk
  refine wK (rG _ cr _) ?_
  rw [tB]
  by_cases hcc:c∈cr
  ·rw [Ab hcc]
   lk
   refine (tail ke H1 k1 (Di.mp h1).1 h3 (zy 2 1 0x1143e831503e8316520 rfl h4) (fun x hx=>h5 x (Cy _ hx)) W1 (zy 3 1 4863441198604880 rfl hk1) q1).mono fun af H' m' h=>?_
   cases af <;> first | exact h | exact h.elim
  ·rw [Aa hcc]
   refine EX.sub ?_ rfl
   lk
   refine zO X 22 ?_
   lk
   refine xZ X (qD hl) W1 (zy 4 4 0x11111727104170681852702b216013884150 rfl hk hkl hk1 ht) (by decide) fun H2 v W2 s2 a2 b2=>?_
   have hsw:sa ≠ wl∧sa ≠ nu:=by
    obtain ⟨ns,p,e1,e2,e3⟩:=W1.ex
    exact ⟨fun e=>(by rw [e,e1] at q1;cases q1),fun e=>(by rw [e,e2] at q1;cases q1)⟩
   have q2:=(s2 sa hsw.1 hsw.2).trans q1
   have hv:v = 0∨v = 1:=by exact ω166 a2 b2
   rcases hv with rfl | rfl
   ·refine zY.list (show yJ _ (.lst _) _ from rfl) (by decide) (pC rfl) (by rfl) ?_
    refine (tail (ke ++ lo) H2 _ h1 (by rw [Ct];exact zy 2 1 0x11465232210532210 rfl h3) (by rw [Ct];exact zy 2 1 0x1143e83165203e8316520 rfl h4) h5 W2 (ω300 hk1) q2).mono fun af H' m' h=>?_
    cases af <;> first | exact h | exact h.elim
   ·refine zY.list (show yJ _ (.lst _) _ from rfl) (by decide) (pC rfl) (by rfl) ?_
    refine (tail (lo ++ ke) H2 _ h2 (by rw [Ct];exact zy 2 1 0x11456232210532210 rfl h3) (by rw [Ct];exact zy 2 1 0x1143e83156203e8316520 rfl h4) (fun x hx=>h5 x (Cx.mpr (Cx.mp hx).symm)) W2 (ω300 hk1) q2).mono fun af H' m' h=>?_
    cases af <;> first | exact h | exact h.elim
 ·rintro H1 m1 ⟨k1,kvs,W1,hk1,q1,tb,u1,u2,u3,u4,u5,u6⟩
  rw [Cp] at hk1
  refine ST.c ?_
  intro Qc
  refine S1.ret ?_
  refine EX.cell (by assumption) (by rfl) (by rfl) ?_
  exact q H1 k1 sa kvs W1 (zy 3 2 0x11153227360572602b2150 rfl hkl hk1) q1 tb
end
end
section
noncomputable def uM (kvs:List (Int×AV)) (c:Int):List (Int×AV):=kvs.filter fun kv=>decide (kv.1 ≠ c)
theorem rD {kvs:List (Int×AV)} {c d:Int}:d∈(uM kvs c).map (fun p=>p.1)↔d∈kvs.map (fun p=>p.1)∧d ≠ c:=by
 unfold uM
 simp only [Bm,List.mem_filter,Bq]
 constructor
 ·rintro ⟨p,⟨h1,h2⟩,rfl⟩;exact ⟨⟨p,h1,rfl⟩,h2⟩
 ·rintro ⟨⟨p,h1,rfl⟩,h2⟩;exact ⟨p,⟨h1,h2⟩,rfl⟩
noncomputable def Disj (S C:List (Int×AV)):Prop:=∀ c,c∈S.map (fun p=>p.1)→c ∉ C.map (fun p=>p.1)
section
variable {l:Nat} {H:zA} {Q:AV→zA→Prop} {k:Nat}
theorem qB {a:Addr} {kvs:List (Int×AV)} {c:Int} {d:AV} (e:H a = some (.idict kvs)) (hz:kvs.length ≤ sizeLine) (q:∀ x,Q x (upd H a (.idict (uM kvs c)))):zE ρ l (.con (.builtin "dict.pop")) [.ref a,.int c,d] H Q:=by
 cases h:yE kvs c with
 | some x=>exact zE.dpop e hz h (.inr ⟨d,rfl⟩) (q x)
 | none=>
  refine zE.dpopn (show uZ H (.ref a) kvs from e) h ?_
  have hk:uM kvs c = kvs:=by
   unfold uM
   refine List.filter_eq_self.mpr fun p hp=>?_
   have:=yV kvs c
   rw [h] at this
   have hn:c ∉ kvs.map (fun p=>p.1):=by simpa using this.symm
   simp only [Bq];exact fun e=>hn (e ▸ Bm.mpr ⟨p,hp,rfl⟩)
  have:=q d
  rw [hk] at this
  rw [show upd H a (.idict kvs) = H from funext fun b=>by
   by_cases hb:b = a
   ·subst hb;rw [zC,e]
   ·rw [zB hb]] at this
  exact this
theorem Well.put {wl nu a:Addr} {o:AO} (W:Well H wl nu k) (h:∀ xs,H a ≠ some (.list xs)):Well (upd H a o) wl nu k:=by
 refine sealG ?_
 intro Gs
 obtain ⟨ns,p,e1,e2,e3⟩:=W.ex
 have z1:wl ≠ a:=fun e=>h _ (e ▸ e1)
 have z2:nu ≠ a:=fun e=>h _ (e ▸ e2)
 exact ⟨W.ne,ns,p,by rw [zB z1];exact e1,by rw [zB z2];exact e2,e3⟩
theorem Well.sep {wl nu a:Addr} {kvs:List (Int×AV)} (W:Well H wl nu k) (h:H a = some (.idict kvs)):a ≠ wl∧a ≠ nu:=by
 refine sealG ?_
 intro Gs
 obtain ⟨ns,p,e1,e2,e3⟩:=W.ex
 exact ⟨fun e=>(by rw [e,e1] at h;cases h),fun e=>(by rw [e,e2] at h;cases h)⟩
theorem bend_ok (X:Prog K ρ.base fa) (hl:l ≤ 26) {wl nu sa ca:Addr} (W:Well H wl nu k) (hk:k ≤ 9000) {S C:List (Int×AV)} (hS:H sa = some (.idict S)) (hC:H ca = some (.idict C)) (hne:sa ≠ ca) (tS:TB S) (tC:TB C) (dj:Disj S C) {many:Nat} (hm:0 < many) (hm2:many ≤ 43)
  (q:∀ H' k' S' C' v,Well H' wl nu k'→k' ≤ k + 3→H' sa = some (.idict S')→H' ca = some (.idict C')→TB S'→TB C'→Disj S' C'→Q v H') :
  zE ρ l (.ref (fa 40)) [.ref wl,.ref sa,.ref ca,.int many] H Q:=by
 refine zE.fn X.S (oB hl) (X.fn 40 (by decide)).2 rfl (by decide) (fun L qual code hc=>?_) (by intro x hx;left;revert x hx;decide)
 refine ST.c ?_
 intro Qc
 refine sM (EX.tup (yO.cons ?_)) (.inl (by rfl)) (.inl (by rfl))
 refine zO X 22 ?_
 lk
 refine xZ X (qD hl) W (zy 1 1 0x1142710415023284150 rfl hk) (zy 1 2 0x11055200142b21505011 rfl hm hm2) fun H1 c W1 s1 c0 c1=>?_
 refine yO.cons ?_
 refine zO X 22 ?_
 lk
 refine xZ X (qD hl) W1 (zy 1 1 0x11427104154023284150 rfl hk) (zy 1 2 0x11055200142b21505011 rfl hm hm2) fun H2 o W2 s2 o0 o1=>?_
 lk
 refine ⟨_,_,rfl,?_⟩
 refine sN ?_
 intro Qc
 refine zO X 22 ?_
 lk
 refine xZ X (qD hl) W2 (zy 1 1 0x114271041544023284150 rfl hk) (by decide) fun H3 v W3 s3 v0 v1=>?_
 have hs:=W.sep hS
 have hcs:=W.sep hC
 have q1:H3 sa = some (.idict S):=by rw [s3 _ hs.1 hs.2,s2 _ hs.1 hs.2,s1 _ hs.1 hs.2];exact hS
 have q2:H3 ca = some (.idict C):=by rw [s3 _ hcs.1 hcs.2,s2 _ hcs.1 hcs.2,s1 _ hcs.1 hcs.2];exact hC
 have hSl:=tS.len
 have hCl:=tC.len
 refine ST.c ?_
 intro Qc
 refine zK (zH ?_)
 lk
 refine yI.lt ?_
 by_cases hv:v < 4
 ·rw [Dc hv]
  refine ST.c ?_
  intro Qc
  refine zV (mG ?_)
  refine yG ?_
  refine ⟨⟨_,q2⟩,?_⟩
  lk
  refine qB q2 (by rw [Cu];exact vN hCl) fun x=>?_
  have q1':∀ o,upd H3 ca o sa = some (.idict S):=fun o=>by rw [zB hne];exact q1
  refine ST.c ?_
  intro Qc
  refine S1.sub (qU ?_)
  refine yG ?_
  refine ⟨⟨_,q1' _⟩,?_⟩
  lk
  refine zE.get (show uZ _ (.ref sa) _ from q1' _) ?_
  obtain ⟨i,hi,hi0⟩:=tS.get o (d:=9) (by decide)
  rw [hi]
  lk
  refine wT.idict (q1' _) (by rw [Cu];exact vN hSl) ?_
  refine ST.nil (ST.nil ?_)
  refine q _ _ (keep S c (.int i)) (uM C c) _ ((W3.put fun xs h=>by rw [q2] at h;cases h).put fun xs h=>by rw [q1'] at h;cases h) (wM 1318910772288 rfl) zC (by rw [zB (Ne.symm hne),zC]) (tS.keep c0 (ω309 hm hm2 c1) hi0) (tC.drop c) fun d hd hd'=>?_
  have h1:=rD.mp hd'
  exact (yZ.mp hd).elim (fun h=>dj d h h1.1) h1.2
 ·rw [Dj hv]
  refine ST.c ?_
  intro Qc
  refine zV (mG ?_)
  refine yG ?_
  refine ⟨⟨_,q1⟩,?_⟩
  lk
  refine qB q1 (by rw [Cu];exact vN hSl) fun x=>?_
  have q2':∀ o,upd H3 sa o ca = some (.idict C):=fun o=>by rw [zB (Ne.symm hne)];exact q2
  refine ST.c ?_
  intro Qc
  refine zV (mG ?_)
  refine yG ?_
  refine ⟨⟨_,q2' _⟩,?_⟩
  lk
  refine qB (q2' _) (by rw [Cu];exact vN hCl) fun x=>?_
  have W4:=((W3.put (a:=sa) (o:=.idict (uM S c)) fun xs h=>by rw [q1] at h;cases h).put (a:=ca) (o:=.idict (uM C c)) fun xs h=>by rw [q2'] at h;cases h)
  have dj':Disj (uM S c) (uM C c):=fun d hd hd'=>dj d (rD.mp hd).1 (rD.mp hd').1
  have q3:upd (upd H3 sa (.idict (uM S c))) ca (.idict (uM C c)) sa = some (.idict (uM S c)):=by rw [zB hne,zC]
  refine ST.c ?_
  intro Qc
  refine zK (zH ?_)
  lk
  refine wY ?_
  by_cases hv5:v = 5
  ·rw [Dc hv5]
   refine ST.c ?_
   intro Qc
   refine S1.sub ?_
   lk
   have hdl:(uM C c).length ≤ 50:=(tC.drop c).len
   refine wT.idict (kvs:=uM C c) zC (by rw [Cu];exact vN hdl) ?_
   refine ST.nil (ST.nil (ST.nil ?_))
   refine q _ _ _ _ _ (W4.put fun xs h=>by rw [zC] at h;cases h) (wM 1318910772288 rfl) (by rw [zB hne];exact q3) zC (tS.drop c) ((tC.drop c).keep c0 (ω309 hm hm2 c1) (by decide)) fun d hd hd'=>?_
   rcases yZ.mp hd' with h | h
   ·exact dj' d hd h
   ·exact (rD.mp hd).2 h
  ·rw [Dj hv5]
   refine ST.nil (ST.nil (ST.nil ?_))
   exact q _ _ _ _ _ W4 (wM 1318910772288 rfl) q3 zC (tS.drop c) (tC.drop c) dj'
end
end
section
section
variable {l:Nat} {env:Env} {H:zA} {m:zN} {Q:AV→zA→Prop}
theorem EX.cutS {v lo:Expr} {p pos:Pos} (h:EX ρ l env v H m fun av H1=>∃ x,av = .str x∧x.length ≤ sizeLine∧EX ρ l env lo H1 m fun b H2=>∃ k,b = .int k∧Q (.str (Txt.slice x (some k) none)) H2) :
  EX ρ l env (.Subscript v (.Slice (some lo) none none p) pos) H m Q:=.mk fun P s g F A hA=>by
 refine Subscript_ ((h.out P s g F).run hA fun v1 s1 H1 f1 p1=>p1.rec fun a1 c1 p2=>p2.elim fun x p3=>p3.elim fun e p4=>p4.elim fun hx q1=>?_)
 subst e
 obtain ⟨tx,rfl⟩:=c1
 have g1:=g.fin f1
 have F1:=F.ext f1.ext
 refine wpAny_Slice (show wpAny _ _ (eval lo env) _ _ _ from (q1.out P s1 g1 F1).run hA fun va s2 H2 f2 p1=>p1.rec fun a2 c2 p2=>p2.elim fun k p3=>p3.elim fun e q2=>?_)
 subst e
 obtain ⟨tk,rfl⟩:=c2
 have g2:=g1.fin f2
 refine Aj (Aj ?_)
 have hs:subscripted (.Slice (some lo) none none p) false (.str x tx) (.ref s2.heap.objs.size) = operate [.ref s2.heap.objs.size,.str x tx] (getItem (.str x tx) (.ref s2.heap.objs.size)):=rfl
 obtain ⟨T,id,hl,hT,hw⟩:=SBH.sliceItem_sn (prog:=ρ.prog) (w:=ρ.w) (A:=A) (E:=fun U U=>False) (s:=s2) (x:=x) (t:=tx) (i:=k) (ui:=tk) (P:=fun h'=>∀ b o,s2.heap.get? b = some o→h'.get? b = some o)
  (Q:=fun v s'=>s2.toks ≤ s'.toks→FR ρ P s H (tG ρ P Q) v s') (fun h ob hp b o e=>As _ (hp b o e)) (fun U U e=>e)
  (fun h' t' k' hp htk=>⟨H2,(f1.trans f2).trans (vR g2 hp htk),.str _,⟨_,rfl⟩,q2⟩) hx
 exact tail_any hT hl (vB hw) hs
end
end
section
structure xC (K:Frag) (base:Heap) (fa:Nat→Addr) (cl:Nat→Addr) (mt:Nat→Nat→Addr):Prop extends Prog2 K base fa where
 cls:∀ n∈rZ,oX K (wW (zJ n)) (.ref (cl n))∧keepIn K (.ref (cl n)) = true∧Cls base (cl n) (nO mt n) (uB n)
 mth:∀ n∈rZ,∀ i < (xI n).length,FnAt base (mt n i) (yL (vD i (zJ n))) (xD (vD i (zJ n))) (yR (vD i (zJ n)))
section
variable {l:Nat} {H:zA} {Q:AV→zA→Prop} {k:Nat}
structure qS (H H':zA) (C x dx:Addr) (fs:List (Str×AV)):Prop where
 x0:H x = none
 d0:H dx = none
 ne:x ≠ dx
 at_:H' x = some (.inst C dx fs)
 dat:H' dx = some (.attrs x)
 fr:∀ a,a ≠ x→a ≠ dx→H a ≠ none→H' a = H a
theorem qS.kp {H' C x dx fs} (n:qS H H' C x dx fs):Kp H H':=fun a ha=>n.fr a (fun e=>ha (e ▸ n.x0)) (fun e=>ha (e ▸ n.d0)) ha
theorem qS.start {C x dx:Addr} (h1:H x = none) (h2:H dx = none) (h:x ≠ dx):qS H (upd (upd H x (.inst C dx [])) dx (.attrs x)) C x dx []:=
 ⟨h1,h2,h,by rw [zB h,zC],zC,fun a ha hb U=>by rw [zB hb,zB ha]⟩
theorem qS.set {H' C x dx fs} (n:qS H H' C x dx fs) (fs':List (Str×AV)):qS H (upd H' x (.inst C dx fs')) C x dx fs':=
 ⟨n.x0,n.d0,n.ne,zC,by rw [zB (Ne.symm n.ne)];exact n.dat,fun a ha hb h=>by rw [zB ha];exact n.fr a ha hb h⟩
theorem qS.also {H' C x dx fs} (n:qS H H' C x dx fs) {a:Addr} {o:AO} (h:H' a = none):qS H (upd H' a o) C x dx fs:=
 ⟨n.x0,n.d0,n.ne,by rw [zB fun e=>(by rw [← e,n.at_] at h;cases h)];exact n.at_,by rw [zB fun e=>(by rw [← e,n.dat] at h;cases h)];exact n.dat,fun b hb hb' hh=>by
  rw [zB fun e=>hh (by rw [← n.fr b hb hb' hh,e];exact h)];exact n.fr b hb hb' hh⟩
theorem qS.frz {H' C x dx fs} (n:qS H H' C x dx fs):wH ρ (.ref x) H' (.obj C (fs.map (fun p=>p.1)) (fs.map (fun p=>p.2))) (del (del H' x) dx):=wH.inst n.at_ n.dat
theorem qS.kp' {H' C x dx fs} (n:qS H H' C x dx fs):Kp H (del (del H' x) dx):=fun a ha=>by
 have h1:a ≠ x:=fun e=>ha (e ▸ n.x0)
 have h2:a ≠ dx:=fun e=>ha (e ▸ n.d0)
 rw [zR h2,zR h1];exact n.fr a h1 h2 ha
theorem EX.newC (X:xC K ρ.base fa cl mt) {n:Nat} (hn:n∈rZ) {env:Env} {m:zN} {x:Str} {np pos:Pos} {es:List Expr} (hx:x = wW (zJ n)) (hk:env.kindOf x = some .globalImplicit) (hd:(x == ("__debug__":Str)) = false)
  (h:yO ρ l env pos es H m (kF l (.ref (cl n)) Q)) (he:es.all (fun e=>!isStarred e) = true):EX ρ l env (.Call (.Name x np) es [] pos) H m Q:=by
 subst hx
 exact EX.call (tQ X.S (X.cls n hn).1 hk hd (av:=.ref (cl n)) (fun U U U U=>rfl) ⟨tN.frag X.S (X.cls n hn).2.1,h⟩) he
theorem EX.nC (X:xC K ρ.base fa cl mt) (n:Nat) {env:Env} {m:zN} {np pos:Pos} {es:List Expr}
  (h:yO ρ l env pos es H m (kF l (.ref (cl n)) Q)) (hn:autoParam (rZ.contains n = true) rt) (hk:autoParam (env.kindOf (wW (zJ n)) = some .globalImplicit) rt) (hd:autoParam ((wW (zJ n) == ("__debug__":Str)) = false) rt) (he:autoParam (es.all (fun e=>!isStarred e) = true) rt):EX ρ l env (.Call (.Name (wW (zJ n)) np) es [] pos) H m Q:=
 EX.newC X (List.contains_iff_mem.mp hn) rfl hk hd h he
noncomputable abbrev kPt (l:Nat) (env:Env) (ss:List Stmt) (C x:Addr) (a:Str) (m:zN) (Q:AF→zA→zN→Prop):AV→zA→Prop:=fun v H=>∃ (dx:Addr) (fs:List (Str×AV)) (H0:zA),qS H0 H C x dx fs∧fs.length ≤ 1000∧(qS H0 (upd H x (.inst C dx (oP fs a v))) C x dx (oP fs a v)→ST ρ l env ss (upd H x (.inst C dx (oP fs a v))) m Q)
theorem ST.put {env:Env} {m:zN} {ss:List Stmt} {e:Expr} {a:Str} {np p pos:Pos} {C x:Addr} {fns attrs} {Q:AF→zA→zN→Prop} (hC:Cls ρ.base C fns attrs) (h:EX ρ l env e H m (kPt l env ss C x a m Q)) (hm:autoParam (m "self" = some (.ref x)) rt) (hk:autoParam (env.kindOf "self" = some .local) rt) (ha:autoParam (attrs.contains a = true) rt)
  (hs:autoParam (swapsWith e (some ((Expr.Name "self" np).Attribute a p)) pos.line env = pure false) rt):ST ρ l env (.Assign [.Attribute (.Name "self" np) a p] e pos :: ss) H m Q:=
 ST.cons (uY (h.mono fun v H1 p1=>p1.elim fun U p2=>p2.elim fun U p3=>p3.elim fun U p4=>p4.elim fun n p5=>p5.elim fun hz h=>tP hm hk (by rfl) (pR.obj hC n.at_ (List.contains_iff_mem.mp ha) hz (h (n.set _)))) hs)
theorem step_new (X:xC K ρ.base fa cl mt) (hl:l ≤ 30) {op:Str} {dst:Int} {ts more:AV} (q:∀ H' x dx,qS H H' (cl 1) x dx [("op",.str op),("dst",.int dst),("args",ts),("more",more),("is_volatile",.bool false),("line",.int 0)]→Q (.ref x) H') :
  zE ρ l (.ref (cl 1)) [.str op,.int dst,ts,more] H Q:=by
 have hC:=(X.cls 1 (by decide)).2.2
 refine zE.new (f:=mt 1 0) hC (by simp [nO,xI]) fun x dx h1 h2 hne=>?_
 refine zE.fn X.S (ω310 hl) (X.mth 1 (by decide) 0 (by decide)) rfl (by decide) (fun L qual code hc=>?_) (by intro x hx;left;revert x hx;decide)
 refine ST.put hC ?_;lk;refine ⟨_,_,_,.start h1 h2 hne,(Af rfl),fun n=>?_⟩
 refine ST.put hC ?_;lk;refine ⟨_,_,_,n,(Af rfl),fun n=>?_⟩
 refine ST.put hC ?_;lk;refine ⟨_,_,_,n,(Af rfl),fun n=>?_⟩
 refine ST.put hC ?_;lk;refine ⟨_,_,_,n,(Af rfl),fun n=>?_⟩
 refine ST.put hC ?_;lk;refine ⟨_,_,_,n,(Af rfl),fun n=>?_⟩
 refine ST.put hC ?_;lk;refine ⟨_,_,_,n,(Af rfl),fun n=>ST.nil ⟨rfl,q _ x dx n⟩⟩
theorem block_new (X:xC K ρ.base fa cl mt) (hl:l ≤ 30) {n:Int} (q:∀ H' x dx sa,qS H H' (cl 2) x dx [("number",.int n),("steps",.ref sa),("end",.none)]→H' sa = some (.list [])→H sa = none→Q (.ref x) H') :
  zE ρ l (.ref (cl 2)) [.int n] H Q:=by
 have hC:=(X.cls 2 (by decide)).2.2
 refine zE.new (f:=mt 2 0) hC (by simp [nO,xI]) fun x dx h1 h2 hne=>?_
 refine zE.fn X.S (ω310 hl) (X.mth 2 (by decide) 0 (by decide)) rfl (by decide) (fun L qual code hc=>?_) (by intro x hx;left;revert x hx;decide)
 refine ST.put hC ?_;lk;refine ⟨_,_,_,.start h1 h2 hne,(Af rfl),fun n=>?_⟩
 refine ST.put hC ?_;refine xQ ?_
 lk
 intro sa hsa
 have hx:sa ≠ x:=fun e=>by rw [e,n.at_] at hsa;cases hsa
 have hd:sa ≠ dx:=fun e=>by rw [e,n.dat] at hsa;cases hsa
 have h0:H sa = none:=Ae fun q=>q (by rw [← n.fr sa hx hd q];exact hsa)
 refine ⟨_,_,_,n.also hsa,(Af rfl),fun n=>?_⟩
 refine ST.put hC ?_;lk;refine ⟨_,_,_,n,(Af rfl),fun n=>ST.nil ⟨rfl,q _ x dx sa n (by rw [zB hx,zB hx,zC]) h0⟩⟩
theorem func_new (X:xC K ρ.base fa cl mt) (hl:l ≤ 30) {nm:Str} (q:∀ H' x dx sa,qS H H' (cl 3) x dx [("name",.str nm),("params",.lst []),("is_static",.bool false),("slots",.lst []),("blocks",.ref sa),("registers",.int 0),("has_value",.bool false)]→H' sa = some (.list [])→H sa = none→Q (.ref x) H') :
  zE ρ l (.ref (cl 3)) [.str nm] H Q:=by
 have hC:=(X.cls 3 (by decide)).2.2
 refine zE.new (f:=mt 3 0) hC (by simp [nO,xI]) fun x dx h1 h2 hne=>?_
 refine zE.fn X.S (ω310 hl) (X.mth 3 (by decide) 0 (by decide)) rfl (by decide) (fun L qual code hc=>?_) (by intro x hx;left;revert x hx;decide)
 refine ST.put hC ?_;lk;refine ⟨_,_,_,.start h1 h2 hne,(Af rfl),fun n=>?_⟩
 refine ST.put hC ?_;lk;refine ⟨_,_,_,n,(Af rfl),fun n=>?_⟩
 refine ST.put hC ?_;lk;refine ⟨_,_,_,n,(Af rfl),fun n=>?_⟩
 refine ST.put hC ?_;lk;refine ⟨_,_,_,n,(Af rfl),fun n=>?_⟩
 refine ST.put hC ?_;refine xQ ?_
 lk
 intro sa hsa
 have hx:sa ≠ x:=fun e=>by rw [e,n.at_] at hsa;cases hsa
 have hd:sa ≠ dx:=fun e=>by rw [e,n.dat] at hsa;cases hsa
 have h0:H sa = none:=Ae fun q=>q (by rw [← n.fr sa hx hd q];exact hsa)
 refine ⟨_,_,_,n.also hsa,(Af rfl),fun n=>?_⟩
 refine ST.put hC ?_;lk;refine ⟨_,_,_,n,(Af rfl),fun n=>?_⟩
 refine ST.put hC ?_;lk;refine ⟨_,_,_,n,(Af rfl),fun n=>ST.nil ⟨rfl,q _ x dx sa n (by rw [zB hx,zB hx,zB hx,zC]) h0⟩⟩
theorem alloc_new (X:xC K ρ.base fa cl mt) (hl:l ≤ 30) (q:∀ H' x dx,qS H H' (cl 17) x dx [("place",.idct [] []),("incoming",.idct [] []),("fetched",.idct [] []),("saved_used",.lst []),("spills",.int 0)]→Q (.ref x) H') :
  zE ρ l (.ref (cl 17)) [] H Q:=by
 have hC:=(X.cls 17 (by decide)).2.2
 refine zE.new (f:=mt 17 0) hC (by simp [nO,xI]) fun x dx h1 h2 hne=>?_
 refine zE.fn X.S (ω310 hl) (X.mth 17 (by decide) 0 (by decide)) rfl (by decide) (fun L qual code hc=>?_) (by intro x hx;left;revert x hx;decide)
 refine ST.put hC ?_;refine xR X.S (.inl ?_);refine ⟨_,_,_,.start h1 h2 hne,(Af rfl),fun n=>?_⟩
 refine ST.put hC ?_;refine xR X.S (.inl ?_);refine ⟨_,_,_,n,(Af rfl),fun n=>?_⟩
 refine ST.put hC ?_;refine xR X.S (.inl ?_);refine ⟨_,_,_,n,(Af rfl),fun n=>?_⟩
 refine ST.put hC ?_;lk;refine ⟨_,_,_,n,(Af rfl),fun n=>?_⟩
 refine ST.put hC ?_;lk;refine ⟨_,_,_,n,(Af rfl),fun n=>ST.nil ⟨rfl,q _ x dx n⟩⟩
theorem watch_new (X:xC K ρ.base fa cl mt) (hl:l ≤ 30) {av kv:AV} (q:∀ H' x dx,qS H H' (cl 14) x dx [("allocation",av),("kept",kv),("alive",.idct [] [])]→Q (.ref x) H') :
  zE ρ l (.ref (cl 14)) [av,kv] H Q:=by
 have hC:=(X.cls 14 (by decide)).2.2
 refine zE.new (f:=mt 14 0) hC (by simp [nO,xI]) fun x dx h1 h2 hne=>?_
 refine zE.fn X.S (ω310 hl) (X.mth 14 (by decide) 0 (by decide)) rfl (by decide) (fun L qual code hc=>?_) (by intro x hx;left;revert x hx;decide)
 refine ST.put hC ?_;lk;refine ⟨_,_,_,.start h1 h2 hne,(Af rfl),fun n=>?_⟩
 refine ST.put hC ?_;lk;refine ⟨_,_,_,n,(Af rfl),fun n=>?_⟩
 refine ST.put hC ?_;refine xR X.S (.inl ?_);refine ⟨_,_,_,n,(Af rfl),fun n=>ST.nil ⟨rfl,q _ x dx n⟩⟩
end
end
section
noncomputable def nop (s:Str):Str:=Txt.replace s "!" ""
noncomputable def volOf (s:Str):Bool:=decide (Txt.slice s (some (-1)) none = "!")
noncomputable def qP (cl:Nat→Addr) (op:Str) (dst:Int) (ts:List xA) (more:AV) (vol:Bool):AV:=.obj (cl 1) ["op","dst","args","more","is_volatile","line"] [.str op,.int dst,.lst (ts.map uX),more,.bool vol,.int 0]
noncomputable def uA (cl:Nat→Addr) (r:rQ):AV:=qP cl (nop r.op) r.dst r.terms r.more (volOf r.op)
noncomputable def vS (cl:Nat→Addr) (b:yF):AV:=qP cl (yS b.c b.v b.e).op (-1) (yS b.c b.v b.e).terms (yS b.c b.v b.e).more false
noncomputable def uL (cl:Nat→Addr) (p:yF×Nat):AV:=.obj (cl 2) ["number","steps","end"] [.int p.2,.lst (p.1.rows.map (uA cl)),vS cl p.1]
noncomputable def pL (cl:Nat→Addr) (bs:List yF) (ps:List Int) (many:Int):AV:=.obj (cl 3) ["name","params","is_static","slots","blocks","registers","has_value"] [.str "h",.lst (iL ps),.bool false,.lst [.tup [.int 8,.int 4],.tup [.int 8,.int 4]],.lst (bs.zipIdx.map (uL cl)),.int many,.bool true]
section
variable {l:Nat} {H H':zA} {Q:AV→zA→Prop} {k:Nat}
theorem wH.objs {C:Addr} {ns:List Str} {xs xs':List AV} (h:wU ρ xs H xs' H'):wH ρ (.obj C ns xs) H (.obj C ns xs') H':=
 ⟨h.1,h.2.1,fun P s v g p1=>p1.rec fun x dx kvs e n1 n2 io ns hk cl=>⟨x,dx,kvs,e,fun q=>n1 (q.elim (fun q=>.inl fun z=>q (h.1.none z)) .inr),fun q=>n2 (q.elim (fun q=>.inl fun z=>q (h.1.none z)) .inr),io,ns,hk,h.2.2 P s _ g cl⟩⟩
theorem qS.keep {H'':zA} {C x dx fs} (n:qS H H' C x dx fs) (k:Kp H' H''):qS H H'' C x dx fs:=
 ⟨n.x0,n.d0,n.ne,k.at n.at_,k.at n.dat,fun a ha hb h=>by have:=n.fr a ha hb h;rw [k a (by rw [this];exact h),this]⟩
theorem qS.put {C x dx fs} (n:qS H H' C x dx fs) {a:Addr} {o:AO} (h1:a ≠ x) (h2:a ≠ dx) (h:H a = none):qS H (upd H' a o) C x dx fs:=
 ⟨n.x0,n.d0,n.ne,by rw [zB (Ne.symm h1)];exact n.at_,by rw [zB (Ne.symm h2)];exact n.dat,fun b hb hb' hh=>by rw [zB fun (e:b = a)=>hh (by rw [e];exact h)];exact n.fr b hb hb' hh⟩
theorem Kp.del {a:Addr} (k:Kp H H') (h:H a = none):Kp H (del H' a):=fun b hb=>by rw [zR fun (e:b = a)=>hb (by rw [e];exact h)];exact k b hb
theorem Kp.upd {a:Addr} {o:AO} (k:Kp H H') (h:H a = none):Kp H (upd H' a o):=fun b hb=>by rw [zB fun (e:b = a)=>hb (by rw [e];exact h)];exact k b hb
theorem op_len:∀ o∈oW,o.length ≤ 100:=by decide
inductive INT0 (cl:Nat→Addr) (H:zA) (bs:List yF) (ps:List Int) (many:Int) (fx fdx sa:Addr) (t:Nat) (H':zA) (m':zN):Prop
 | mk:qS H H' (cl 3) fx fdx [("name",.str "h"),("params",.lst (iL ps)),("is_static",.bool false),("slots",.lst [.tup [.int 8,.int 4],.tup [.int 8,.int 4]]),("blocks",.ref sa),("registers",.int many),("has_value",.bool true)]→H' sa = some (.list ((bs.take t).zipIdx.map (uL cl)))→m' "func" = some (.ref fx)→INT0 cl H bs ps many fx fdx sa t H' m'
inductive INT1 (cl:Nat→Addr) (fx:Addr) (t:Nat) (H2:zA) (b:yF) (y dy sb:Addr) (s:Nat) (H':zA) (m':zN):Prop
 | mk:qS H2 H' (cl 2) y dy [("number",.int t),("steps",.ref sb),("end",.none)]→H' sb = some (.list ((b.rows.take s).map (uA cl)))→m' "func" = some (.ref fx)→m' "block" = some (.ref y)→m' "end" = some (encL (yS b.c b.v b.e))→INT1 cl fx t H2 b y dy sb s H' m'
theorem func_ok (X:xC K ρ.base fa cl mt) (hl:l ≤ 26) {bs:List yF} {nx:Nat} (B:BOK bs nx) {ps:List Int} (hps:ps.length ≤ 10) {many:Int}
  (q:∀ H',Kp H H'→Q (pL cl bs ps many) H'):zE ρ l (.ref (fa 33)) [.lst (bs.map wO),.lst (iL ps),.int many] H Q:=by
 have X1:=X.toProg2.toProg
 have hC3:=(X.cls 3 (by decide)).2.2
 have hC2:=(X.cls 2 (by decide)).2.2
 have hC1:=(X.cls 1 (by decide)).2.2
 have hlen:=B.len
 refine zE.fn X.S (oB hl) (X.fn 33 (by decide)).2 rfl (by decide) (fun L qual code hc=>?_) (by intro x hx;left;revert x hx;decide)
 refine sN ?_
 intro Qc
 refine EX.nC X 3 ?_
 lk
 refine func_new X (qD hl) fun H1 fx fdx sa n hsa hsa0=>?_
 have hax:sa ≠ fx:=fun e=>by rw [e,n.at_] at hsa;cases hsa
 have had:sa ≠ fdx:=fun e=>by rw [e,n.dat] at hsa;cases hsa
 refine ST.c ?_
 intro Qc
 refine uY ?_
 refine yW X1 (Prog.list X1) ?_
 lk
 refine vK (show yJ _ (.lst _) _ from rfl) (by rw [zP,Cu];exact ω311 hps) (.inl ?_)
 lk
 refine pR.obj hC3 n.at_ (by decide) (Af rfl) ?_
 have n:=n.set (oP [("name",.str "h"),("params",.lst []),("is_static",.bool false),("slots",.lst []),("blocks",.ref sa),("registers",.int 0),("has_value",.bool false)] "params" (.lst (iL ps)))
 refine ST.c ?_
 intro Qc
 refine uY ?_
 lk
 refine pR.obj hC3 n.at_ (by decide) (Af rfl) ?_
 have n:=n.set [("name",.str "h"),("params",.lst (iL ps)),("is_static",.bool false),("slots",.lst [.tup [.int 8,.int 4],.tup [.int 8,.int 4]]),("blocks",.ref sa),("registers",.int 0),("has_value",.bool false)]
 refine ST.c ?_
 intro Qc
 refine uY ?_
 lk
 refine pR.obj hC3 n.at_ (by decide) (Af rfl) ?_
 have n:=n.set [("name",.str "h"),("params",.lst (iL ps)),("is_static",.bool false),("slots",.lst [.tup [.int 8,.int 4],.tup [.int 8,.int 4]]),("blocks",.ref sa),("registers",.int many),("has_value",.bool false)]
 refine ST.c ?_
 intro Qc
 refine uY ?_
 lk
 refine pR.obj hC3 n.at_ (by decide) (Af rfl) ?_
 have n:=n.set [("name",.str "h"),("params",.lst (iL ps)),("is_static",.bool false),("slots",.lst [.tup [.int 8,.int 4],.tup [.int 8,.int 4]]),("blocks",.ref sa),("registers",.int many),("has_value",.bool true)]
 refine ST.c ?_
 intro Qc
 refine yB (INT0 cl H bs ps many fx fdx sa) ?_
 refine yG ?_
 refine ⟨_,yM.lst,⟨n,by rw [zB hax,zB hax,zB hax,zB hax];exact hsa,rfl⟩,?_,?_⟩
 ·rintro t x H2 m2 hx ⟨n,h2,u1⟩
  obtain ⟨b,hb,rfl⟩:=yA hx
  have hbm:=Dr hb
  have hrz:=B.rsz b hbm
  have htl:=(Bc.mp hb).1
  have htk:bs.take (t + 1) = bs.take t ++ [b]:=by rw [Cj,hb];rfl
  have hzl:((bs.take t).zipIdx.map (uL cl)).length = t:=by rw [Cp,List.length_zipIdx,Cs];exact ω312 htl
  refine AS.tup (xN.cons (AS.name (xN.cons (AS.name (xN.nil ?_)))))
  refine sN0 ?_
  intro Qs Qc
  refine EX.nC X 2 ?_
  refine yO.cons ?_
  refine xU X1 (Prog.len X1) ?_
  refine yO.cons (zQ ?_)
  lk
  refine xX.obj hC3 (show IsO _ (.ref _) _ _ from ⟨fdx,n.at_⟩) (by decide) (by rfl) (by rfl) ?_
  lk
  refine zE.len (show yJ _ (.ref _) _ from h2) (by rw [hzl,Cu];exact ω313 hlen htl hzl) ?_
  rw [hzl]
  lk
  refine block_new X (qD hl) fun H3 y dy sb n2 hsb hsb0=>?_
  have hby:sb ≠ y:=fun e=>by rw [e,n2.at_] at hsb;cases hsb
  have hbd:sb ≠ dy:=fun e=>by rw [e,n2.dat] at hsb;cases hsb
  refine ST.c0 ?_
  intro Qs Qc
  refine yB (INT1 cl fx t H2 b y dy sb) ?_
  refine yG ?_
  refine ⟨_,yM.lst,⟨n2,hsb,u1,rfl,rfl⟩,?_,?_⟩
  ·rintro s x H4 m4 hx ⟨n3,h3,v1,v2,v3⟩
   obtain ⟨r,hr,rfl⟩:=yA hx
   have hrm:=Dr hr
   have hro:=(B.row b hbm r hrm).1
   have hsl:=(Bc.mp hr).1
   have hrt:=B.tsz b hbm _ (Cy _ (Bm.mpr ⟨r,hrm,rfl⟩))
   have hrl:((b.rows.take s).map (uA cl)).length = s:=by rw [Cp,Cs];exact ω312 hsl
   refine AS.tup (xN.cons (AS.name (xN.cons (AS.name (xN.cons (AS.name (xN.cons (AS.name (xN.nil ?_)))))))))
   refine sN0 ?_
   intro Qs Qc
   refine EX.nC X 1 ?_
   refine yO.cons (EX.replace ?_ (by decide) (by decide))
   refine yG ?_
   refine ⟨r.op,rfl,by have:=op_len r.op hro;exact zy 1 1 0x1141000006150642150 rfl this,?_⟩
   lk
   refine yW X1 (Prog.list X1) ?_
   lk
   refine vK (show yJ _ (.lst _) _ from rfl) (by rw [Cp,Cu];exact ω311 hrt) (.inl ?_)
   lk
   refine step_new X (qD hl) fun H5 z dz n4=>?_
   refine ST.c0 ?_
   intro Qs Qc
   refine uY ?_
   refine pZ (EX.cutS ?_)
   refine yG ?_
   refine ⟨r.op,rfl,by rw [Cu];have:=op_len r.op hro;exact ω248 this,?_⟩
   lk
   refine ⟨_,rfl,?_⟩
   lk
   refine yI.seq ?_
   lk
   refine pR.obj hC1 n4.at_ (by decide) (Af rfl) ?_
   have n4:=n4.set [("op",.str (nop r.op)),("dst",.int r.dst),("args",.lst (r.terms.map uX)),("more",r.more),("is_volatile",.bool (volOf r.op)),("line",.int 0)]
   refine ST.take (x:="deed") (av:=.ref z) (by rfl) n4.frz ?_
   have n5:=n3.keep n4.kp'
   have h5:=n4.kp'.at h3
   refine ST.c ?_
   intro Qc
   refine zV (EX.append (zQ ?_))
   refine xH ?_
   refine xX.obj hC2 (show IsO _ (.ref _) _ _ from ⟨dy,n5.at_⟩) (by decide) (by rfl) (by rfl) ?_
   refine ⟨⟨_,h5⟩,?_⟩
   lk
   refine zE.append h5 (by rw [hrl,Cu];exact zy 3 3 0x11100710000007160672561642150 rfl hrz hsl hrl) (ST.nil ⟨n5.put hby hbd hsb0,?_,v1,v2,v3⟩)
   rw [zC,Cj,hr,Option.toList_some,Bt];rfl
  ·rintro H4 m4 ⟨n3,h3,v1,v2,v3⟩
   rw [Cp,Dq] at h3
   have het:=B.tsz b hbm _ (Cz _ (Bf.mpr rfl))
   refine ST.c ?_
   intro Qc
   refine uY ?_
   refine EX.take ?_
   refine EX.nC X 1 ?_
   lk
   refine zY.tp rfl ?_
   lk
   refine yW X1 (Prog.list X1) ?_
   lk
   refine zY.tp rfl ?_
   lk
   refine vK (show yJ _ (.lst _) _ from rfl) (by rw [Cp,Cu];exact ω311 het) (.inl ?_)
   lk
   refine zY.tp rfl ?_
   lk
   refine step_new X (qD hl) fun H5 z dz n4=>⟨_,_,n4.frz,?_⟩
   have n5:=n3.keep n4.kp'
   have h5:=n4.kp'.at h3
   lk
   refine pR.obj hC2 n5.at_ (by decide) (Af rfl) ?_
   have n6:=n5.set [("number",.int t),("steps",.ref sb),("end",vS cl b)]
   generalize hH6:del (del H5 z) dz = H6 at n5 n6 h5
   have h6:upd H6 y (.inst (cl 2) dy [("number",.int t),("steps",.ref sb),("end",vS cl b)]) sb = some (.list (b.rows.map (uA cl))):=by rw [zB hby];exact h5
   have fz:wH ρ (.ref y) (upd H6 y (.inst (cl 2) dy [("number",.int t),("steps",.ref sb),("end",vS cl b)])) (uL cl (b,t)) (del (del (del (upd H6 y (.inst (cl 2) dy [("number",.int t),("steps",.ref sb),("end",vS cl b)])) y) dy) sb):=
    n6.frz.trans (wH.objs (wU.cons wH.refl (wU.cons (wH.list (by rw [zR hbd,zR hby];exact h6)) (wU.cons wH.refl wU.nil))))
   refine (show ST ρ _ _ _ (upd H6 y (.inst (cl 2) dy [("number",.int t),("steps",.ref sb),("end",vS cl b)])) _ _ from ?_)
   refine ST.take (x:="block") v2 fz ?_
   have kp7:Kp H2 (del (del (del (upd H6 y (.inst (cl 2) dy [("number",.int t),("steps",.ref sb),("end",vS cl b)])) y) dy) sb):=n6.kp'.del hsb0
   have n7:=n.keep kp7
   have h7:=kp7.at h2
   refine ST.c ?_
   intro Qc
   refine zV (EX.append (zQ ?_))
   refine tP (show wA m4 "block" _ "func" = _ from v1) (by rfl) (by rfl) ?_
   refine xX.obj hC3 (show IsO _ (.ref _) _ _ from ⟨fdx,n7.at_⟩) (by decide) (by rfl) (by rfl) ?_
   refine ⟨⟨_,h7⟩,?_⟩
   lk
   refine zE.append h7 (by rw [hzl,Cu];exact ω313 hlen htl hzl) (ST.nil ⟨n7.put hax had hsa0,?_,v1⟩)
   rw [zC,htk,List.zipIdx_append,Bt]
   simp [Cs,Nat.min_eq_left (Nat.le_of_lt htl)]
 ·rintro H2 m2 ⟨n,h2,u1⟩
  rw [Cp,Dq] at h2
  refine sR ?_
  refine EX.take ?_
  lk
  refine ⟨_,_,n.frz.trans (wH.objs (wU.cons wH.refl (wU.cons wH.refl (wU.cons wH.refl (wU.cons wH.refl (wU.cons (wH.list (by rw [zR had,zR hax];exact h2)) (wU.cons wH.refl (wU.cons wH.refl wU.nil)))))))),?_⟩
  exact q _ (n.kp'.del hsa0)
end
end
section
section
variable {l:Nat} {H H':zA} {Q:AV→zA→Prop} {B0:Bool→zA→Prop} {k:Nat} {bs:List yF} {ps:List Int} {many:Int} {b:yF} {i:Nat}
theorem TRU.isL {av:AV} {xs:List AV} (hL:yJ H av xs) (hz:xs.length ≤ sizeLine) (q:B0 (!xs.isEmpty) H):TRU ρ l av H B0:=by
 refine .mk ?_
 rintro P s v g c A hA
 refine sealG ?_
 intro Gs
 obtain ⟨a,vs,n,rfl,ho,cl⟩:=hL.at g c
 have hl:=cl.length
 refine wpAny_truthy_list (items:=vs.toArray) ⟨_,ho,rfl,n,rfl⟩ (by rw [Bo,cl.length];exact int63 hz) ⟨H,g.tok (Nat.le_succ_of_le (Nat.le_succ _)),?_⟩
 cases xs <;> cases vs <;> simp at hl q ⊢ <;> exact q
theorem tR (X:xC K ρ.base fa cl mt) (q:Q (.lst (bs.zipIdx.map (uL cl))) H):xX ρ l (pL cl bs ps many) "blocks" H Q:=
 xX.obj (fs:=[("name",.str "h"),("params",.lst (iL ps)),("is_static",.bool false),("slots",.lst [.tup [.int 8,.int 4],.tup [.int 8,.int 4]]),("blocks",.lst (bs.zipIdx.map (uL cl))),("registers",.int many),("has_value",.bool true)]) (X.cls 3 (by decide)).2.2 ⟨rfl,rfl,rfl⟩ (by decide) rfl rfl q
theorem xX.Fp (X:xC K ρ.base fa cl mt) (q:Q (.lst (iL ps)) H):xX ρ l (pL cl bs ps many) "params" H Q:=
 xX.obj (fs:=[("name",.str "h"),("params",.lst (iL ps)),("is_static",.bool false),("slots",.lst [.tup [.int 8,.int 4],.tup [.int 8,.int 4]]),("blocks",.lst (bs.zipIdx.map (uL cl))),("registers",.int many),("has_value",.bool true)]) (X.cls 3 (by decide)).2.2 ⟨rfl,rfl,rfl⟩ (by decide) rfl rfl q
theorem qC (X:xC K ρ.base fa cl mt) {x:Str} {v:AV} (q:Q v H) (hv:autoParam (([("number",.int i),("steps",.lst (b.rows.map (uA cl))),("end",vS cl b)]:List (Str×AV)).lookup x = some v) rt) (hx:autoParam ((uB 2).contains x = true) rt) (hg:autoParam (given v = true) rt):xX ρ l (uL cl (b,i)) x H Q:=
 xX.obj (fs:=[("number",.int i),("steps",.lst (b.rows.map (uA cl))),("end",vS cl b)]) (X.cls 2 (by decide)).2.2 ⟨rfl,rfl,rfl⟩ (List.contains_iff_mem.mp hx) hv hg q
theorem xS (X:xC K ρ.base fa cl mt) {op:Str} {dst:Int} {ts:List xA} {more:AV} {vol:Bool} {x:Str} {v:AV} (q:Q v H) (hv:autoParam (([("op",.str op),("dst",.int dst),("args",.lst (ts.map uX)),("more",more),("is_volatile",.bool vol),("line",.int 0)]:List (Str×AV)).lookup x = some v) rt) (hx:autoParam ((uB 1).contains x = true) rt) (hg:autoParam (given v = true) rt):xX ρ l (qP cl op dst ts more vol) x H Q:=
 xX.obj (fs:=[("op",.str op),("dst",.int dst),("args",.lst (ts.map uX)),("more",more),("is_volatile",.bool vol),("line",.int 0)]) (X.cls 1 (by decide)).2.2 ⟨rfl,rfl,rfl⟩ (List.contains_iff_mem.mp hx) hv hg q
theorem pO (h:bs[i]? = some b):(bs.zipIdx.map (uL cl))[i]? = some (uL cl (b,i)):=by
 rw [Bg,List.getElem?_zipIdx,h];simp
theorem wJ:(bs.zipIdx.map (uL cl)).length = bs.length:=by rw [Cp,List.length_zipIdx]
set_option tactic.hygienic true in
theorem vZ (X:xC K ρ.base fa cl mt) (hl:l ≤ 28) (q:Q (.lst (nL (yN b.e))) H):zE ρ l (.ref (fa 4)) [uL cl (b,i)] H Q:=by
 have X1:=X.toProg2.toProg
 refine zE.fn X.S (ω83 hl) (X.fn 4 (by decide)).2 rfl (by decide) (fun L qual code hc=>?_) (by intro x hx;left;revert x hx;decide)
 refine sN ?_
 refine zQ ?_
 lk
 refine qC X ?_
 refine (show ST _ _ _ _ _ _ _ from ?_)
 obtain ⟨rows,e,c,v⟩:=b
 unfold vS
 cases e
 case on a=>
  refine ST.cons (zK (zH ?_))
  refine zQ ?_
  lk;refine xS X ?_;lk
  refine yI.seq ?_
  refine sR ?_;refine EX.lst (yO.cons (zQ ?_))
  lk;refine xS X ?_;lk
  exact q
 case give=>
  iterate 3
   refine ST.cons (zK (zH ?_))
   refine zQ ?_
   lk;refine xS X ?_;lk
   refine yI.seq ?_
   refine ST.nil ?_
  refine sR ?_;refine EX.lst ?_
  lk
  exact q
 case table a b d=>
  iterate 2
   refine ST.cons (zK (zH ?_))
   refine zQ ?_
   lk;refine xS X ?_;lk
   refine yI.seq ?_
   refine ST.nil ?_
  refine ST.cons (zK (zH ?_))
  refine zQ ?_
  lk;refine xS X ?_;lk
  refine yI.seq ?_
  refine sR ?_
  refine yY ?_
  refine yW X1 (Prog.list X1) ?_
  refine yO.cons (EX.sub (zQ ?_) (by rfl))
  lk;refine xS X ?_;lk
  refine zY.tp rfl ?_
  lk
  refine vK (show yJ _ (.lst _) _ from rfl) (pC rfl) (.inl ?_)
  refine EX.lst (yO.cons (EX.sub (zQ ?_) (by rfl)))
  lk;refine xS X ?_;lk
  refine zY.tp rfl ?_
  lk
  exact wL (show yJ _ (.lst _) _ from rfl) (show yJ _ (.lst _) _ from rfl) (Af rfl) (.inl q)
 all_goals
  refine ST.cons (zK (zH ?_))
  refine zQ ?_
  lk;refine xS X ?_;lk
  refine yI.seq ?_
  refine ST.nil ?_
  refine ST.cons (zK (zH ?_))
  refine zQ ?_
  lk;refine xS X ?_;lk
  refine yI.seq ?_
  refine sR ?_
  refine EX.lst (yO.cons (EX.sub (zQ ?_) (by rfl)))
  lk;refine xS X ?_;lk
  refine zY.tp rfl ?_
  refine yO.cons (EX.sub (zQ ?_) (by rfl))
  lk;refine xS X ?_;lk
  refine zY.tp rfl ?_
  lk
  exact q
inductive INU0 (cl:Nat→Addr) (H:zA) (bs:List yF) (ps:List Int) (many:Int) (D:Nat→Addr) (H':zA) (P:(Nat→List Nat)) (m':zN):Prop
 | mk:(∀ i,i < bs.length→H' (D i) = some (.list (nL (P i))))→(∀ i,i < bs.length→(P i).Nodup∧∀ j,j∈P i→∃ b,bs[j]? = some b∧i∈yN b.e)→Kp H H'→m' "func" = some (pL cl bs ps many)→m' "found" = some (.lst ((List.range bs.length).map fun p=>.ref (D p)))→INU0 cl H bs ps many D H' P m'
inductive INU1 (bs:List yF) (I:zA→(Nat→List Nat)→zN→Prop) (t:Nat) (H':zA) (m':zN):Prop
 | mk:∀ P,I H' P m'→(∀ j,j < t→∀ b,bs[j]? = some b→∀ i∈yN b.e,j∈P i)→INU1 bs I t H' m'
inductive INU2 (cl:Nat→Addr) (bs:List yF) (I:zA→(Nat→List Nat)→zN→Prop) (t:Nat) (b:yF) (s:Nat) (H':zA) (m':zN):Prop
 | mk:∀ P,I H' P m'→(∀ j,j < t→∀ b,bs[j]? = some b→∀ i∈yN b.e,j∈P i)→(∀ i∈(yN b.e).take s,t∈P i)→m' "block" = some (uL cl (b,t))→INU2 cl bs I t b s H' m'
inductive JNU0 (H:zA) (s:Nat) (ys:List AV) (H':zA) (m':zN):Prop
 | mk:∀ d:Nat→Addr,ys = (List.range s).map (fun p=>.ref (d p))→(∀ p,p < s→H' (d p) = some (.list [])∧H (d p) = none)→(∀ p q,p < s→q < s→d p = d q→p = q)→Kp H H'→JNU0 H s ys H' m'
theorem preds_ok (X:xC K ρ.base fa cl mt) (hl:l ≤ 26) {nx:Nat} (B:BOK bs nx)
  (q:∀ H' (pr:Nat→List Nat),(∀ i,i < bs.length→(pr i).Nodup∧∀ j,j∈pr i↔∃ b,bs[j]? = some b∧i∈yN b.e)→Kp H H'→Q (.lst ((List.range bs.length).map fun i=>.lst (nL (pr i)))) H') :
  zE ρ l (.ref (fa 6)) [pL cl bs ps many] H Q:=by
 have X1:=X.toProg2.toProg
 have hlen:=B.len
 refine zE.fn X.S (oB hl) (X.fn 6 (by decide)).2 rfl (by decide) (fun L qual code hc=>?_) (by intro x hx;left;revert x hx;decide)
 refine ST.cons (tF X.S (cl:=[]) [] (.of (by rfl) (by rfl) (by rfl) (by rfl)) (.inl (by rfl)) ?_)
 refine zQ ?_
 lk
 refine tR X ⟨_,yM.lst,JNU0 H,⟨fun U=>0,rfl,by simp,by simp,.refl⟩,?_,?_⟩
 ·rintro L2 s x ys H5 m5 hx ⟨d,rfl,d1,d2,d3⟩
  have hs:s < bs.length:=by have:=(Bc.mp hx).1;rwa [wJ] at this
  refine AS.name ?_
  refine xQ ?_
  lk
  intro a ha
  refine ⟨by rw [Cp,Bh,Cu];exact ω316 hlen hs,fun p=>if p = s then a else d p,?_,fun p hp=>?_,fun p q hp hq h=>?_,d3.trans (.new ha)⟩
  ·rw [List.range_succ,Bt,List.map_singleton]
   congr 1
   ·exact Cf fun p hp=>by simp only [Aa (show ¬ p = s by have:=Cg.mp hp;exact zy 2 1 74194249297 rfl this)]
   ·simp
  ·by_cases h:p = s
   ·subst h;simp only [Ay];exact ⟨zC,Ae fun q=>q (by rw [← d3 a q];exact ha)⟩
   ·simp only [Aa h]
    have:=d1 p (tT hp h)
    exact ⟨by rw [zB fun e=>by rw [e,ha] at this;cases this.1];exact this.1,this.2⟩
  ·have hn:∀ p,p < s→d p ≠ a:=fun p hp e=>by have:=(d1 p hp).1;rw [e,ha] at this;cases this
   by_cases h1:p = s <;> by_cases h2:q = s
   ·rw [h1,h2]
   ·simp only [Ab h1,Aa h2] at h;exact absurd h.symm (hn q (ω260 hq h1 h2))
   ·simp only [Ab h2,Aa h1] at h;exact absurd h (hn p (ω261 hp h1 h2))
   ·simp only [Aa h1,Aa h2] at h;exact d2 p q (ω262 hp hq h1 h2) (tT hq h2) h
 rintro ys H1 m1 ⟨D,rfl,d1,d2,d3⟩
 rw [wJ] at d1 d2 ⊢
 refine .inl ?_
 let I:zA→(Nat→List Nat)→zN→Prop:=INU0 cl H bs ps many D
 refine ST.cons (yB (INU1 bs I) ?_)
 refine zQ ?_
 lk
 refine tR X ⟨_,yM.lst,⟨fun U=>[],⟨fun i hi=>(d1 i hi).1,fun i hi=>⟨by simp,by simp⟩,d3,rfl,rfl⟩,fun j hj=>by exact ω317 hj⟩,?_,?_⟩
 ·rintro t x H2 m2 hx ⟨P,I2,dn⟩
  have ht:t < bs.length:=by have:=(Bc.mp hx).1;rwa [wJ] at this
  obtain ⟨b,hb⟩:∃ b,bs[t]? = some b:=⟨_,Ci ht⟩
  rw [pO hb] at hx
  cases hx
  refine AS.name ?_
  refine ST.cons (yB (INU2 cl bs I t b) ?_)
  refine zO X1 4 ?_
  lk
  refine vZ X (nE hl) ⟨_,yM.lst,⟨P,(by obtain ⟨i1,i2,i3,u1,u2⟩:=I2;exact ⟨i1,i2,i3,u1,u2⟩),dn,by simp,rfl⟩,?_,?_⟩
  ·rintro s x H3 m3 hx ⟨P,⟨i1,i2,i3,u1,u2⟩,e1,e2,u3⟩
   obtain ⟨g,hg,rfl⟩:=nL_at hx
   have hgm:g∈yN b.e:=Dr hg
   have hgl:=B.tgt t b hb g hgm
   have htk:(yN b.e).take (s + 1) = (yN b.e).take s ++ [g]:=by rw [Cj,hg];rfl
   have hPl:(P g).length ≤ 6:=wQ B _ (i2 g hgl).1 fun j hj=>by obtain ⟨b,hb,U⟩:=(i2 g hgl).2 j hj;exact (Bc.mp hb).1
   refine AS.name ?_
   refine ST.cons (zK (zH ?_))
   refine zQ ?_
   lk
   refine qC X ?_
   lk
   refine zY.list (show yJ _ (.lst _) _ from rfl) xO (by rw [Cp,Bh,Cu];exact wB hlen) (vP hgl) ?_
   refine tH (ns:=(P g).map fun (n:Nat)=>(n:Int)) (show yJ _ (.ref _) _ from i1 g hgl) ?_
   have hmem:((t:Int)∈(P g).map fun (n:Nat)=>(n:Int))↔t∈P g:=by
    rw [Bm];exact ⟨fun ⟨i,hi,e⟩=>Int.ofNat.inj e ▸ hi,fun h=>⟨t,h,rfl⟩⟩
   by_cases hja:t∈P g
   ·rw [Dc (hmem.mpr hja)]
    refine ST.nil (ST.nil ⟨P,⟨i1,i2,i3,u1,u2⟩,e1,fun i hi=>?_,u3⟩)
    rw [htk] at hi
    rcases Cx.mp hi with h | h
    ·exact e2 i h
    ·rw [Bf.mp h];exact hja
   ·rw [Dj fun h=>hja (hmem.mp h)]
    refine ST.cons (zV (EX.append ?_))
    lk
    refine zY.list (show yJ _ (.lst _) _ from rfl) xO (by rw [Cp,Bh,Cu];exact wB hlen) (vP hgl) ?_
    refine ⟨⟨_,i1 g hgl⟩,zQ ?_⟩
    lk
    refine qC X ?_
    refine zE.append (i1 g hgl) (by rw [xY,Cu];exact wB hPl) ?_
    refine ST.nil (ST.nil ⟨fun i=>if i = g then P g ++ [t] else P i,⟨fun i hi=>?_,fun i hi=>?_,fun a ha=>by rw [zB fun (e:a = D g)=>ha (by rw [e];exact (d1 g hgl).2)];exact i3 a ha,u1,u2⟩,fun j hj b hb i hi=>?_,fun i hi=>?_,u3⟩)
    ·by_cases e:i = g
     ·subst e;simp only [Ay];rw [zC,qK]
     ·simp only [Aa e];rw [zB fun h=>e (d2 i g hi hgl h)];exact i1 i hi
    ·by_cases e:i = g
     ·subst e;simp only [Ay]
      refine ⟨?_,fun j hj=>?_⟩
      ·rw [Di];exact ⟨(i2 i hi).1,by simp,fun a ha b hb=>by rw [Bf.mp hb];exact fun e=>hja (e ▸ ha)⟩
      ·rcases Cx.mp hj with h | h
       ·exact (i2 i hi).2 j h
       ·rw [Bf.mp h];exact ⟨b,hb,hgm⟩
     ·simp only [Aa e];exact i2 i hi
    ·have:=e1 j hj b hb i hi
     by_cases e:i = g
     ·subst e;simp only [Ay];exact Cy _ this
     ·simp only [Aa e];exact this
    ·by_cases e:i = g
     ·subst e;simp
     ·simp only [Aa e]
      rw [htk] at hi
      rcases Cx.mp hi with h | h
      ·exact e2 i h
      ·exact absurd (Bf.mp h) e
  ·rintro H3 m3 ⟨P,I3,e1,e2,u3⟩
   rw [xY,Dq] at e2
   refine ST.nil ⟨P,I3,fun j hj b' hb' i hi=>?_⟩
   by_cases e:j = t
   ·subst e;rw [hb] at hb';cases hb';exact e2 i hi
   ·exact e1 j (tT hj e) b' hb' i hi
 rintro H2 m2 ⟨P,⟨i1,i2,i3,u1,u2⟩,dn⟩
 rw [wJ] at dn
 refine sR ?_
 refine EX.take ?_
 lk
 obtain ⟨H3,f3,s3⟩:=rJ (H:=H2) (A:=D) (o:=fun i=>.list (nL (P i))) (av:=fun i=>.lst (nL (P i))) (fun U U h=>wH.list h) (List.range bs.length) (List.nodup_range.imp_of_mem fun hp hq h e=>h (d2 _ _ (Cg.mp hp) (Cg.mp hq) e)) fun i hi=>i1 i (Cg.mp hi)
 refine ⟨_,H3,wH.lsts f3,q H3 P (fun i hi=>⟨(i2 i hi).1,fun j=>⟨(i2 i hi).2 j,fun p1=>p1.elim fun b p2=>p2.elim fun hb hg=>dn j (Bc.mp hb).1 b hb i hg⟩⟩) fun a ha=>?_⟩
 rw [s3 a fun i hi e=>ha (by rw [e];exact (d1 i (Cg.mp hi)).2)];exact i3 a ha
end
end
section
noncomputable def gl (bs:List yF) (n:Nat):List Nat:=(bs[n]?.map fun b=>yN b.e).getD []
theorem tD {bs:List yF} {n:Nat} {b:yF} (h:bs[n]? = some b):gl bs n = yN b.e:=by unfold gl;rw [h];rfl
theorem goals_len (e:End):(yN e).length ≤ 3:=by cases e <;> simp [yN]
theorem gl_len (bs:List yF) (n:Nat):(gl bs n).length ≤ 3:=by
 unfold gl;cases bs[n]? with
 | none=>simp
 | some b=>exact goals_len b.e
structure PO (H0 H:zA) (bs:List yF) (fo se st:Addr) (F:List Nat) (FS:List (Addr×Nat×Nat)) (S:Int→Bool):Prop where
 hst:H st = some (.list (FS.map fun f=>AV.ref f.1))
 hfo:H fo = some (.list (nL F))
 hse:H se = some (.uset S (F.length + FS.length))
 fr:∀ f∈FS,H f.1 = some (.list [.int f.2.1,.lst (nL (gl bs f.2.1)),.int f.2.2])∧f.2.2 ≤ (gl bs f.2.1).length∧f.2.1 < bs.length∧H0 f.1 = none∧f.1 ≠ fo∧f.1 ≠ se∧f.1 ≠ st
 nd:(FS.map (fun p=>p.1)).Nodup
 nodes:(F ++ FS.map (fun p=>p.2.1)).Nodup
 sS:∀ x:Int,S x = true↔∃ n∈F ++ FS.map (fun p=>p.2.1),x = ((n:Nat):Int)
 Flt:∀ n∈F,n < bs.length
 clF:∀ n∈F,∀ g∈gl bs n,S ((g:Nat):Int) = true
 clS:∀ f∈FS,∀ g∈(gl bs f.2.1).take f.2.2,S ((g:Nat):Int) = true
 s0:S 0 = true
 kp:Kp H0 H
 n1:fo ≠ se
 n2:fo ≠ st
 n3:se ≠ st
 z1:H0 fo = none
 z2:H0 se = none
 z3:H0 st = none
noncomputable def pom (bs:List yF) (F:List Nat) (FS:List (Addr×Nat×Nat)):Nat:=5 * (6 - (F.length + FS.length)) + (FS.map fun f=>(gl bs f.2.1).length + 1 - f.2.2).sum
section
variable {H0 H:zA} {bs:List yF} {fo se st:Addr} {F:List Nat} {FS:List (Addr×Nat×Nat)} {S:Int→Bool} {T:Addr} {nn k:Nat}
theorem PO.size {nx:Nat} (B:BOK bs nx) (P:PO H0 H bs fo se st F FS S):F.length + FS.length ≤ 6:=by
 have:=wQ B _ P.nodes fun i hi=>by
  rcases Cx.mp hi with h | h
  ·exact P.Flt i h
  ·obtain ⟨f,hf,rfl⟩:=Bm.mp h;exact (P.fr f hf).2.2.1
 rwa [Ct,Cp] at this
theorem PO.pop (P:PO H0 H bs fo se st F (FS ++ [(T,nn,k)]) S) (hk:k = (gl bs nn).length) :
  PO H0 (upd (upd H fo (.list (nL F ++ [.int nn]))) st (.list (FS.map fun f=>AV.ref f.1))) bs fo se st (F ++ [nn]) FS S:=by
 have ft:=P.fr (T,nn,k) (by simp)
 have hlen:(F ++ [nn]).length + FS.length = F.length + (FS ++ [(T,nn,k)]).length:=by simp;exact zu2 5368942208373794 rfl
 refine ⟨zC,by rw [zB P.n2,zC,qK],by rw [zB P.n3,zB (Ne.symm P.n1),hlen];exact P.hse,fun f hf=>?_,?_,?_,fun x=>?_,fun n hn=>?_,fun n hn g hg=>?_,fun f hf=>P.clS f (Cy _ hf),P.s0,fun a ha=>?_,P.n1,P.n2,P.n3,P.z1,P.z2,P.z3⟩
 ·have:=P.fr f (Cy _ hf)
  exact ⟨by rw [zB this.2.2.2.2.2.2,zB this.2.2.2.2.1];exact this.1,this.2⟩
 ·have:=P.nd;rw [Bt] at this;exact (Di.mp this).1
 ·have:=P.nodes
  rw [Bt] at this
  refine (List.Perm.nodup_iff ?_).mp this
  rw [Cv]
  exact List.Perm.append_left _ List.perm_append_comm
 ·rw [P.sS x]
  constructor
  ·rintro ⟨n,hn,rfl⟩;refine ⟨n,?_,rfl⟩;simp at hn ⊢;rcases hn with h | h | h <;> simp [h]
  ·rintro ⟨n,hn,rfl⟩;refine ⟨n,?_,rfl⟩;simp at hn ⊢;rcases hn with h | h | h <;> simp [h]
 ·rcases Cx.mp hn with h | h
  ·exact P.Flt n h
  ·rw [Bf.mp h];exact ft.2.2.1
 ·rcases Cx.mp hn with h | h
  ·exact P.clF n h g hg
  ·rw [Bf.mp h] at hg
   exact P.clS (T,nn,k) (by simp) g (by dsimp only;rw [hk,Dq];exact hg)
 ·rw [zB fun e=>ha (by rw [e];exact P.z3),zB fun e=>ha (by rw [e];exact P.z1)];exact P.kp a ha
theorem PO.step (P:PO H0 H bs fo se st F (FS ++ [(T,nn,k)]) S) {g:Nat} (hg:(gl bs nn)[k]? = some g) (hS:S (g:Int) = true) :
  PO H0 (upd H T (.list [.int nn,.lst (nL (gl bs nn)),.int (k + 1:Nat)])) bs fo se st F (FS ++ [(T,nn,k + 1)]) S:=by
 have ft:=P.fr (T,nn,k) (by simp)
 have hkl:=(Bc.mp hg).1
 have hnd:=P.nd
 rw [Bt,Di] at hnd
 refine ⟨by rw [zB (Ne.symm ft.2.2.2.2.2.2),P.hst];simp,by rw [zB (Ne.symm ft.2.2.2.2.1)];exact P.hfo,by rw [zB (Ne.symm ft.2.2.2.2.2.1),P.hse];simp,fun f hf=>?_,by simpa using P.nd,by simpa using P.nodes,by simpa using P.sS,P.Flt,P.clF,fun f hf g' hg'=>?_,P.s0,fun a ha=>by rw [zB fun e=>ha (by rw [e];exact ft.2.2.2.1)];exact P.kp a ha,P.n1,P.n2,P.n3,P.z1,P.z2,P.z3⟩
 ·rcases Cx.mp hf with h | h
  ·have:=P.fr f (Cy _ h)
   exact ⟨by rw [zB fun e=>hnd.2.2 f.1 (Bm.mpr ⟨f,h,rfl⟩) T (.head _) e];exact this.1,this.2⟩
  ·rw [Bf.mp h];exact ⟨zC,by dsimp only;exact ω24 hkl,ft.2.2⟩
 ·rcases Cx.mp hf with h | h
  ·exact P.clS f (Cy _ h) g' hg'
  ·rw [Bf.mp h] at hg'
   dsimp only at hg'
   rw [Cj,hg] at hg'
   rcases Cx.mp hg' with h | h
   ·exact P.clS (T,nn,k) (by simp) g' h
   ·rw [show g' = g by simpa using h];exact hS
theorem PO.push (P:PO H0 H bs fo se st F (FS ++ [(T,nn,k)]) S) {g:Nat} (hg:(gl bs nn)[k]? = some g) (hS:S (g:Int) = false) (hgl:g < bs.length) {T2:Addr} (h2:upd (upd H T (.list [.int nn,.lst (nL (gl bs nn)),.int (k + 1:Nat)])) se (.uset (fun x=>S x || decide (x = g)) (F.length + (FS ++ [(T,nn,k)]).length + 1)) T2 = none) :
  PO H0 (upd (upd (upd (upd H T (.list [.int nn,.lst (nL (gl bs nn)),.int (k + 1:Nat)])) se (.uset (fun x=>S x || decide (x = g)) (F.length + (FS ++ [(T,nn,k)]).length + 1))) T2 (.list [.int g,.lst (nL (gl bs g)),.int 0])) st (.list (((FS ++ [(T,nn,k)]).map fun f=>AV.ref f.1) ++ [.ref T2]))) bs fo se st F (FS ++ [(T,nn,k + 1)] ++ [(T2,g,0)]) (fun x=>S x || decide (x = g)):=by
 have ft:=P.fr (T,nn,k) (by simp)
 have hkl:=(Bc.mp hg).1
 have hnd:=P.nd
 rw [Bt,Di] at hnd
 have m1:T2 ≠ se:=fun e=>by rw [e,zC] at h2;cases h2
 rw [zB m1] at h2
 have m2:T2 ≠ T:=fun e=>by rw [e,zC] at h2;cases h2
 rw [zB m2] at h2
 have m3:T2 ≠ fo:=fun e=>by rw [e,P.hfo] at h2;cases h2
 have m4:T2 ≠ st:=fun e=>by rw [e,P.hst] at h2;cases h2
 have m5:∀ f∈FS,f.1 ≠ T2:=fun f hf e=>by have:=(P.fr f (Cy _ hf)).1;rw [e,h2] at this;cases this
 have z4:H0 T2 = none:=Ae fun q=>q (by rw [← P.kp _ q];exact h2)
 have hgn:g ∉ F ++ (FS ++ [(T,nn,k)]).map (fun p=>p.2.1):=fun h=>by
  have:=(P.sS g).mpr ⟨g,h,rfl⟩;rw [hS] at this;cases this
 refine ⟨by rw [zC];simp,by rw [zB P.n2,zB (Ne.symm m3),zB P.n1,zB (Ne.symm ft.2.2.2.2.1)];exact P.hfo,by rw [zB P.n3,zB (Ne.symm m1),zC];simp;exact (zu2 0x13130216352645242 rfl),fun f hf=>?_,?_,?_,fun x=>?_,P.Flt,fun n hn g' hg'=>by rw [P.clF n hn g' hg'];rfl,fun f hf g' hg'=>?_,by rw [P.s0];rfl,fun a ha=>?_,P.n1,P.n2,P.n3,P.z1,P.z2,P.z3⟩
 ·rcases Cx.mp hf with h | h
  ·rcases Cx.mp h with h | h
   ·have:=P.fr f (Cy _ h)
    exact ⟨by rw [zB this.2.2.2.2.2.2,zB (m5 f h),zB this.2.2.2.2.2.1,zB fun e=>hnd.2.2 f.1 (Bm.mpr ⟨f,h,rfl⟩) T (.head _) e];exact this.1,this.2⟩
   ·rw [Bf.mp h]
    exact ⟨by dsimp only;rw [zB ft.2.2.2.2.2.2,zB (Ne.symm m2),zB ft.2.2.2.2.2.1,zC],by dsimp only;exact ω24 hkl,ft.2.2⟩
  ·rw [Bf.mp h]
   exact ⟨by dsimp only;rw [zB m4,zC];rfl,by dsimp only;exact (wM 1265680 rfl),hgl,z4,m3,m1,m4⟩
 ·have:=P.nd
  simp only [Bt,Ba,List.map_nil] at this ⊢
  rw [Di]
  refine ⟨this,by simp,fun a ha b hb=>?_⟩
  rw [Bf.mp hb]
  rcases Cx.mp ha with h | h
  ·obtain ⟨f,hf,rfl⟩:=Bm.mp h;exact m5 f hf
  ·rw [Bf.mp h];exact Ne.symm m2
 ·have:=P.nodes
  simp only [Bt,Ba,List.map_nil] at this hgn ⊢
  rw [← Cv,Di]
  exact ⟨this,by simp,fun a ha b hb=>by rw [Bf.mp hb];exact fun e=>hgn (e ▸ ha)⟩
 ·rw [Df,P.sS x,Bq]
  simp only [Bt,Ba,List.map_nil]
  constructor
  ·rintro (⟨n,hn,rfl⟩ | rfl)
   ·exact ⟨n,by rw [← Cv];exact Cy _ hn,rfl⟩
   ·exact ⟨g,by simp,rfl⟩
  ·rintro ⟨n,hn,rfl⟩
   rw [← Cv] at hn
   rcases Cx.mp hn with h | h
   ·exact .inl ⟨n,h,rfl⟩
   ·rw [Bf.mp h];exact .inr rfl
 ·rcases Cx.mp hf with h | h
  ·rcases Cx.mp h with h | h
   ·rw [P.clS f (Cy _ h) g' hg'];rfl
   ·rw [Bf.mp h] at hg'
    dsimp only at hg'
    rw [Cj,hg] at hg'
    rcases Cx.mp hg' with h | h
    ·rw [P.clS (T,nn,k) (by simp) g' h];rfl
    ·rw [show g' = g by simpa using h];simp
  ·rw [Bf.mp h] at hg';simp at hg'
 ·rw [zB fun e=>ha (by rw [e];exact P.z3),zB fun e=>ha (by rw [e];exact z4),zB fun e=>ha (by rw [e];exact P.z2),zB fun e=>ha (by rw [e];exact ft.2.2.2.1)];exact P.kp a ha
end
section
variable {l:Nat} {H H':zA} {Q:AV→zA→Prop} {k:Nat} {bs:List yF} {ps:List Int} {many:Int} {b:yF} {i:Nat}
inductive INV0 (cl:Nat→Addr) (H:zA) (bs:List yF) (ps:List Int) (many:Int) (fo se st:Addr) (n:Nat) (H':zA) (m':zN):Prop
 | mk:∀ F FS S,PO H H' bs fo se st F FS S→n = pom bs F FS→m' "func" = some (pL cl bs ps many)→m' "found" = some (.ref fo)→m' "seen" = some (.ref se)→m' "stack" = some (.ref st)→INV0 cl H bs ps many fo se st n H' m'
theorem qI (X:xC K ρ.base fa cl mt) (hl:l ≤ 26) {nx:Nat} (B:BOK bs nx)
  (q:∀ H' (fo:Addr) (po:List Nat),H' fo = some (.list (nL po))→H fo = none→po.Nodup→(∀ i,i∈po↔i < bs.length)→Kp H H'→Q (.ref fo) H') :
  zE ρ l (.ref (fa 7)) [pL cl bs ps many] H Q:=by
 have X1:=X.toProg2.toProg
 have hlen:=B.len
 have hpos:=B.pos
 refine zE.fn X.S (oB hl) (X.fn 7 (by decide)).2 rfl (by decide) (fun L qual code hc=>?_) (by intro x hx;left;revert x hx;decide)
 refine ST.c ?_
 intro Qc
 refine S1.name (xQ ?_)
 lk
 intro fo hfo
 refine ST.c ?_
 intro Qc
 refine S1.name (EX.set1 hc (by rfl) fun se hse=>?_)
 refine ST.c ?_
 intro Qc
 refine S1.name (xQ (yO.cons (xQ ?_)))
 lk
 refine zO X1 4 ?_
 refine yO.cons (EX.sub (zQ ?_) (by rfl))
 lk
 obtain ⟨b0,hb0⟩:∃ b,bs[0]? = some b:=⟨_,Ci hpos⟩
 refine tR X ?_
 lk
 refine zY.list (show yJ _ (.lst _) _ from rfl) (by decide) (by rw [wJ,Cu];exact ω320 hlen hpos) (pO hb0) ?_
 lk
 refine vZ X (nE hl) ?_
 lk
 intro T hT
 lk
 intro st hst
 have n1:fo ≠ se:=fun e=>by rw [← e,zC] at hse;cases hse
 rw [zB (Ne.symm n1)] at hse
 have t1:T ≠ se:=fun e=>by rw [e,zC] at hT;cases hT
 rw [zB t1] at hT
 have t2:T ≠ fo:=fun e=>by rw [e,zC] at hT;cases hT
 rw [zB t2] at hT
 have s1:st ≠ T:=fun e=>by rw [e,zC] at hst;cases hst
 rw [zB s1] at hst
 have s2:st ≠ se:=fun e=>by rw [e,zC] at hst;cases hst
 rw [zB s2] at hst
 have s3:st ≠ fo:=fun e=>by rw [e,zC] at hst;cases hst
 rw [zB s3] at hst
 have P0:PO H (upd (upd (upd (upd H fo (.list [])) se (.uset (fun k=>decide (k = 0)) 1)) T (.list [.int 0,.lst (nL (yN b0.e)),.int 0])) st (.list [.ref T])) bs fo se st [] [(T,0,0)] (fun k=>decide (k = 0)):=by
  refine ⟨zC,by rw [zB (Ne.symm s3),zB (Ne.symm t2),zB n1,zC];rfl,by rw [zB (Ne.symm s2),zB (Ne.symm t1),zC];rfl,fun f hf=>?_,by simp,by simp,fun x=>by simp,by simp,by simp,fun f hf g hg=>?_,rfl,fun a ha=>?_,n1,Ne.symm s3,Ne.symm s2,hfo,hse,hst⟩
  ·rw [Bf.mp hf]
   exact ⟨by dsimp only;rw [zB (Ne.symm s1),zC,tD hb0];rfl,by dsimp only;exact (wM 1265680 rfl),hpos,hT,t2,t1,Ne.symm s1⟩
  ·rw [Bf.mp hf] at hg;simp at hg
  ·rw [zB fun e=>ha (by rw [e];exact hst),zB fun e=>ha (by rw [e];exact hT),zB fun e=>ha (by rw [e];exact hse),zB fun e=>ha (by rw [e];exact hfo)]
 refine ST.c ?_
 intro Qc
 refine uE (INV0 cl H bs ps many fo se st) _ ⟨_,_,_,P0,rfl,rfl,rfl,rfl,rfl⟩ ?_
 rintro n H1 m1 ⟨F,FS,S,P,rfl,u1,u2,u3,u4⟩
 have hsz:=P.size B
 refine TR.val ?_
 refine xH ?_
 refine TRU.isL (show yJ _ (.ref st) _ from P.hst) (by rw [Cp,Cu];exact ω321 hsz) ?_
 rcases List.eq_nil_or_concat FS with rfl | ⟨FS',f,hFS⟩
 ·refine sR ?_;lk
  refine q H1 fo F P.hfo P.z1 (by simpa using P.nodes) (fun i=>⟨P.Flt i,fun hi=>?_⟩) P.kp
  have hS:∀ x,S x = true→∃ n∈F,x = ((n:Nat):Int):=fun x hx=>by simpa using (P.sS x).mp hx
  have:=pN B (S:=fun i=>S i = true) P.s0 (fun j b hb hj n hn=>by
   obtain ⟨m,hm,e⟩:=hS _ hj
   have e':j = m:=Int.ofNat.inj e
   exact P.clF j (e' ▸ hm) n (by rw [tD hb];exact hn)) i hi
  obtain ⟨m,hm,e⟩:=hS _ this
  rw [show i = m from Int.ofNat.inj e];exact hm
 rw [List.concat_eq_append] at hFS
 subst hFS
 obtain ⟨T,nn,k⟩:=f
 have ft:=P.fr (T,nn,k) (by simp)
 dsimp only at ft
 obtain ⟨b,hb⟩:∃ b,bs[nn]? = some b:=⟨_,Ci ft.2.2.1⟩
 have hgb:=tD hb
 have hgl3:=gl_len bs nn
 rw [show (!((FS' ++ [(T,nn,k)]).map fun f=>AV.ref f.1).isEmpty) = true from by simp]
 refine sN ?_
 intro Qc
 lk
 refine mB (show yJ _ (.ref st) _ from P.hst) (by rw [Cp,Cu];exact ω321 hsz) (x:=.ref T) (by simp) ?_
 refine ST.c ?_
 intro Qc
 refine zK (zH ?_)
 lk
 refine zY.list (show yJ _ (.ref T) _ from ft.1) (by decide) (pC rfl) (by rfl) ?_
 refine xU X1 (Prog.len X1) ?_
 lk
 refine zY.list (show yJ _ (.ref T) _ from ft.1) (by decide) (pC rfl) (by rfl) ?_
 lk
 refine zE.len (show yJ _ (.lst _) _ from rfl) (by rw [xY,Cu];exact ω97 hgl3) ?_
 rw [xY]
 refine wY ?_
 by_cases hk:k = (gl bs nn).length
 ·rw [Dc (by exact zy 2 1 0x1105101506205205652 rfl hk)]
  refine ST.c ?_
  intro Qc
  refine zV (EX.append ?_)
  refine xH ?_
  refine ⟨⟨_,P.hfo⟩,?_⟩
  lk
  refine zY.list (show yJ _ (.ref T) _ from ft.1) (by decide) (pC rfl) (by rfl) ?_
  refine zE.append P.hfo (by rw [xY,Cu];exact zy 2 1 0x114100000071506116520 rfl hsz) ?_
  have hst2:upd H1 fo (.list (nL F ++ [.int nn])) st = some (.list ((FS' ++ [(T,nn,k)]).map fun f=>AV.ref f.1)):=by rw [zB (Ne.symm P.n2)];exact P.hst
  refine ST.c ?_
  intro Qc
  refine zV (EX.pop0 ?_)
  refine xH ?_
  refine ⟨⟨_,hst2⟩,zE.pop hst2 (by rw [Cp,Cu];exact ω321 hsz) (x:=.ref T) (by simp) ?_⟩
  rw [show ((FS' ++ [(T,nn,k)]).map fun f=>AV.ref f.1).dropLast = FS'.map fun f=>AV.ref f.1 by simp]
  refine ST.c ?_
  intro Qc
  refine S1.cnt ⟨_,?_,_,_,_,P.pop hk,rfl,u1,u2,u3,u4⟩
  unfold pom
  simp only [Ct,Da,Bt,Ba,List.map_nil,List.sum_append,List.sum_cons,List.sum_nil]
  exact zw 5 0 3 1 0x110515000110a0111051500050110c01105150050110b0000c392b515029a51502165256408472611087426110 rfl hk
 ·have hkl:k < (gl bs nn).length:=by have:=ft.2.1;exact zy 8 4 0x10151001601116516526c926b9267a9267871650 rfl ft.2.1 ft.2.2.1 ft.2.2.2.2 hk
  obtain ⟨g,hg⟩:∃ g,(gl bs nn)[k]? = some g:=⟨_,Ci hkl⟩
  have hgg:g < bs.length:=B.tgt nn b hb g (by rw [← hgb];exact Dr hg)
  obtain ⟨bg,hbg⟩:∃ b,bs[g]? = some b:=⟨_,Ci hgg⟩
  have hgx:(nL (gl bs nn))[(k:Int).toNat]? = some (.int (g:Nat)):=by rw [Ce];simp [nL,iL,hg]
  rw [Dj (by exact zy 2 1 4862179233064529 rfl hkl)]
  refine ST.nil ?_
  refine sN ?_
  intro Qc
  lk
  refine zY.list (show yJ _ (.ref T) _ from ft.1) (by decide) (pC rfl) (by rfl) ?_
  lk
  refine zY.list (show yJ _ (.ref T) _ from ft.1) (by decide) (pC rfl) (by rfl) ?_
  refine zY.list (show yJ _ (.lst _) _ from rfl) xO (by rw [xY,Cu];exact ω97 hgl3) hgx ?_
  refine ST.c ?_
  intro Qc
  refine S1.augsub ?_
  lk
  refine qA.list (show yJ _ (.ref T) _ from ft.1) (by decide) (pC rfl) (by rfl) ?_
  lk
  refine INP.add (wT.list ft.1 (pC rfl) (by decide) (by simp) ?_)
  rw [show [AV.int nn,.lst (nL (gl bs nn)),.int k].set (2:Int).toNat (.int ((k:Int) + 1)) = [.int nn,.lst (nL (gl bs nn)),.int (k + 1:Nat)] from rfl]
  have hse2:upd H1 T (.list [.int nn,.lst (nL (gl bs nn)),.int (k + 1:Nat)]) se = some (.uset S (F.length + (FS' ++ [(T,nn,k)]).length)):=by rw [zB (Ne.symm ft.2.2.2.2.2.1)];exact P.hse
  refine ST.c ?_
  intro Qc
  refine zK (zH ?_)
  lk
  refine yI.ninU hse2 ?_
  cases hS:S (g:Int) with
  | true=>
   refine ST.nil (ST.nil ⟨_,?_,_,_,_,P.step hg hS,rfl,u1,u2,u3,u4⟩)
   unfold pom
   simp only [Ct,Da,Bt,Ba,List.map_nil,List.sum_append,List.sum_cons,List.sum_nil]
   exact zw 5 0 3 1 0x114111411001080010c392a515020b392a51502165156405464084726110 rfl hkl
  | false=>
   refine ST.c ?_
   intro Qc
   refine zV (oY ?_)
   refine xH ?_
   refine ⟨se,rfl,.inr ⟨_,_,hse2⟩,?_⟩
   lk
   refine zE.addU hse2 (zy 2 1 0x114fa03165216116520 rfl hsz) ?_
   rw [hS,Aa Bool.false_ne_true]
   have hst3:upd (upd H1 T (.list [.int nn,.lst (nL (gl bs nn)),.int (k + 1:Nat)])) se (.uset (fun x=>S x || decide (x = g)) (F.length + (FS' ++ [(T,nn,k)]).length + 1)) st = some (.list ((FS' ++ [(T,nn,k)]).map fun f=>AV.ref f.1)):=by rw [zB (Ne.symm P.n3),zB (Ne.symm ft.2.2.2.2.2.2)];exact P.hst
   refine ST.c ?_
   intro Qc
   refine zV (EX.append ?_)
   refine xH ?_
   refine ⟨⟨_,hst3⟩,xQ ?_⟩
   lk
   refine zO X1 4 ?_
   refine yO.cons (EX.sub (zQ ?_) (by rfl))
   lk
   refine tR X ?_
   lk
   refine zY.list (show yJ _ (.lst _) _ from rfl) xO (by rw [wJ,Cu];exact ω320 hlen hpos) (by rw [Ce];exact pO hbg) ?_
   lk
   refine vZ X (nE hl) ?_
   rw [← tD hbg]
   lk
   intro T2 hT2
   have PP:=P.push hg hS hgg hT2
   have m4:st ≠ T2:=fun e=>by rw [← e,hst3] at hT2;cases hT2
   refine zE.append (show upd _ T2 _ st = _ by rw [zB m4];exact hst3) (by rw [Cp,Cu];exact ω321 hsz) ?_
   have hs2:=PP.size B
   refine ST.nil (ST.nil ⟨_,?_,_,_,_,PP,rfl,u1,u2,u3,u4⟩)
   have h3:=gl_len bs g
   unfold pom
   simp only [Ct,Da,Bt,Ba,List.map_nil,List.sum_append,List.sum_cons,List.sum_nil] at hs2 ⊢
   exact ω629 hkl h3 hs2
theorem order_ok (X:xC K ρ.base fa cl mt) (hl:l ≤ 25) {nx:Nat} (B:BOK bs nx)
  (q:∀ H' (po:List Nat),po.Nodup→(∀ i,i∈po↔i < bs.length)→Kp H H'→Q (.lst (nL po)) H') :
  zE ρ l (.ref (fa 8)) [pL cl bs ps many] H Q:=by
 have X1:=X.toProg2.toProg
 refine zE.fn X.S (zy 1 1 77731217114997072 rfl hl) (X.fn 8 (by decide)).2 rfl (by decide) (fun L qual code hc=>?_) (by intro x hx;left;revert x hx;decide)
 refine sR ?_
 refine pY ?_
 refine zO X1 7 ?_
 lk
 refine qI X (zy 1 1 0x1141a21540192150 rfl hl) B fun H1 fo po h1 h2 h3 h4 h5=>?_
 have hpl:=wQ B po h3 fun i hi=>(h4 i).mp hi
 refine pT.no (pT.no (pT.ex ?_))
 lk
 refine ⟨-1,rfl,by decide,_,_,(show yJ _ (.ref fo) _ from h1),by rw [xY,Cu];exact wB hpl,Pick.rev,.inl ?_⟩
 rw [show (nL po).reverse = nL po.reverse by simp [nL,iL]]
 exact q H1 po.reverse (by rw [List.Nodup,List.pairwise_reverse];exact h3.imp Ne.symm) (fun i=>by rw [List.mem_reverse];exact h4 i) h5
end
end
section
noncomputable def tX (b:yF) (t:Nat) (c:Int):Prop:=∃ p ts,p < t∧(yD b)[p]? = some ts∧((Str.ofString "r",c):xA)∈ts∧∀ q r,q < p→b.rows[q]? = some r→r.dst ≠ c
theorem tX.succ {b:yF} {t:Nat} {ts:List xA} (h:(yD b)[t]? = some ts) {c:Int}:tX b (t + 1) c↔tX b t c∨(c∈zZ ts∧∀ q r,q < t→b.rows[q]? = some r→r.dst ≠ c):=by
 constructor
 ·rintro ⟨p,ts',hp,h1,h2,h3⟩
  by_cases e:p = t
  ·subst e;rw [h] at h1;cases h1;exact .inr ⟨yU.mpr h2,h3⟩
  ·exact .inl ⟨p,ts',tT hp e,h1,h2,h3⟩
 ·rintro (⟨p,ts',hp,h1,h2,h3⟩ | ⟨h1,h2⟩)
  ·exact ⟨p,ts',ω237 hp,h1,h2,h3⟩
  ·exact ⟨t,ts,(wM 1266769 rfl),h,yU.mp h1,h2⟩
section
variable {l:Nat} {H H':zA} {Q:AV→zA→Prop} {k:Nat} {bs:List yF} {ps:List Int} {many:Int} {b:yF} {i:Nat}
theorem registers_ok (X:xC K ρ.base fa cl mt) (hl:l ≤ 30) {op:Str} {dst:Int} {ts:List xA} {more:AV} {vol:Bool} (hts:ts.length ≤ 100) (q:Q (.lst (iL (zZ ts))) H) :
  zE ρ l (.ref (fa 13)) [qP cl op dst ts more vol] H Q:=by
 have X1:=X.toProg2.toProg
 refine zE.fn X.S (ω54 hl) (X.fn 13 (by decide)).2 rfl (by decide) (fun L qual code hc=>?_) (by intro x hx;left;revert x hx;decide)
 refine sR ?_
 refine vH X.S (cl:=[]) [] (.of (by rfl) (by rfl) (by rfl) (by rfl)) (zQ ?_)
 lk
 refine xS X ?_
 refine ⟨_,yM.lst,fun s ys H' m'=>H' = H∧ys = iL (zZ (ts.take s)),⟨rfl,rfl⟩,?_,?_⟩
 ·rintro L' s x ys H' m' hx ⟨rfl,rfl⟩
  obtain ⟨tm,htm,rfl⟩:=yA hx
  refine AS.tup (xN.cons (AS.name (xN.cons (AS.name (xN.nil ?_)))))
  refine (show TR ρ _ _ _ _ _ _ from zH ?_)
  lk
  refine yI.seq ?_
  by_cases hr:tm.1 = "r"
  ·rw [Dc hr]
   lk
   refine ⟨?_,rfl,by rw [wZ htm,Ab hr,← vX]⟩
   have:=rS (ts.take s)
   rw [Cs] at this
   rw [zP,Cu];exact zw 3 0 1 2 0x11001181101118010000007160860642150571 rfl hts this
  ·rw [Dj hr]
   exact ⟨rfl,by rw [wZ htm,Aa hr,List.append_nil]⟩
 ·rintro ys H' m' ⟨rfl,rfl⟩
  rw [Cp,Dq]
  exact .inl q
inductive INW0 (cl:Nat→Addr) (H:zA) (b:yF) (i:Nat) (na ga:Addr) (H':zA) (m':zN) (n' g':(Int→Prop)):Prop
 | mk:∀ N n G g,H' na = some (.iset N n)→H' ga = some (.iset G g)→n ≤ 50→g ≤ 50→(∀ c,N c = true↔n' c)→(∀ c,G c = true↔g' c)→Kp H H'→m' "needed" = some (.ref na)→m' "given" = some (.ref ga)→m' "block" = some (uL cl (b,i))→INW0 cl H b i na ga H' m' n' g'
inductive INW1 (cl:Nat→Addr) (b:yF) (I:zA→zN→(Int→Prop)→(Int→Prop)→Prop) (t:Nat) (r:rQ) (s:Nat) (H':zA) (m':zN):Prop
 | mk:I H' m' (fun c=>tX b t c∨(c∈zZ (r.terms.take s)∧¬ ∃ r∈b.rows.take t,r.dst = c)) (fun c=>∃ r∈b.rows.take t,r.dst = c)→m' "step" = some (uA cl r)→INW1 cl b I t r s H' m'
theorem needs_ok (X:xC K ρ.base fa cl mt) (hl:l ≤ 28) {nx:Nat} (B:BOK bs nx) (hbm:b∈bs)
  (q:∀ H' (N:Int→Bool) n (G:Int→Bool) g,(∀ c,N c = true↔tX b (b.rows.length + 1) c)→n ≤ 50→(∀ c,G c = true↔∃ r∈b.rows,r.dst = c)→Kp H H'→Q (.tup [.iset N n,.iset G g]) H') :
  zE ρ l (.ref (fa 9)) [uL cl (b,i)] H Q:=by
 have X1:=X.toProg2.toProg
 have hnx:=B.nxb
 have hrz:=B.rsz b hbm
 refine zE.fn X.S (ω83 hl) (X.fn 9 (by decide)).2 rfl (by decide) (fun L qual code hc=>?_) (by intro x hx;left;revert x hx;decide)
 refine sN ?_
 intro Qc
 refine yW X1 (Prog.set X1) ?_
 refine yO.nil (tI (.inr fun na hna=>?_))
 refine sN ?_
 intro Qc
 refine yW X1 (Prog.set X1) ?_
 refine yO.nil (tI (.inr fun ga hga=>?_))
 have hng:na ≠ ga:=fun e=>by rw [← e,zC] at hga;cases hga
 have hga0:H ga = none:=by rw [zB (Ne.symm hng)] at hga;exact hga
 have few:∀ {S:Int→Bool} {n},Few S n→(∀ c,S c = true→-1 ≤ c∧c < nx)→n ≤ 50:=fun f h=>by have:=f nx h;exact zy 2 2 0x111532216054602b2150 rfl hnx this
 have hnr:∀ {t c},tX b t c→-1 ≤ c∧c < nx:=fun p1=>p1.elim fun p p2=>p2.elim fun ts p3=>p3.elim fun U p4=>p4.elim fun h1 p5=>p5.elim fun h2 U=>by have:=xF B hbm (Dr h1) h2;exact ω327 this
 have hgr:∀ {t c},(∃ r∈b.rows.take t,r.dst = c)→-1 ≤ c∧c < nx:=fun p1=>p1.elim fun r p2=>p2.elim fun hr e=>m1_rng e (B.row b hbm r (Do hr)).2
 have hgt:∀ {t c},(¬ ∃ r∈b.rows.take t,r.dst = c)↔∀ q r,q < t→b.rows[q]? = some r→r.dst ≠ c:=fun {t c}=>by
  constructor
  ·exact fun h q r hq hr e=>h ⟨r,Dt.mpr ⟨q,by rw [List.getElem?_take_of_lt hq];exact hr⟩,e⟩
  ·rintro h ⟨r,hr,e⟩
   obtain ⟨q,hq⟩:=Dt.mp hr
   have hql:q < t:=by have:=(Bc.mp hq).1;rw [Cs] at this;exact zw 3 0 1 1 0x1101171100170651851761 rfl this
   rw [List.getElem?_take_of_lt hql] at hq
   exact h q r hql hq e
 let I:zA→zN→(Int→Prop)→(Int→Prop)→Prop:=INW0 cl H b i na ga
 refine ST.c ?_
 intro Qc
 refine yB (fun t H' m'=>I H' m' (tX b t) (fun c=>∃ r∈b.rows.take t,r.dst = c)) (zQ ?_)
 lk
 refine qC X ?_
 refine ⟨_,yM.lst,⟨_,0,_,0,by rw [zB hng,zC],zC,by decide,by decide,fun c=>⟨fun h=>(by cases h),fun p1=>p1.elim fun p p2=>p2.elim fun ts p3=>p3.elim fun hp U=>by exact ω317 hp⟩,fun c=>by simp,fun a ha=>by rw [zB fun e=>ha (by rw [e];exact hga0),zB fun e=>ha (by rw [e];exact hna)],rfl,rfl,rfl⟩,?_,?_⟩
 ·rintro t x H2 m2 hx ⟨N,n,G,g,h1,h2,h3,h4,h5,h6,h7,u1,u2,u3⟩
  obtain ⟨r,hr,rfl⟩:=yA hx
  have hrm:=Dr hr
  have htsm:r.terms∈yD b:=Cy _ (Bm.mpr ⟨r,hrm,rfl⟩)
  have hrl:=B.tsz b hbm _ htsm
  have htt:(yD b)[t]? = some r.terms:=by unfold yD;rw [List.getElem?_append_left (by rw [Cp];exact (Bc.mp hr).1),Bg,hr];rfl
  have htk:b.rows.take (t + 1) = b.rows.take t ++ [r]:=by rw [Cj,hr];rfl
  refine AS.name ?_
  refine ST.c ?_
  intro Qc
  refine yB (INW1 cl b I t r) (zQ ?_)
  lk
  unfold uA
  refine xS X ?_
  refine ⟨_,yM.lst,⟨⟨N,n,G,g,h1,h2,h3,h4,fun c=>by rw [h5 c];simp [zZ],h6,h7,u1,u2,u3⟩,rfl⟩,?_,?_⟩
  ·rintro s x H3 m3 hx ⟨⟨N,n,G,g,h1,h2,h3,h4,h5,h6,h7,u1,u2,u3⟩,u4⟩
   obtain ⟨tm,htm,rfl⟩:=yA hx
   have htk3:=wZ htm
   refine AS.tup (xN.cons (AS.name (xN.cons (AS.name (xN.nil ?_)))))
   refine ST.c ?_
   intro Qc
   refine zK (TR.bool (sC.cons (zH ?_)))
   lk
   refine yI.seq ?_
   by_cases hr':tm.1 = "r"
   ·rw [Ab hr'] at htk3
    rw [Dc hr']
    refine sC.cons (zH ?_)
    lk
    refine yI.ninS (show IsS _ (.ref ga) _ _ from h2) ?_
    have htr:=xF B hbm htsm (show ((Str.ofString "r",tm.2):xA)∈r.terms from by rw [show ((Str.ofString "r",tm.2):xA) = tm from Prod.ext hr'.symm rfl];exact Dr htm)
    cases hG:G tm.2 with
    | true=>
     refine ST.nil (ST.nil ⟨⟨N,n,G,g,h1,h2,h3,h4,fun c=>?_,h6,h7,u1,u2,u3⟩,u4⟩)
     rw [h5 c,htk3];rw [Cx,Bf]
     constructor
     ·exact fun h=>h.imp_right fun p1=>p1.elim fun a b=>⟨.inl a,b⟩
     ·rintro (h | ⟨h | h,h'⟩)
      ·exact .inl h
      ·exact .inr ⟨h,h'⟩
      ·subst h;exact absurd ((h6 _).mp hG) h'
    | false=>
     refine sC.nil ?_
     refine ST.c ?_
     intro Qc
     refine zV (oY ?_)
     refine xH ?_
     refine ⟨na,rfl,.inl ⟨_,_,h1⟩,?_⟩
     lk
     refine oA h1 (ω328 h3) fun n' hf=>ST.nil (ST.nil ⟨⟨_,n',G,g,zC,by rw [zB (Ne.symm hng)];exact h2,?_,h4,fun c=>?_,h6,fun a ha=>by rw [zB fun e=>ha (by rw [e];exact hna)];exact h7 a ha,u1,u2,u3⟩,u4⟩)
     ·refine few hf fun c hc'=>?_
      rw [Df,Bq] at hc'
      rcases hc' with h | h
      ·rcases (h5 c).mp h with h | ⟨h,U⟩
       ·exact hnr h
       ·have:=xF B hbm htsm (by have:=yU.mp h;exact Do this);exact ω327 this
      ·exact ω329 htr h
     ·rw [Df,Bq,h5 c,htk3];rw [Cx,Bf]
      constructor
      ·rintro ((h | ⟨a,b⟩) | h)
       ·exact .inl h
       ·exact .inr ⟨.inl a,b⟩
       ·subst h;exact .inr ⟨.inr rfl,fun h=>by have:=(h6 _).mpr h;rw [hG] at this;cases this⟩
      ·rintro (h | ⟨h | h,h'⟩)
       ·exact .inl (.inl h)
       ·exact .inl (.inr ⟨h,h'⟩)
       ·exact .inr h
   ·rw [Aa hr',List.append_nil] at htk3
    rw [Dj hr']
    refine ST.nil (ST.nil ⟨⟨N,n,G,g,h1,h2,h3,h4,fun c=>by rw [h5 c,htk3],h6,h7,u1,u2,u3⟩,u4⟩)
  ·rintro H3 m3 ⟨⟨N,n,G,g,h1,h2,h3,h4,h5,h6,h7,u1,u2,u3⟩,u4⟩
   rw [Cp,Dq] at h5
   refine ST.c0 ?_
   intro Qs Qc
   refine zV (oY ?_)
   refine xH ?_
   refine ⟨ga,rfl,.inl ⟨_,_,h2⟩,zQ ?_⟩
   lk
   refine xS X ?_
   refine oA h2 (ω328 h4) fun n' hf=>ST.nil ⟨N,n,_,n',by rw [zB hng];exact h1,zC,h3,?_,fun c=>?_,fun c=>?_,fun a ha=>by rw [zB fun e=>ha (by rw [e];exact hga0)];exact h7 a ha,u1,u2,u3⟩
   ·refine few hf fun c hc'=>?_
    rw [Df,Bq] at hc'
    rcases hc' with h | h
    ·exact hgr ((h6 c).mp h)
    ·rw [h];exact m1_rng rfl (B.row b hbm r hrm).2
   ·rw [h5 c,tX.succ htt];rw [hgt]
   ·rw [Df,Bq,h6 c,htk]
    constructor
    ·rintro (⟨r',h,e⟩ | h)
     ·exact ⟨r',Cy _ h,e⟩
     ·exact ⟨r,by simp,h.symm⟩
    ·rintro ⟨r',h,e⟩
     rcases Cx.mp h with h | h
     ·exact .inl ⟨r',h,e⟩
     ·rw [Bf.mp h] at e;exact .inr e.symm
 ·rintro H2 m2 ⟨N,n,G,g,h1,h2,h3,h4,h5,h6,h7,u1,u2,u3⟩
  rw [Cp] at h5 h6
  rw [Dq] at h6
  have htsm:(yS b.c b.v b.e).terms∈yD b:=Cz _ (Bf.mpr rfl)
  have htt:(yD b)[b.rows.length]? = some (yS b.c b.v b.e).terms:=by unfold yD;rw [List.getElem?_append_right (by simp)];simp
  have hrl:=B.tsz b hbm _ htsm
  refine ST.c ?_
  intro Qc
  refine yB (fun s H' m'=>I H' m' (fun c=>tX b b.rows.length c∨(c∈zZ ((yS b.c b.v b.e).terms.take s)∧¬ ∃ r∈b.rows,r.dst = c)) (fun c=>∃ r∈b.rows,r.dst = c)) (zQ (zQ ?_))
  lk
  refine qC X ?_
  unfold vS
  refine xS X ?_
  refine ⟨_,yM.lst,⟨N,n,G,g,h1,h2,h3,h4,fun c=>by rw [h5 c];simp [zZ],h6,h7,u1,u2,u3⟩,?_,?_⟩
  ·rintro s x H3 m3 hx ⟨N,n,G,g,h1,h2,h3,h4,h5,h6,h7,u1,u2,u3⟩
   obtain ⟨tm,htm,rfl⟩:=yA hx
   have htk3:=wZ htm
   refine AS.tup (xN.cons (AS.name (xN.cons (AS.name (xN.nil ?_)))))
   refine ST.c ?_
   intro Qc
   refine zK (TR.bool (sC.cons (zH ?_)))
   lk
   refine yI.seq ?_
   by_cases hr':tm.1 = "r"
   ·rw [Ab hr'] at htk3
    rw [Dc hr']
    refine sC.cons (zH ?_)
    lk
    refine yI.ninS (show IsS _ (.ref ga) _ _ from h2) ?_
    have htr:=xF B hbm htsm (show ((Str.ofString "r",tm.2):xA)∈(yS b.c b.v b.e).terms from by rw [show ((Str.ofString "r",tm.2):xA) = tm from Prod.ext hr'.symm rfl];exact Dr htm)
    cases hG:G tm.2 with
    | true=>
     refine ST.nil (ST.nil ⟨N,n,G,g,h1,h2,h3,h4,fun c=>?_,h6,h7,u1,u2,u3⟩)
     rw [h5 c,htk3];rw [Cx,Bf]
     constructor
     ·exact fun h=>h.imp_right fun p1=>p1.rec fun a b=>⟨.inl a,b⟩
     ·rintro (h | ⟨h | h,h'⟩)
      ·exact .inl h
      ·exact .inr ⟨h,h'⟩
      ·subst h;exact absurd ((h6 _).mp hG) h'
    | false=>
     refine sC.nil ?_
     refine ST.c ?_
     intro Qc
     refine zV (oY ?_)
     refine xH ?_
     refine ⟨na,rfl,.inl ⟨_,_,h1⟩,?_⟩
     lk
     refine oA h1 (ω328 h3) fun n' hf=>ST.nil (ST.nil ⟨_,n',G,g,zC,by rw [zB (Ne.symm hng)];exact h2,?_,h4,fun c=>?_,h6,fun a ha=>by rw [zB fun e=>ha (by rw [e];exact hna)];exact h7 a ha,u1,u2,u3⟩)
     ·refine few hf fun c hc'=>?_
      rw [Df,Bq] at hc'
      rcases hc' with h | h
      ·rcases (h5 c).mp h with h | ⟨h,U⟩
       ·exact hnr h
       ·have:=xF B hbm htsm (by have:=yU.mp h;exact Do this);exact ω327 this
      ·exact ω329 htr h
     ·rw [Df,Bq,h5 c,htk3];rw [Cx,Bf]
      constructor
      ·rintro ((h | ⟨a,b⟩) | h)
       ·exact .inl h
       ·exact .inr ⟨.inl a,b⟩
       ·subst h;exact .inr ⟨.inr rfl,fun h=>by have:=(h6 _).mpr h;rw [hG] at this;cases this⟩
      ·rintro (h | ⟨h | h,h'⟩)
       ·exact .inl (.inl h)
       ·exact .inl (.inr ⟨h,h'⟩)
       ·exact .inr h
   ·rw [Aa hr',List.append_nil] at htk3
    rw [Dj hr']
    exact ST.nil (ST.nil ⟨N,n,G,g,h1,h2,h3,h4,fun c=>by rw [h5 c,htk3],h6,h7,u1,u2,u3⟩)
  ·rintro H3 m3 ⟨N,n,G,g,h1,h2,h3,h4,h5,h6,h7,u1,u2,u3⟩
   rw [Cp,Dq] at h5
   refine ST.take (x:="needed") u1 (wH.iset h1) ?_
   refine ST.take (x:="given") (show wA m3 "needed" _ "given" = _ from u2) (wH.iset (by rw [zR (Ne.symm hng)];exact h2)) ?_
   refine sR ?_
   lk
   refine q _ N n G g (fun c=>?_) h3 h6 ((h7.del hna).del hga0)
   rw [h5 c,tX.succ htt,← hgt (t:=b.rows.length),Dq]
end
end
section
noncomputable def FF (bs:List yF) (L:Nat→Int→Bool) (i:Nat) (c:Int):Prop:=∃ b,bs[i]? = some b∧(tX b (b.rows.length + 1) c∨((¬ ∃ r∈b.rows,r.dst = c)∧∃ n∈gl bs i,L n c = true))
theorem FF.mono {bs:List yF} {L L':Nat→Int→Bool} {i:Nat} {c:Int} (h:∀ n,L n c = true→L' n c = true) (f:FF bs L i c):FF bs L' i c:=by
 obtain ⟨b,hb,f⟩:=f
 exact ⟨b,hb,f.imp_right fun p1=>p1.elim fun h1 p2=>p2.elim fun n p3=>p3.elim fun hn h2=>⟨h1,n,hn,h n h2⟩⟩
theorem pF {bs:List yF} {i:Nat} {b:yF} {c:Int} (hb:bs[i]? = some b):∀ {p:Nat},(∀ q r,q < p→b.rows[q]? = some r→r.dst ≠ c)→p ≤ b.rows.length→yK bs i p c→yK bs i 0 c
 | 0,_,_,h=>h
 | p + 1,hd,hp,h=>pF hb (fun q r hq=>hd q r (ω237 hq)) (ω16 hp) (.step hb (Ci (by exact ω15 hp:p < b.rows.length)) (hd p _ (wM 1266769 rfl) (Ci (ω15 hp))) h)
theorem FF.live {bs:List yF} {L:Nat→Int→Bool} {i:Nat} {c:Int} (hL:∀ n∈gl bs i,L n c = true→yK bs n 0 c) (f:FF bs L i c):yK bs i 0 c:=by
 refine sealG ?_
 intro Gs
 obtain ⟨b,hb,f⟩:=f
 rcases f with ⟨p,ts,hp,h1,h2,h3⟩ | ⟨h1,n,hn,h2⟩
 ·exact pF hb h3 (ω263 hp) (.use hb h1 h2)
 ·exact pF hb (fun q r U hr e=>h1 ⟨r,Dr hr,e⟩) (Ag _) (.jump hb (by rw [tD hb] at hn;exact hn) (hL n hn h2))
theorem live_up {bs:List yF} {L:Nat→Int→Bool} (hL:∀ i c,i < bs.length→FF bs L i c→L i c = true) (hg:∀ (i:Nat) (b:yF),bs[i]? = some b→∀ n∈yN b.e,n < bs.length) {i p:Nat} {c:Int} (h:yK bs i p c) :
  ∀ b,bs[i]? = some b→(∃ q ts,p ≤ q∧(yD b)[q]? = some ts∧((Str.ofString "r",c):xA)∈ts∧∀ q' r,p ≤ q'→q' < q→b.rows[q']? = some r→r.dst ≠ c)∨((∀ q r,p ≤ q→b.rows[q]? = some r→r.dst ≠ c)∧∃ n∈yN b.e,L n c = true):=by
 induction h with
 | use hb hts hm=>intro b' hb';rw [hb] at hb';cases hb';exact .inl ⟨_,_,Ag _,hts,hm,fun q' r h1 h2=>absurd h1 (Nat.not_le.mpr h2)⟩
 | step hb hr hd _ ih=>
  intro b' hb';rw [hb] at hb';cases hb'
  refine sealG ?_
  intro Gs
  rcases ih _ hb with ⟨q,ts,h1,h2,h3,h4⟩ | ⟨h1,h2⟩
  ·refine .inl ⟨q,ts,ω16 h1,h2,h3,fun q' r h5 h6 h7=>?_⟩
   refine sealG ?_
   intro Gs
   rcases Nat.lt_or_ge _ q' with h | h
   ·exact h4 q' r h h6 h7
   ·have:q' = _:=Nat.le_antisymm h h5
    subst this;rw [hr] at h7;cases h7;exact hd
  ·refine .inr ⟨fun q r h5 h7=>?_,h2⟩
   refine sealG ?_
   intro Gs
   rcases Nat.lt_or_ge _ q with h | h
   ·exact h1 q r h h7
   ·have:q = _:=Nat.le_antisymm h h5
    subst this;rw [hr] at h7;cases h7;exact hd
 | jump hb hn _ ih=>
  intro b' hb';rw [hb] at hb';cases hb'
  refine .inr ⟨fun q r h1 h2=>by have:=(Bc.mp h2).1;exact zw 2 2 0 2 0x11411001056561650 rfl h1 this,_,hn,?_⟩
  have hnl:=hg _ _ hb _ hn
  obtain ⟨bn,hbn⟩:∃ b,bs[_]? = some b:=⟨_,Ci hnl⟩
  refine hL _ _ hnl ⟨bn,hbn,?_⟩
  refine sealG ?_
  intro Gs
  rcases ih bn hbn with ⟨q,ts,h1,h2,h3,h4⟩ | ⟨h1,n,hn,h2⟩
  ·exact .inl ⟨q,ts,by have:=(Bc.mp h2).1;simp [yD] at this;exact ω256 this,h2,h3,fun q' r=>h4 q' r (Bv _)⟩
  ·refine .inr ⟨fun p1=>p1.elim fun r p2=>p2.elim fun hr e=>?_,n,by rw [tD hbn];exact hn,h2⟩
   refine sealG ?_
   intro Gs
   obtain ⟨q,hq⟩:=Dt.mp hr
   exact h1 q r (Bv _) hq e
theorem live_FF {bs:List yF} {L:Nat→Int→Bool} (hL:∀ i c,i < bs.length→FF bs L i c→L i c = true) (hg:∀ (i:Nat) (b:yF),bs[i]? = some b→∀ n∈yN b.e,n < bs.length) {i:Nat} (hi:i < bs.length) {c:Int} (h:yK bs i 0 c):L i c = true:=by
 obtain ⟨b,hb⟩:∃ b,bs[i]? = some b:=⟨_,Ci hi⟩
 refine hL i c hi ⟨b,hb,?_⟩
 refine sealG ?_
 intro Gs
 rcases live_up hL hg h b hb with ⟨q,ts,h1,h2,h3,h4⟩ | ⟨h1,n,hn,h2⟩
 ·exact .inl ⟨q,ts,by have:=(Bc.mp h2).1;simp [yD] at this;exact ω256 this,h2,h3,fun q' r=>h4 q' r (Bv _)⟩
 ·refine .inr ⟨fun p1=>p1.elim fun r p2=>p2.elim fun hr e=>?_,n,by rw [tD hb];exact hn,h2⟩
  refine sealG ?_
  intro Gs
  obtain ⟨q,hq⟩:=Dt.mp hr
  exact h1 q r (Bv _) hq e
noncomputable def cells (n:Nat):List (Nat×Nat):=(List.range n).flatMap fun i=>(List.range 50).map fun c=>(i,c)
theorem mem_cells {n i c:Nat}:(i,c)∈cells n↔i < n∧c < 50:=by
 unfold cells;simp [List.mem_flatMap]
theorem cells_len (n:Nat):(cells n).length = 50 * n:=by
 unfold cells;rw [List.length_flatMap]
 induction n with
 | zero=>rfl
 | succ n ih=>rw [show List.range (n + 1) = List.range n ++ [n] from List.range_succ,Bt,List.sum_append,ih];simp;exact wM 0x13130543225032253225032 rfl
noncomputable def UL (n:Nat) (L:Nat→Int→Bool):Nat:=((cells n).filter fun x=>!L x.1 x.2).length
theorem UL_lt {n:Nat} {L L':Nat→Int→Bool} (h:∀ i c,L i c = true→L' i c = true) {i:Nat} {c:Int} (hi:i < n) (h0:0 ≤ c) (h1:c < 50) (h2:L i c = false) (h3:L' i c = true):UL n L' < UL n L:=by
 obtain ⟨k,rfl⟩:∃ k:Nat,c = k:=⟨c.toNat,zw 0 1 1 2 0x100100810100701100108110007005200105322101040100130102 rfl h0 h1⟩
 refine flt_lt _ _ _ (fun x U hx=>?_) ⟨(i,k),mem_cells.mpr ⟨hi,zy 1 2 0x101532215132215204520013 rfl h0 h1⟩,by simp [h2],by simp [h3]⟩
 simp only [Bool.not_eq_true'] at hx ⊢
 cases e:L x.1 x.2 with
 | false=>rfl
 | true=>rw [h _ _ e] at hx;cases hx
theorem range_set {f:Nat→AV} {n i:Nat} {v:AV}:((List.range n).map f).set (i:Int).toNat v = (List.range n).map fun j=>if j = i then v else f j:=by
 rw [Ce]
 apply List.ext_getElem?
 intro j
 rw [List.getElem?_set,Bg,Bg]
 by_cases h:i = j
 ·subst h
  by_cases h':i < n
  ·simp [h']
  ·simp [h']
 ·simp only [h,Ap]
  by_cases h':j < n
  ·rw [List.getElem?_range h'];simp [show ¬ j = i from fun e=>h e.symm]
  ·rw [List.getElem?_eq_none (by simpa using h')];rfl
theorem nM {xs:List Nat} {f:Nat→AV} {j:Nat} {v:AV} (h:j∈xs):keep (xs.map fun (i:Nat)=>((i:Int),f i)) (j:Int) v = xs.map fun (i:Nat)=>((i:Int),if i = j then v else f i):=by
 unfold keep
 rw [Ab,Bj]
 ·refine Cf fun i U=>?_
  simp only [Function.comp]
  by_cases e:i = j
  ·subst e;simp
  ·simp [e,show ¬ (i:Int) = j by exact zy 2 1 0x10151140620520566526 rfl e]
 ·exact Bp.mpr ⟨((j:Int),f j),Bm.mpr ⟨j,h,rfl⟩,by simp⟩
structure LVM (bs:List yF) (L O:Nat→Int→Bool) (wq:Nat→Bool) (W:List Nat) (t:Nat):Prop where
 snd:∀ i c,i < bs.length→L i c = true→yK bs i 0 c
 grow:∀ i c,i < bs.length→L i c = true→FF bs L i c
 fix:∀ i,i < bs.length→wq i = false→(∀ c,L i c = true↔FF bs L i c)∧∀ c,O i c = true↔∃ n∈gl bs i,L n c = true
 wt:∀ i,i < bs.length→wq i = true→i∈W.drop t
 wl:∀ i∈W,i < bs.length
noncomputable def NOK (bs:List yF) (i:Nat) (v:AV):Prop:=∃ (N:Int→Bool) (n:Nat) (G:Int→Bool) (g:Nat) (b:yF),bs[i]? = some b∧v = .tup [.iset N n,.iset G g]∧(∀ c,N c = true↔tX b (b.rows.length + 1) c)∧n ≤ 50∧(∀ c,G c = true↔∃ r∈b.rows,r.dst = c)
noncomputable def setL (n:Nat) (L:Nat→Int→Bool) (s:Nat→Nat):List AV:=(List.range n).map fun i=>.iset (L i) (s i)
noncomputable def xE {α:Type} (f:Nat→α) (i:Nat) (v:α):Nat→α:=fun j=>if j = i then v else f j
theorem setL_set {n:Nat} {L:Nat→Int→Bool} {s:Nat→Nat} {i:Nat} {S:Int→Bool} {k:Nat}:(setL n L s).set (i:Int).toNat (.iset S k) = setL n (xE L i S) (xE s i k):=by
 unfold setL;rw [range_set]
 exact Cf fun j U=>by unfold xE;by_cases h:j = i <;> simp [h]
theorem wR {n:Nat} {L:Nat→Int→Bool} {s:Nat→Nat}:(setL n L s).length = n:=by simp [setL]
theorem oT {n:Nat} {L:Nat→Int→Bool} {s:Nat→Nat} {i:Nat} (h:i < n):(setL n L s)[(i:Int).toNat]? = some (.iset (L i) (s i)):=vP h
end
section
section
variable {l:Nat} {H H':zA} {Q:AV→zA→Prop} {k:Nat} {bs:List yF} {ps:List Int} {many:Int} {b:yF} {i:Nat}
inductive INY0 (cl:Nat→Addr) (bs:List yF) (ps:List Int) (many:Int) (li lo:Addr) (pr:Nat→List Nat) (fo ne iw:Addr) (m':zN):Prop
 | mk:m' "func" = some (pL cl bs ps many)→m' "live_in" = some (.ref li)→m' "live_out" = some (.ref lo)→m' "before" = some (.lst ((List.range bs.length).map fun i=>.lst (nL (pr i))))→m' "waiting" = some (.ref fo)→m' "needs" = some (.ref ne)→m' "is_waiting" = some (.ref iw)→INY0 cl bs ps many li lo pr fo ne iw m'
inductive INY1 (bs:List yF) (H5:zA) (li lo:Addr) (po:List Nat) (ne iw:Addr) (MF:zN→Prop) (t:Nat) (H':zA) (m':zN):Prop
 | mk:∀ NV:Nat→AV,H' ne = some (.idict ((po.take t).map fun (i:Nat)=>((i:Int),NV i)))→H' iw = some (.idict ((po.take t).map fun (i:Nat)=>((i:Int),AV.bool true)))→(∀ i∈po.take t,NOK bs i (NV i))→H' li = some (.list (setL bs.length (fun U U=>false) (fun U=>0)))→H' lo = some (.list (setL bs.length (fun U U=>false) (fun U=>0)))→Kp H5 H'→MF m'→INY1 bs H5 li lo po ne iw MF t H' m'
inductive INY2 (bs:List yF) (H5:zA) (li lo fo:Addr) (po:List Nat) (ne iw:Addr) (MF:zN→Prop) (NV:Nat→AV) (n:Nat) (H':zA) (m':zN):Prop
 | mk:∀ (L:Nat→Int→Bool) (s:Nat→Nat) (O:Nat→Int→Bool) (s':Nat→Nat) (wq:Nat→Bool) (W:List Nat) (t:Nat),H' li = some (.list (setL bs.length L s))→H' lo = some (.list (setL bs.length O s'))→H' ne = some (.idict (po.map fun (i:Nat)=>((i:Int),NV i)))→H' iw = some (.idict (po.map fun (i:Nat)=>((i:Int),AV.bool (wq i))))→H' fo = some (.list (nL W))→LVM bs L O wq W t→(∀ i,i < bs.length→s i ≤ 50∧s' i ≤ 50)→t ≤ W.length→W.length + 6 * UL bs.length L ≤ 2000→n = 7 * UL bs.length L + (W.length - t)→Kp H5 H'→MF m'→m' "at" = some (.int t)→INY2 bs H5 li lo fo po ne iw MF NV n H' m'
inductive INY3 (bs:List yF) (MF:zN→Prop) (L:Nat→Int→Bool) (t i:Nat) (bh:Addr) (H9:zA) (u:Nat) (H':zA) (m':zN):Prop
 | mk:∀ (S:Int→Bool) (n:Nat),H' bh = some (.iset S n)→(∀ a,a ≠ bh→H' a = H9 a)→(∀ c,S c = true↔∃ g∈(gl bs i).take u,L g c = true)→n ≤ 50→MF m'→m' "at" = some (.int (t + 1:Nat))→m' "number" = some (.int i)→m' "behind" = some (.ref bh)→INY3 bs MF L t i bh H9 u H' m'
inductive INY4 (bs:List yF) (pr:Nat→List Nat) (fo:Addr) (po:List Nat) (iw:Addr) (MF:zN→Prop) (wq:Nat→Bool) (W:List Nat) (t i:Nat) (H12:zA) (u:Nat) (H':zA) (m':zN):Prop
 | mk:∀ (wq2:Nat→Bool) (W2:List Nat),H' iw = some (.idict (po.map fun (j:Nat)=>((j:Int),AV.bool (wq2 j))))→H' fo = some (.list (nL W2))→(∀ a,a ≠ iw→a ≠ fo→H' a = H12 a)→(∀ j,j < bs.length→wq2 j = true→j∈W2.drop (t + 1))→(∀ j∈(pr i).take u,wq2 j = true)→(∀ j,wq2 j = false→xE wq i false j = false)→W.length ≤ W2.length→W2.length ≤ W.length + u→(∀ j∈W2,j < bs.length)→MF m'→m' "at" = some (.int (t + 1:Nat))→INY4 bs pr fo po iw MF wq W t i H12 u H' m'
theorem live_ok (X:xC K ρ.base fa cl mt) (hl:l ≤ 24) {nx:Nat} (B:BOK bs nx)
  (q:∀ H' (L O:Nat→Int→Bool) (s s':Nat→Nat),(∀ i c,i < bs.length→(L i c = true↔yK bs i 0 c))→(∀ i c,i < bs.length→(O i c = true↔∃ n∈gl bs i,yK bs n 0 c))→(∀ i,i < bs.length→s i ≤ 50∧s' i ≤ 50)→Kp H H'→Q (.tup [.lst (setL bs.length L s),.lst (setL bs.length O s')]) H') :
  zE ρ l (.ref (fa 10)) [pL cl bs ps many] H Q:=by
 have X1:=X.toProg2.toProg
 have hlen:=B.len
 have hnx:=B.nxb
 refine zE.fn X.S (ω216 hl) (X.fn 10 (by decide)).2 rfl (by decide) (fun L qual code hc=>?_) (by intro x hx;left;revert x hx;decide)
 refine ST.c ?_
 intro Qc
 refine tF X.S (cl:=[]) [] (.of (by rfl) (by rfl) (by rfl) (by rfl)) (.inl (by rfl)) (zQ ?_)
 lk
 refine tR X ⟨_,yM.lst,fun s ys H' m'=>H' = H∧ys = setL s (fun U U=>false) (fun U=>0),⟨rfl,rfl⟩,?_,?_⟩
 ·rintro L2 s x ys H5 m5 hx ⟨rfl,rfl⟩
  have hs:=(Bc.mp hx).1
  rw [wJ] at hs
  refine AS.name ?_
  refine yW X1 (Prog.set X1) ?_
  refine yO.nil (tI (.inl ⟨by rw [wR,Cu];exact ω316 hlen hs,rfl,?_⟩))
  unfold setL;rw [List.range_succ,Bt];rfl
 rintro ys H5 m5 ⟨rfl,rfl⟩
 rw [wJ]
 refine .inr fun li hli=>?_
 refine ST.c0 ?_
 intro Qs Qc
 refine tF X.S (cl:=[]) [] (.of (by rfl) (by rfl) (by rfl) (by rfl)) (.inl (by rfl)) (zQ ?_)
 lk
 refine tR X ⟨_,yM.lst,fun s ys H' m'=>H' = upd H5 li (.list (setL bs.length (fun U U=>false) (fun U=>0)))∧ys = setL s (fun U U=>false) (fun U=>0),⟨rfl,rfl⟩,?_,?_⟩
 ·rintro L2 s x ys H6 m6 hx ⟨rfl,rfl⟩
  have hs:=(Bc.mp hx).1
  rw [wJ] at hs
  refine AS.name ?_
  refine yW X1 (Prog.set X1) ?_
  refine yO.nil (tI (.inl ⟨by rw [wR,Cu];exact ω316 hlen hs,rfl,?_⟩))
  unfold setL;rw [List.range_succ,Bt];rfl
 rintro ys H6 m6 ⟨rfl,rfl⟩
 rw [wJ]
 refine .inr fun lo hlo=>?_
 have nlo:lo ≠ li:=fun e=>by rw [e,zC] at hlo;cases hlo
 have hlo0:H5 lo = none:=by rw [zB nlo] at hlo;exact hlo
 have k0:Kp H5 (upd (upd H5 li (.list (setL bs.length (fun U U=>false) (fun U=>0)))) lo (.list (setL bs.length (fun U U=>false) (fun U=>0)))):=(Kp.new hli).upd hlo0
 have a1:upd (upd H5 li (.list (setL bs.length (fun U U=>false) (fun U=>0)))) lo (.list (setL bs.length (fun U U=>false) (fun U=>0))) li = some (.list (setL bs.length (fun U U=>false) (fun U=>0))):=by rw [zB (Ne.symm nlo),zC]
 have a2:upd (upd H5 li (.list (setL bs.length (fun U U=>false) (fun U=>0)))) lo (.list (setL bs.length (fun U U=>false) (fun U=>0))) lo = some (.list (setL bs.length (fun U U=>false) (fun U=>0))):=zC
 generalize upd (upd H5 li (.list (setL bs.length (fun U U=>false) (fun U=>0)))) lo (.list (setL bs.length (fun U U=>false) (fun U=>0))) = H1 at k0 a1 a2 ⊢
 refine sN ?_
 intro Qc
 refine zO X1 6 ?_
 lk
 refine preds_ok X (ω265 hl) B fun H2 pr hpr k2=>?_
 refine sN ?_
 intro Qc
 refine zO X1 7 ?_
 lk
 refine qI X (ω265 hl) B fun H3 fo po hfo hfo0 hpn hpm k3=>?_
 have hpl:=wQ B po hpn fun i hi=>(hpm i).mp hi
 have b1:=k3.at (k2.at a1)
 have b2:=k3.at (k2.at a2)
 have kk:=(k0.trans k2).trans k3
 have hfo5:H5 fo = none:=Ae fun q=>q (by rw [← (k0.trans k2) fo q];exact hfo0)
 have nf1:fo ≠ li:=fun e=>by rw [e,k2.at a1] at hfo0;cases hfo0
 have nf2:fo ≠ lo:=fun e=>by rw [e,k2.at a2] at hfo0;cases hfo0
 refine ST.c ?_
 intro Qc
 refine S1.name (xR X.S (.inr fun ne hne=>?_))
 refine ST.c0 ?_
 intro Qs Qc
 refine S1.name (xR X.S (.inr fun iw hiw=>?_))
 have ne1:ne ≠ li:=fun e=>by rw [e,b1] at hne;cases hne
 have ne2:ne ≠ lo:=fun e=>by rw [e,b2] at hne;cases hne
 have ne3:ne ≠ fo:=fun e=>by rw [e,hfo] at hne;cases hne
 have ne0:H5 ne = none:=Ae fun q=>q (by rw [← kk ne q];exact hne)
 have iw4:iw ≠ ne:=fun e=>by rw [e,zC] at hiw;cases hiw
 rw [zB iw4] at hiw
 have iw1:iw ≠ li:=fun e=>by rw [e,b1] at hiw;cases hiw
 have iw2:iw ≠ lo:=fun e=>by rw [e,b2] at hiw;cases hiw
 have iw3:iw ≠ fo:=fun e=>by rw [e,hfo] at hiw;cases hiw
 have iw0:H5 iw = none:=Ae fun q=>q (by rw [← kk iw q];exact hiw)
 have fo4:upd (upd H3 ne (.idict [])) iw (.idict []) fo = some (.list (nL po)):=by rw [zB (Ne.symm iw3),zB (Ne.symm ne3)];exact hfo
 let MF:zN→Prop:=INY0 cl bs ps many li lo pr fo ne iw
 refine ST.c ?_
 intro Qc
 refine S1.forL (INY1 bs H5 li lo po ne iw MF) ?_
 refine yG ?_
 refine ⟨fo,_,_,rfl,fo4,by simp,by simp,sQ.list,⟨fun U=>.none,by rw [zR ne3,zB (Ne.symm iw4),zC];rfl,by rw [zR iw3,zC];rfl,by simp,by rw [zR (Ne.symm nf1),zB (Ne.symm iw1),zB (Ne.symm ne1)];exact b1,by rw [zR (Ne.symm nf2),zB (Ne.symm iw2),zB (Ne.symm ne2)];exact b2,((kk.upd ne0).upd iw0).del hfo5,rfl,rfl,rfl,rfl,rfl,rfl,rfl⟩,?_,?_⟩
 ·rintro t x H7 m7 hx ⟨NV,c1,c2,c3,c4,c5,c6,u1,u2,u3,u4,u5,u6,u7⟩
  refine sealG ?_
  intro Gs
  obtain ⟨i,hi,rfl⟩:=nL_at hx
  have hip:=Dr hi
  have hil:=(hpm i).mp hip
  obtain ⟨b,hb⟩:∃ b,bs[i]? = some b:=⟨_,Ci hil⟩
  have htk:po.take (t + 1) = po.take t ++ [i]:=by rw [Cj,hi];rfl
  have hin:i ∉ po.take t:=fun h=>by
   have hn:=hpn
   have ht:=(Bc.mp hi).1
   rw [← Dp t po,Di] at hn
   refine hn.2.2 i h i ?_ rfl
   rw [Ds ht,(Bc.mp hi).2];exact Db
  have htl:(po.take t).length ≤ 6:=by rw [Cs];exact zw 2 0 1 1 0x11001711011706117061150561 rfl hpl
  have hneq:∀ j∈po.take t,j ≠ i:=fun j hj e=>hin (e ▸ hj)
  refine AS.name ?_
  refine ST.c0 ?_
  intro Qs Qc
  refine S1.sub ?_
  refine zO X1 9 ?_
  refine yO.cons (EX.sub (zQ ?_) (by rfl))
  lk
  refine tR X ?_
  lk
  refine zY.list (show yJ _ (.lst _) _ from rfl) xO (by rw [wJ,Cu];exact wB hlen) (by rw [Ce];exact pO hb) ?_
  lk
  refine needs_ok X (ω222 hl) B (Dr hb) fun H8 N n G g hN hn hG k8=>?_
  lk
  refine wT.idict (k8.at c1) (by rw [Cp,Cu];exact wB htl) ?_
  rw [qL (by rw [rE _ _ hin];rfl)]
  refine ST.c ?_
  intro Qc
  refine S1.sub ?_
  lk
  refine wT.idict (show upd H8 ne _ iw = _ by rw [zB iw4];exact k8.at c2) (by rw [Cp,Cu];exact wB htl) ?_
  rw [qL (by rw [rE _ (fun U=>AV.bool true) hin];rfl)]
  refine ST.nil ⟨xE NV i (.tup [.iset N n,.iset G g]),?_,?_,fun j hj=>?_,by rw [zB (Ne.symm iw1),zB (Ne.symm ne1)];exact k8.at c4,by rw [zB (Ne.symm iw2),zB (Ne.symm ne2)];exact k8.at c5,((c6.trans k8).upd ne0).upd iw0,u1,u2,u3,u4,u5,u6,u7⟩
  ·rw [zB (Ne.symm iw4),zC,htk,Bt]
   congr 3
   ·exact Cf fun j hj=>by unfold xE;rw [Aa (hneq j hj)]
   ·simp [xE]
  ·rw [zC,htk,Bt];rfl
  ·rw [htk] at hj
   unfold xE
   rcases Cx.mp hj with h | h
   ·rw [Aa (hneq j h)];exact c3 j h
   ·rw [Ab (Bf.mp h),Bf.mp h];exact ⟨N,n,G,g,b,hb,rfl,hN,hn,hG⟩
 rintro H7 m7 ⟨NV,c1,c2,c3,c4,c5,c6,u1,u2,u3,u4,u5,u6,u7⟩
 rw [xY,Dq] at c1 c2 c3
 refine sN ?_
 intro Qc
 lk
 have hpm':∀ {i},i < bs.length→i∈po:=fun h=>(hpm _).mpr h
 have hUL:UL bs.length (fun U U=>false) ≤ 300:=Ah (List.length_filter_le _ _) (by rw [cells_len];exact zy 1 1 0x1322f412c31532250061150 rfl hlen)
 have hrange:∀ {i p c},yK bs i p c→0 ≤ c∧c < nx:=fun h=>by
  refine sealG ?_
  intro Gs
  obtain ⟨b,hb,ts,hts,hc⟩:=pD h;exact xF B hb hts hc
 have few:∀ {S:Int→Bool} {n},Few S n→(∀ c,S c = true→0 ≤ c∧c < nx)→n ≤ 50:=fun f h=>by have:=f nx fun c hc=>⟨by have:=(h c hc).1;exact zw 0 1 0 1 0x114010111403010013 rfl this,(h c hc).2⟩;exact zy 2 2 0x111532216054602b2150 rfl hnx this
 have hglt:∀ {i g},i < bs.length→g∈gl bs i→g < bs.length:=fun {i g} hi hg=>by
  obtain ⟨b,hb⟩:∃ b,bs[i]? = some b:=⟨_,Ci hi⟩
  exact B.tgt i b hb g (by rw [← tD hb];exact hg)
 refine ST.c ?_
 intro Qc
 refine uE (INY2 bs H5 li lo fo po ne iw MF NV) _
  ⟨fun U U=>false,fun U=>0,fun U U=>false,fun U=>0,fun U=>true,po,0,by rw [zB (Ne.symm nf1)];exact c4,by rw [zB (Ne.symm nf2)];exact c5,by rw [zB ne3];exact c1,by rw [zB iw3];exact c2,zC,⟨fun i c U h=>(by cases h),fun i c U h=>(by cases h),fun i U h=>(by cases h),fun i hi U=>hpm' hi,fun i hi=>(hpm i).mp hi⟩,fun i U=>⟨Bv _,Bv _⟩,zy 1 1 17888555962704 rfl hpl,zy 2 2 0x11657d0316615052012c316061150 rfl hpl hUL,rfl,c6.upd hfo5,⟨u1,u2,u3,u4,u5,u6,u7⟩,rfl⟩ ?_
 clear c1 c2 c4 c5 c6 u1 u2 u3 u4 u5 u6 u7
 rintro n H8 m8 ⟨L,s,O,s',wq,W,t,c1,c2,c4,c5,c6,V,sz,ht,hW,rfl,kp,⟨u1,u2,u3,u4,u5,u6,u7⟩,u8⟩
 refine zH ?_
 lk
 refine xU X1 (Prog.len X1) ?_
 lk
 refine zE.len (show yJ _ (.ref fo) _ from c6) (by rw [xY,Cu];exact ω333 hW) (yI.lt ?_)
 rw [xY]
 by_cases htW:t < W.length
 ·rw [Dc (ω334 htW)]
  obtain ⟨i,hi⟩:∃ i,W[t]? = some i:=⟨_,Ci htW⟩
  have hil:=V.wl i (Dr hi)
  have hip:=hpm' hil
  obtain ⟨b,hb⟩:∃ b,bs[i]? = some b:=⟨_,Ci hil⟩
  have hdrop:W.drop t = i :: W.drop (t + 1):=by rw [Ds htW,(Bc.mp hi).2]
  refine sN0 ?_
  intro Qs Qc
  lk
  refine zY.list (show yJ _ (.ref fo) _ from c6) xO (by rw [xY,Cu];exact ω333 hW) (x:=.int i) (by rw [Ce];simp [nL,iL,hi]) ?_
  refine ST.c0 ?_
  intro Qs Qc
  refine S1.aug (show wA m8 "number" _ "at" = _ from u8) (by rfl) ?_
  lk
  refine INP.add ?_
  refine ST.c0 ?_
  intro Qs Qc
  refine S1.sub ?_
  lk
  refine wT.idict c5 (by rw [Cp,Cu];exact wB hpl) ?_
  rw [nM hip,show (po.map fun (j:Nat)=>((j:Int),if j = i then AV.bool false else .bool (wq j))) = po.map fun (j:Nat)=>((j:Int),AV.bool (xE wq i false j)) from Cf fun j U=>by unfold xE;split <;> rfl]
  refine sN0 ?_
  intro Qs Qc
  refine yW X1 (Prog.set X1) ?_
  refine yO.nil (tI (.inr fun bh hbh=>?_))
  have nb1:bh ≠ iw:=fun e=>by rw [e,zC] at hbh;cases hbh
  rw [zB nb1] at hbh
  have nb2:bh ≠ li:=fun e=>by rw [e,c1] at hbh;cases hbh
  have nb3:bh ≠ lo:=fun e=>by rw [e,c2] at hbh;cases hbh
  have nb4:bh ≠ ne:=fun e=>by rw [e,c4] at hbh;cases hbh
  have nb5:bh ≠ fo:=fun e=>by rw [e,c6] at hbh;cases hbh
  have nb0:H5 bh = none:=Ae fun q=>q (by rw [← kp bh q];exact hbh)
  have d1:upd H8 iw (.idict (po.map fun (j:Nat)=>((j:Int),AV.bool (xE wq i false j)))) li = some (.list (setL bs.length L s)):=by rw [zB (Ne.symm iw1)];exact c1
  have d2:upd H8 iw (.idict (po.map fun (j:Nat)=>((j:Int),AV.bool (xE wq i false j)))) lo = some (.list (setL bs.length O s')):=by rw [zB (Ne.symm iw2)];exact c2
  have d3:upd H8 iw (.idict (po.map fun (j:Nat)=>((j:Int),AV.bool (xE wq i false j)))) ne = some (.idict (po.map fun (i:Nat)=>((i:Int),NV i))):=by rw [zB (Ne.symm iw4)];exact c4
  have d4:upd H8 iw (.idict (po.map fun (j:Nat)=>((j:Int),AV.bool (xE wq i false j)))) iw = some (.idict (po.map fun (j:Nat)=>((j:Int),AV.bool (xE wq i false j)))):=zC
  have d5:upd H8 iw (.idict (po.map fun (j:Nat)=>((j:Int),AV.bool (xE wq i false j)))) fo = some (.list (nL W)):=by rw [zB (Ne.symm iw3)];exact c6
  have d6:Kp H5 (upd H8 iw (.idict (po.map fun (j:Nat)=>((j:Int),AV.bool (xE wq i false j))))):=kp.upd iw0
  generalize upd H8 iw (.idict (po.map fun (j:Nat)=>((j:Int),AV.bool (xE wq i false j)))) = H9 at d1 d2 d3 d4 d5 d6 ⊢
  have hgls:=tD hb
  refine ST.c0 ?_
  intro Qs Qc
  refine yB (INY3 bs MF L t i bh H9) ?_
  refine zO X1 4 ?_
  refine yO.cons (EX.sub (zQ ?_) (by rfl))
  lk
  refine tR X ?_
  lk
  refine zY.list (show yJ _ (.lst _) _ from rfl) xO (by rw [wJ,Cu];exact wB hlen) (by rw [Ce];exact pO hb) ?_
  lk
  refine vZ X (ω222 hl) ⟨_,yM.lst,⟨_,0,zC,fun a ha=>zB ha,fun c=>by simp,by decide,⟨u1,u2,u3,u4,u5,u6,u7⟩,rfl,rfl,rfl⟩,?_,?_⟩
  ·rintro u x H10 m10 hx ⟨S,n,e1,e2,e3,e4,⟨u1,u2,u3,u4,u5,u6,u7⟩,u8,u9,u10⟩
   refine sealG ?_
   intro Gs
   obtain ⟨g,hg,rfl⟩:=nL_at hx
   have hgm:g∈gl bs i:=by rw [hgls];exact Dr hg
   have hgl':=hglt hil hgm
   have htk:(gl bs i).take (u + 1) = (gl bs i).take u ++ [g]:=by rw [hgls,Cj,hg];rfl
   refine AS.name ?_
   refine ST.c ?_
   intro Qc
   refine S1.aug (show wA m10 "follower" _ "behind" = _ from u10) (by rfl) ?_
   lk
   refine zY.list (show yJ _ (.ref li) _ from by show H10 li = _;rw [e2 _ (Ne.symm nb2)];exact d1) xO (by rw [wR,Cu];exact wB hlen) (oT hgl') ?_
   refine INP.orS e1 rfl (ω335 e4) (by have:=(sz g hgl').1;exact ω335 this) fun n' hf=>ST.nil ⟨_,n',zC,fun a ha=>by rw [zB ha];exact e2 a ha,fun c=>?_,few hf fun c hc=>?_,⟨u1,u2,u3,u4,u5,u6,u7⟩,u8,u9,rfl⟩
   ·rw [Df,e3 c,htk]
    constructor
    ·rintro (⟨g',h,h'⟩ | h)
     ·exact ⟨g',Cy _ h,h'⟩
     ·exact ⟨g,by simp,h⟩
    ·rintro ⟨g',h,h'⟩
     refine sealG ?_
     intro Gs
     rcases Cx.mp h with h | h
     ·exact .inl ⟨g',h,h'⟩
     ·rw [Bf.mp h] at h';exact .inr h'
   ·rw [Df,e3 c] at hc
    refine sealG ?_
    intro Gs
    rcases hc with ⟨g',h,h'⟩ | h
    ·exact hrange (V.snd g' c (hglt hil (Do h)) h')
    ·exact hrange (V.snd g c hgl' h)
  rintro H10 m10 ⟨S,n,e1,e2,e3,e4,⟨u1,u2,u3,u4,u5,u6,u7⟩,u8,u9,u10⟩
  rw [xY,← hgls,Dq] at e3
  refine ST.take (x:="behind") u10 (wH.iset e1) ?_
  have f1:∀ a,a ≠ bh→del H10 bh a = H9 a:=fun a ha=>by rw [zR ha];exact e2 a ha
  have fk:Kp H5 (del H10 bh):=fun a ha=>by
   have:a ≠ bh:=fun e=>ha (by rw [e];exact nb0)
   rw [f1 a this];exact d6 a ha
  refine ST.c0 ?_
  intro Qs Qc
  refine S1.sub ?_
  lk
  refine wT.list (show del H10 bh lo = _ by rw [f1 _ (Ne.symm nb3)];exact d2) (by rw [wR,Cu];exact wB hlen) xO (by rw [wR];exact ω334 hil) ?_
  rw [setL_set]
  have g1:upd (del H10 bh) lo (.list (setL bs.length (xE O i S) (xE s' i n))) li = some (.list (setL bs.length L s)):=by rw [zB (Ne.symm nlo),f1 _ (Ne.symm nb2)];exact d1
  have g2:upd (del H10 bh) lo (.list (setL bs.length (xE O i S) (xE s' i n))) lo = some (.list (setL bs.length (xE O i S) (xE s' i n))):=zC
  have g3:upd (del H10 bh) lo (.list (setL bs.length (xE O i S) (xE s' i n))) ne = some (.idict (po.map fun (i:Nat)=>((i:Int),NV i))):=by rw [zB ne2,f1 _ (Ne.symm nb4)];exact d3
  have g4:upd (del H10 bh) lo (.list (setL bs.length (xE O i S) (xE s' i n))) iw = some (.idict (po.map fun (j:Nat)=>((j:Int),AV.bool (xE wq i false j)))):=by rw [zB iw2,f1 _ (Ne.symm nb1)];exact d4
  have g5:upd (del H10 bh) lo (.list (setL bs.length (xE O i S) (xE s' i n))) fo = some (.list (nL W)):=by rw [zB nf2,f1 _ (Ne.symm nb5)];exact d5
  have g6:Kp H5 (upd (del H10 bh) lo (.list (setL bs.length (xE O i S) (xE s' i n)))):=fk.upd hlo0
  generalize upd (del H10 bh) lo (.list (setL bs.length (xE O i S) (xE s' i n))) = H11 at g1 g2 g3 g4 g5 g6 ⊢
  refine sealG ?_
  intro Gs
  obtain ⟨N,nN,G,nG,b',hb',hNV,hN,hn50,hG⟩:=c3 i hip
  rw [hb] at hb';cases hb'
  refine ST.c0 ?_
  intro Qs Qc
  refine S1.tup ?_
  lk
  refine zY.idict (show uZ _ (.ref ne) _ from g3) (xJ po _ hip) ?_
  rw [hNV]
  refine AS.tup (xN.cons (AS.name (xN.cons (AS.name (xN.nil ?_)))))
  have hA:∀ c,(N c || (S c && !G c)) = true↔FF bs L i c:=fun c=>by
   rw [Df,Av,hN,e3]
   constructor
   ·rintro (h | ⟨h,h'⟩)
    ·exact ⟨b,hb,.inl h⟩
    ·refine ⟨b,hb,.inr ⟨fun h2=>?_,h⟩⟩
     rw [(hG c).mpr h2] at h';cases h'
   ·rintro ⟨b',hb',h⟩
    rw [hb] at hb';cases hb'
    refine h.imp_right fun p1=>p1.rec fun h1 h2=>⟨h2,?_⟩
    cases hh:G c with
    | false=>rfl
    | true=>exact absurd ((hG c).mp hh) h1
  have hAl:∀ c,FF bs L i c→yK bs i 0 c:=fun c h=>h.live fun g hg hL=>V.snd g c (hglt hil hg) hL
  have hSr:∀ c,S c = true→0 ≤ c∧c < nx:=fun c h=>by
   refine sealG ?_
   intro Gs
   obtain ⟨g,hg,hL⟩:=(e3 c).mp h
   exact hrange (V.snd g c (hglt hil hg) hL)
  refine sN ?_
  intro Qc
  lk
  refine xW.subS ⟨rfl,rfl⟩ ⟨rfl,rfl⟩ (ω335 e4) fun n1 hf1=>.inl ?_
  refine xW.orS ⟨rfl,rfl⟩ ⟨rfl,rfl⟩ (ω335 hn50) (by have:=few hf1 fun c hc=>hSr c (Ac.mp hc).1;exact ω335 this) fun n2 hf2=>.inl ?_
  have hn2:n2 ≤ 50:=few hf2 fun c hc=>hrange (hAl c ((hA c).mp hc))
  generalize hAA:(fun c=>N c || (S c && !G c)) = A at hf2 ⊢
  have hA':∀ c,A c = true↔FF bs L i c:=fun c=>by rw [← hAA];exact hA c
  refine ST.c ?_
  intro Qc
  refine zK (zH ?_)
  lk
  refine zY.list (show yJ _ (.ref li) _ from g1) xO (by rw [wR,Cu];exact wB hlen) (oT hil) ?_
  refine yI.neS ⟨rfl,rfl⟩ ⟨rfl,rfl⟩ (zy 1 1 0x1143221540182150 rfl hl) fun r hr=>?_
  have hwt':∀ j,j < bs.length→xE wq i false j = true→j∈W.drop (t + 1):=fun j hj h=>by
   unfold xE at h
   by_cases e:j = i
   ·rw [Ab e] at h;cases h
   ·rw [Aa e] at h
    have:=V.wt j hj h
    rw [hdrop] at this
    exact (Be.mp this).resolve_left e
  cases r with
  | false=>
   have hEq:=hr.mp rfl
   refine ST.nil (ST.nil ⟨_,?_,L,s,_,_,_,W,t + 1,g1,g2,g3,g4,g5,⟨V.snd,V.grow,fun j hj hw=>?_,hwt',V.wl⟩,fun j hj=>?_,ω24 htW,hW,rfl,g6,⟨u1,u2,u3,u4,u5,u6,u7⟩,u8⟩)
   ·exact zw 3 0 2 1 0x1141100011901141100108009771502877150216515605460 rfl htW
   ·by_cases e:j = i
    ·subst e
     refine ⟨fun c=>by rw [← hEq c];exact hA' c,fun c=>?_⟩
     unfold xE;rw [Ab rfl];exact e3 c
    ·unfold xE at hw ⊢
     rw [Aa e] at hw
     rw [Aa e];exact V.fix j hj hw
   ·unfold xE;by_cases e:j = i
    ·rw [Ab e];exact ⟨(sz j hj).1,e4⟩
    ·rw [Aa e];exact sz j hj
  | true=>
   have hne':∃ c,A c = true∧L i c = false:=Ae fun hno=>by
    have:(true = false):=hr.mpr fun c=>by
     cases h1:A c with
     | true=>
      cases h2:L i c with
      | true=>rfl
      | false=>exact absurd ⟨c,h1,h2⟩ hno
     | false=>
      cases h2:L i c with
      | false=>rfl
      | true=>have:=(hA' c).mpr (V.grow i c hil h2);rw [h1] at this;cases this
    cases this
   refine sealG ?_
   intro Gs
   obtain ⟨c0,hc1,hc2⟩:=hne'
   have hLL:∀ j c,L j c = true→xE L i A j c = true:=fun j c h=>by
    unfold xE;by_cases e:j = i
    ·rw [Ab e];subst e;exact (hA' c).mpr (V.grow j c hil h)
    ·rw [Aa e];exact h
   have hUlt:UL bs.length (xE L i A) < UL bs.length L:=UL_lt hLL hil (hrange (hAl c0 ((hA' c0).mp hc1))).1 (by have:=(hrange (hAl c0 ((hA' c0).mp hc1))).2;exact zw 1 1 0 2 0x11153221010452001042b2150 rfl hnx this) hc2 (by unfold xE;rw [Ab rfl];exact hc1)
   refine ST.c ?_
   intro Qc
   refine S1.sub ?_
   lk
   refine wT.list g1 (by rw [wR,Cu];exact wB hlen) xO (by rw [wR];exact ω334 hil) ?_
   rw [setL_set]
   have k2:upd H11 li (.list (setL bs.length (xE L i A) (xE s i n2))) lo = some (.list (setL bs.length (xE O i S) (xE s' i n))):=by rw [zB nlo];exact g2
   have k3:upd H11 li (.list (setL bs.length (xE L i A) (xE s i n2))) ne = some (.idict (po.map fun (i:Nat)=>((i:Int),NV i))):=by rw [zB ne1];exact g3
   have k4:upd H11 li (.list (setL bs.length (xE L i A) (xE s i n2))) iw = some (.idict (po.map fun (j:Nat)=>((j:Int),AV.bool (xE wq i false j)))):=by rw [zB iw1];exact g4
   have k5:upd H11 li (.list (setL bs.length (xE L i A) (xE s i n2))) fo = some (.list (nL W)):=by rw [zB nf1];exact g5
   have k1:upd H11 li (.list (setL bs.length (xE L i A) (xE s i n2))) li = some (.list (setL bs.length (xE L i A) (xE s i n2))):=zC
   have k6:Kp H5 (upd H11 li (.list (setL bs.length (xE L i A) (xE s i n2)))):=g6.upd hli
   generalize upd H11 li (.list (setL bs.length (xE L i A) (xE s i n2))) = H12 at k1 k2 k3 k4 k5 k6 ⊢
   refine ST.c ?_
   intro Qc
   refine yB (INY4 bs pr fo po iw MF wq W t i H12) ?_
   lk
   refine zY.list (show yJ _ (.lst _) _ from rfl) xO (by rw [Cp,Bh,Cu];exact wB hlen) (vP hil) ?_
   have hpri:=hpr i hil
   have hprl:=wQ B _ hpri.1 fun j hj=>by obtain ⟨b,hb,U⟩:=(hpri.2 j).mp hj;exact (Bc.mp hb).1
   refine ⟨_,yM.lst,⟨_,W,k4,k5,fun U U U=>rfl,hwt',by simp,fun U h=>h,Ag _,(wM 19944272 rfl),V.wl,⟨u1,u2,u3,u4,u5,u6,u7⟩,u8⟩,?_,?_⟩
   ·rintro u x H13 m13 hx ⟨wq2,W2,j1,j2,j3,j4,j5,j6,j7,j8,j9,⟨u1,u2,u3,u4,u5,u6,u7⟩,u8⟩
    refine sealG ?_
    intro Gs
    obtain ⟨o,ho,rfl⟩:=nL_at hx
    have hu:=(Bc.mp ho).1
    obtain ⟨bo,hbo,U⟩:=(hpri.2 o).mp (Dr ho)
    have hol:=(Bc.mp hbo).1
    have hop:=hpm' hol
    have htk:(pr i).take (u + 1) = (pr i).take u ++ [o]:=by rw [Cj,ho];rfl
    refine AS.name ?_
    refine ST.c0 ?_
    intro Qs Qc
    refine zK (TR.bool (sC.cons (zH ?_)))
    lk
    refine wK (show uZ _ (.ref ne) _ from by show H13 ne = _;rw [j3 _ (Ne.symm iw4) ne3];exact k3) ?_
    rw [xJ po _ hop]
    refine sC.cons (TR.not (TR.val ?_))
    lk
    refine zY.idict (show uZ _ (.ref iw) _ from j1) (xJ po _ hop) (TRU.bool ?_)
    cases hwo:wq2 o with
    | true=>
     refine ST.nil (ST.nil ⟨wq2,W2,j1,j2,j3,j4,fun j hj=>?_,j6,j7,zy 3 1 4863441198604880 rfl j8,j9,⟨u1,u2,u3,u4,u5,u6,u7⟩,u8⟩)
     rw [htk] at hj
     rcases Cx.mp hj with h | h
     ·exact j5 j h
     ·rw [Bf.mp h];exact hwo
    | false=>
     refine sC.nil ?_
     refine ST.c0 ?_
     intro Qs Qc
     refine S1.sub ?_
     lk
     refine wT.idict j1 (by rw [Cp,Cu];exact wB hpl) ?_
     rw [nM hop,show (po.map fun (j:Nat)=>((j:Int),if j = o then AV.bool true else .bool (wq2 j))) = po.map fun (j:Nat)=>((j:Int),AV.bool (xE wq2 o true j)) from Cf fun j U=>by unfold xE;split <;> rfl]
     have hfo2:upd H13 iw (.idict (po.map fun (j:Nat)=>((j:Int),AV.bool (xE wq2 o true j)))) fo = some (.list (nL W2)):=by rw [zB (Ne.symm iw3)];exact j2
     refine ST.c0 ?_
     intro Qs Qc
     refine zV (EX.append ?_)
     refine xH ?_
     refine ⟨⟨_,hfo2⟩,?_⟩
     lk
     refine zE.append hfo2 (by rw [xY,Cu];exact zy 6 5 0x1101118100000071908a1a5290611806717d03166150520 rfl hW hUlt hprl j8 hu) (ST.nil (ST.nil ⟨xE wq2 o true,W2 ++ [o],by rw [zB iw3,zC],by rw [zC,qK],fun a ha hb=>by rw [zB hb,zB ha];exact j3 a ha hb,fun j hj h=>?_,fun j hj=>?_,fun j h=>?_,by rw [Ct];exact zy 3 1 1187393111632 rfl j7,by rw [Ct,Da];exact ω300 j8,fun j hj=>?_,⟨u1,u2,u3,u4,u5,u6,u7⟩,u8⟩))
     ·rw [List.drop_append_of_le_length (by exact zy 3 2 4808667940914769 rfl htW j7)]
      unfold xE at h
      by_cases e:j = o
      ·exact Cz _ (by simp [e])
      ·rw [Aa e] at h;exact Cy _ (j4 j hj h)
     ·unfold xE
      by_cases e:j = o
      ·rw [Ab e]
      ·rw [Aa e]
       rw [htk] at hj
       exact j5 j ((Cx.mp hj).resolve_right fun h=>e (Bf.mp h))
     ·unfold xE at h
      by_cases e:j = o
      ·rw [Ab e] at h;cases h
      ·rw [Aa e] at h;exact j6 j h
     ·rcases Cx.mp hj with h | h
      ·exact j9 j h
      ·rw [Bf.mp h];exact hol
   ·rintro H13 m13 ⟨wq2,W2,j1,j2,j3,j4,j5,j6,j7,j8,j9,⟨u1,u2,u3,u4,u5,u6,u7⟩,u8⟩
    rw [xY] at j5 j8
    rw [Dq] at j5
    have hFF:∀ j c,j < bs.length→i ∉ gl bs j→(FF bs (xE L i A) j c↔FF bs L j c):=fun j c hj hno=>by
     have hsame:∀ g∈gl bs j,xE L i A g c = L g c:=fun g hg=>by unfold xE;rw [Aa fun (e:g = i)=>hno (by rw [← e];exact hg)]
     constructor
     ·rintro ⟨b,hb,h⟩;exact ⟨b,hb,h.imp_right fun p1=>p1.elim fun h1 p2=>p2.elim fun g p3=>p3.elim fun hg h2=>⟨h1,g,hg,by rw [← hsame g hg];exact h2⟩⟩
     ·rintro ⟨b,hb,h⟩;exact ⟨b,hb,h.imp_right fun ⟨h1,g,hg,h2⟩=>⟨h1,g,hg,by rw [hsame g hg];exact h2⟩⟩
    refine ST.nil (ST.nil ⟨_,?_,xE L i A,xE s i n2,xE O i S,xE s' i n,wq2,W2,t + 1,by rw [j3 _ (Ne.symm iw1) (Ne.symm nf1)];exact k1,by rw [j3 _ (Ne.symm iw2) (Ne.symm nf2)];exact k2,by rw [j3 _ (Ne.symm iw4) ne3];exact k3,j1,j2,⟨fun j c hj h=>?_,fun j c hj h=>?_,fun j hj hw=>?_,j4,j9⟩,fun j hj=>?_,zy 3 2 4808667940914769 rfl htW j7,zy 5 5 0x11610187d0317615092085290950611806717d03166150520 rfl hW hUlt hprl j7 j8,rfl,fun a ha=>?_,⟨u1,u2,u3,u4,u5,u6,u7⟩,u8⟩)
    ·exact zw 6 0 2 4 0x11000700a1110007110010711b00c871502b7715021962a06119087165156054a0 rfl htW hUlt hprl j8
    ·unfold xE at h
     by_cases e:j = i
     ·rw [Ab e] at h;rw [e];exact hAl c ((hA' c).mp h)
     ·rw [Aa e] at h;exact V.snd j c hj h
    ·have:FF bs L j c:=by
      unfold xE at h
      by_cases e:j = i
      ·rw [Ab e] at h;rw [e];exact (hA' c).mp h
      ·rw [Aa e] at h;exact V.grow j c hj h
     exact this.mono fun g=>hLL g c
    ·have hno:i ∉ gl bs j:=fun h=>by
      obtain ⟨bj,hbj⟩:∃ b,bs[j]? = some b:=⟨_,Ci hj⟩
      have:=j5 j ((hpri.2 j).mpr ⟨bj,hbj,by rw [← tD hbj];exact h⟩)
      rw [hw] at this;cases this
     have hex:∀ c,(∃ g∈gl bs j,xE L i A g c = true)↔∃ g∈gl bs j,L g c = true:=fun c=>by
      have hsame:∀ g∈gl bs j,xE L i A g c = L g c:=fun g hg=>by unfold xE;rw [Aa fun (e:g = i)=>hno (by rw [← e];exact hg)]
      exact ⟨fun p1=>p1.elim fun g p2=>p2.elim fun hg h=>⟨g,hg,by rw [← hsame g hg];exact h⟩,fun p1=>p1.elim fun g p2=>p2.elim fun hg h=>⟨g,hg,by rw [hsame g hg];exact h⟩⟩
     have hw':=j6 j hw
     by_cases e:j = i
     ·subst e
      refine ⟨fun c=>?_,fun c=>?_⟩
      ·rw [hFF j c hj hno];unfold xE;rw [Ab rfl];exact hA' c
      ·rw [hex c];unfold xE;rw [Ab rfl];exact e3 c
     ·unfold xE at hw'
      rw [Aa e] at hw'
      have:=V.fix j hj hw'
      refine ⟨fun c=>?_,fun c=>?_⟩
      ·rw [hFF j c hj hno];unfold xE;rw [Aa e];exact this.1 c
      ·rw [hex c];unfold xE;rw [Aa e];exact this.2 c
    ·unfold xE;by_cases e:j = i
     ·rw [Ab e,Ab e];exact ⟨hn2,e4⟩
     ·rw [Aa e,Aa e];exact sz j hj
    ·have h1:a ≠ iw:=fun e=>ha (by rw [e];exact iw0)
     have h2:a ≠ fo:=fun e=>ha (by rw [e];exact hfo5)
     rw [j3 a h1 h2];exact k6 a ha
 ·rw [Dj (by exact zy 2 2 0x1015620520466516650 rfl ht htW)]
  have hall:∀ i,i < bs.length→wq i = false:=fun i hi=>by
   cases h:wq i with
   | false=>rfl
   | true=>have:=V.wt i hi h;rw [List.drop_eq_nil_of_le (by exact zy 2 2 4527058844739152 rfl ht htW)] at this;simp at this
  have hfin:∀ i c,i < bs.length→(L i c = true↔yK bs i 0 c):=fun i c hi=>
   ⟨V.snd i c hi,live_FF (fun j c hj h=>((V.fix j hj (hall j hj)).1 c).mpr h) B.tgt hi⟩
  refine ST.take (x:="live_in") u2 (wH.list c1) ?_
  refine ST.take (x:="live_out") (show wA m8 "live_in" _ "live_out" = _ from u3) (wH.list (by rw [zR nlo];exact c2)) ?_
  refine sR ?_
  lk
  refine q _ L O s s' hfin (fun i c hi=>?_) sz ((kp.del hli).del hlo0)
  rw [(V.fix i hi (hall i hi)).2 c]
  exact ⟨fun p1=>p1.elim fun n p2=>p2.elim fun hn h=>⟨n,hn,(hfin n c (hglt hi hn)).mp h⟩,fun p1=>p1.elim fun n p2=>p2.elim fun hn h=>⟨n,hn,(hfin n c (hglt hi hn)).mpr h⟩⟩
end
end
section
theorem wI (x y:Str):(x ++ y).length = x.length + y.length:=by
 show (Str.append x y).cps.size = x.cps.size + y.cps.size
 simp [Str.append]
theorem str_ne {x y:Str} (h:0 < x.length):x ++ y ≠ ("":Str):=fun e=>by
 have:=congrArg Str.length e
 rw [wI] at this
 have h0:(("":Str)).length = 0:=by decide
 exact zy 3 3 0x11010790172765225011 rfl h this h0
theorem str_small:∀ n:Nat,n < 64→(Str.ofString (toString ((n:Nat):Int))).length ≤ 10:=by decide +kernel
theorem tL {a:Int} (h0:0 ≤ a) (h1:a < 64):(Str.ofString (toString a)).length ≤ 10:=by
 obtain ⟨n,rfl⟩:∃ n:Nat,a = n:=⟨a.toNat,zw 0 1 1 2 0x100100810100701100108110007005200105402101040100130102 rfl h0 h1⟩
 exact str_small n (zy 1 2 0x101540215140215204520013 rfl h0 h1)
noncomputable def seat (S:List (Int×AV)) (c:Int):Option Int:=match yE S c with
 | some (.int i)=>some i
 | _=>none
theorem TB.seat {S:List (Int×AV)} (t:TB S) (c:Int):(∃ i,yE S c = some (.int i)∧0 ≤ i∧Mine.seat S c = some i∧c∈S.map (fun p=>p.1))∨(yE S c = none∧Mine.seat S c = none∧c ∉ S.map (fun p=>p.1)):=by
 have h0:=yV S c
 cases h:yE S c with
 | none=>
  rw [h] at h0
  exact .inr ⟨rfl,by unfold Mine.seat;rw [h],by simpa using h0.symm⟩
 | some x=>
  obtain ⟨i,e,hi⟩:=t.vi _ (sH h)
  dsimp only at e
  subst e
  rw [h] at h0
  exact .inl ⟨i,rfl,hi,by unfold Mine.seat;rw [h],by simpa using h0.symm⟩
noncomputable def encAl (cl:Nat→Addr) (S C:List (Int×AV)):AV:=.obj (cl 17) ["place","incoming","fetched","saved_used","spills"] [.idct (S.map (fun p=>p.1)) (S.map (fun p=>p.2)),.idct (C.map (fun p=>p.1)) (C.map (fun p=>p.2)),.idct [] [],.lst [],.int 0]
noncomputable def oN (cl:Nat→Addr) (S C:List (Int×AV)) (ke:List Int) (av:AV):List (Str×AV):=[("allocation",encAl cl S C),("kept",.lst (iL ke)),("alive",av)]
section
variable {l:Nat} {H H':zA} {Q:AV→zA→Prop} {k:Nat} {S C:List (Int×AV)} {ke:List Int} {wx wdx ad:Addr} {av:AV}
theorem mI (X:xC K ρ.base fa cl mt) {x:Str} {v:AV} (q:Q v H) (hv:autoParam (([("place",.idct (S.map (fun p=>p.1)) (S.map (fun p=>p.2))),("incoming",.idct (C.map (fun p=>p.1)) (C.map (fun p=>p.2))),("fetched",.idct [] []),("saved_used",.lst []),("spills",.int 0)]:List (Str×AV)).lookup x = some v) rt) (hx:autoParam ((uB 17).contains x = true) rt) (hg:autoParam (given v = true) rt):xX ρ l (encAl cl S C) x H Q:=
 xX.obj (fs:=[("place",.idct (S.map (fun p=>p.1)) (S.map (fun p=>p.2))),("incoming",.idct (C.map (fun p=>p.1)) (C.map (fun p=>p.2))),("fetched",.idct [] []),("saved_used",.lst []),("spills",.int 0)]) (X.cls 17 (by decide)).2.2 ⟨rfl,rfl,rfl⟩ (List.contains_iff_mem.mp hx) hv hg q
theorem xX.W (X:xC K ρ.base fa cl mt) (hw:H wx = some (.inst (cl 14) wdx (oN cl S C ke av))) {x:Str} {v:AV} (q:Q v H) (hv:autoParam ((oN cl S C ke av).lookup x = some v) rt) (hx:autoParam ((uB 14).contains x = true) rt) (hg:autoParam (given v = true) rt):xX ρ l (.ref wx) x H Q:=
 xX.obj (X.cls 14 (by decide)).2.2 ⟨wdx,hw⟩ (List.contains_iff_mem.mp hx) hv hg q
noncomputable abbrev kWm2 (l i:Nat) (wx:Addr) (Q:AV→zA→Prop):List AV→zA→Prop:=fun vs H=>zE ρ l (.ref (mt 14 i)) (.ref wx :: vs) H Q
noncomputable abbrev kWm (l:Nat) (env:Env) (pos:Pos) (es:List Expr) (i:Nat) (m:zN) (Q:AV→zA→Prop):AV→zA→Prop:=fun ov H=>∃ wx wdx S C ke av,ov = .ref wx∧H wx = some (.inst (cl 14) wdx (oN cl S C ke av))∧yO ρ l env pos es H m (kWm2 l i wx Q)
theorem oL (X:xC K ρ.base fa cl mt) {i:Nat} {x:Str} (hi:(x,i)∈(xI 14).zipIdx) {env:Env} {m:zN} {o:Expr} {apos pos:Pos} {es:List Expr}
  (h:EX ρ l env o H m (kWm l env pos es i m Q))
  (he:autoParam (es.all (fun e=>!isStarred e) = true) rt) (hn:es.length < 30:=by decide) (hb:autoParam (attributeBase o x env (eval o env) = eval o env) rt) (hp:autoParam ((apos.endLine == pos.line) = true) rt):EX ρ l env (.Call (.Attribute o x apos) es [] pos) H m Q:=by
 refine oZ (h.mono fun ov H1 p1=>p1.elim fun wx p2=>p2.elim fun wdx p3=>p3.elim fun S p4=>p4.elim fun C p5=>p5.elim fun ke p6=>p6.elim fun av p7=>p7.elim fun e p8=>p8.elim fun hw hx=>?_) he hn hb hp
 subst e
 have hil:i < (xI 14).length:=by have:=List.mem_zipIdx hi;simpa using this.2.1
 have hxl:(oN cl S C ke av).lookup x = none:=by
  have:x∈(xI 14).zipIdx.map (fun p=>p.1):=Bm.mpr ⟨_,hi,rfl⟩
  rw [List.zipIdx_map_fst] at this
  have hh:∀ x∈xI 14,x ≠ "allocation"∧x ≠ "kept"∧x ≠ "alive":=by decide
  obtain ⟨h1,h2,h3⟩:=hh x this
  simp only [oN,Bk,beq_eq_false_iff_ne.mpr h1,beq_eq_false_iff_ne.mpr h2,beq_eq_false_iff_ne.mpr h3,List.lookup_nil]
 refine pU.obj (X.cls 14 (by decide)).2.2 (show IsO H1 (.ref wx) (cl 14) _ from ⟨wdx,hw⟩) (f:=mt 14 i) ?_ hxl ⟨tN.fn (X.mth 14 (by decide) i hil),hx⟩
 exact Bm.mpr ⟨(x,i),hi,rfl⟩
theorem elsewhere_ok (X:xC K ρ.base fa cl mt) (hl:l ≤ 30) (hw:H wx = some (.inst (cl 14) wdx (oN cl S C ke av))) {c:Int} (q:Q (.bool (decide (c∈C.map (fun p=>p.1)))) H):zE ρ l (.ref (mt 14 1)) [.ref wx,.int c] H Q:=by
 refine zE.fn X.S (ω54 hl) (X.mth 14 (by decide) 1 (by decide)) rfl (by decide) (fun L qual code hc=>?_) (by intro x hx;left;revert x hx;decide)
 refine sR ?_
 refine EX.boo (BOO.two (pZ ?_))
 lk
 refine zQ (zQ ?_)
 lk
 refine xX.W X hw ?_
 refine mI X ?_
 refine wK (⟨rfl,rfl⟩:uZ H (.idct (C.map (fun p=>p.1)) (C.map (fun p=>p.2))) C) ?_
 rw [yV]
 refine TRU.bool ?_
 by_cases h:c∈C.map (fun p=>p.1)
 ·rw [Dc h] at q ⊢;exact q
 ·rw [Dj h] at q ⊢
  refine BOO.one (pZ ?_)
  lk
  refine zQ (zQ ?_)
  lk
  refine xX.W X hw ?_
  refine mI X ?_
  exact wK (⟨rfl,rfl⟩:uZ H (.idct [] []) []) q
end
end
section
noncomputable def rM (S:List (Int×AV)) (a b:Int):Prop:=∀ u v,seat S a = some u→seat S b = some v→u ≠ v
theorem rM.symm {S a b} (h:rM S a b):rM S b a:=fun u v h1 h2=>Ne.symm (h v u h2 h1)
noncomputable def qY (S C:List (Int×AV)) (A:Int→Prop):Prop:=(∀ c,A c→c ∉ C.map (fun p=>p.1)→c∈S.map (fun p=>p.1))∧∀ a b,A a→A b→a ≠ b→a ∉ C.map (fun p=>p.1)→b ∉ C.map (fun p=>p.1)→rM S a b
theorem qY.congr {S C} {A A':Int→Prop} (h:∀ c,A c↔A' c):qY S C A↔qY S C A':=by
 have:A = A':=funext fun c=>propext (h c)
 rw [this]
noncomputable def mC (S:List (Int×AV)) (ke:List Int) (A:Int→Prop):Prop:=∀ c,A c→∃ v,seat S c = some v∧v∈ke
section
variable {l:Nat} {H H':zA} {Q:AV→zA→Prop} {k:Nat} {S C:List (Int×AV)} {ke:List Int} {wx wdx ad:Addr} {av:AV} {A:List Int}
noncomputable def Kw (wx:Addr) (H H':zA):Prop:=∀ a,a ≠ wx→H a ≠ none→H' a = H a
inductive IOA0 (cl:Nat→Addr) (H:zA) (S C:List (Int×AV)) (ke:List Int) (wx wdx:Addr) (ns:List Int) (ad:Addr) (t:Nat) (H':zA) (m':zN):Prop
 | mk:∀ A,H' wx = some (.inst (cl 14) wdx (oN cl S C ke (.ref ad)))→H' ad = some (.idict (tru A))→Kw wx H H'→A.Nodup→(∀ c,c∈A↔c∈ns.take t)→m' "self" = some (.ref wx)→IOA0 cl H S C ke wx wdx ns ad t H' m'
theorem begin_ok (X:xC K ρ.base fa cl mt) (hl:l ≤ 30) (hw:H wx = some (.inst (cl 14) wdx (oN cl S C ke av))) {ns:List Int} (hns:∀ c∈ns,0 ≤ c∧c < (50:Nat))
  (q:∀ H' ad A,H' wx = some (.inst (cl 14) wdx (oN cl S C ke (.ref ad)))→H' ad = some (.idict (tru A))→Kw wx H H'→A.Nodup→(∀ c,c∈A↔c∈ns)→H ad = none→Q .none H') :
  zE ρ l (.ref (mt 14 2)) [.ref wx,.lst (iL ns)] H Q:=by
 refine zE.fn X.S (ω54 hl) (X.mth 14 (by decide) 2 (by decide)) rfl (by decide) (fun L qual code hc=>?_) (by intro x hx;left;revert x hx;decide)
 refine ST.c ?_
 intro Qc
 refine uY ?_
 refine xR X.S (.inr fun ad had=>?_)
 have hne:wx ≠ ad:=fun e=>by rw [← e,hw] at had;cases had
 lk
 refine pR.obj (X.cls 14 (by decide)).2.2 (show upd H ad _ wx = _ by rw [zB hne];exact hw) (by decide) (Af rfl) ?_
 rw [show oP (oN cl S C ke av) (Str.ofString "alive") (.ref ad) = oN cl S C ke (.ref ad) from rfl]
 refine ST.c ?_
 intro Qc
 refine yB (IOA0 cl H S C ke wx wdx ns ad) ?_
 lk
 refine ⟨_,yM.lst,⟨[],zC,by rw [zB (Ne.symm hne),zC];rfl,fun a ha hh=>by rw [zB ha,zB fun e=>hh (by rw [e];exact had)],by simp,by simp,rfl⟩,?_,?_⟩
 ·rintro t x H1 m1 hx ⟨A,h1,h2,h3,h4,h5,u1⟩
  obtain ⟨c,hc',rfl⟩:=yA hx
  have htk:ns.take (t + 1) = ns.take t ++ [c]:=by rw [Cj,hc'];rfl
  have hAl:A.length ≤ 50:=yH h4 fun c hc=>hns c (Do ((h5 c).mp hc))
  refine AS.name ?_
  refine ST.c ?_
  intro Qc
  refine S1.sub ?_
  lk
  refine zQ ?_
  lk
  refine xX.W X h1 ?_
  lk
  refine wT.idict h2 (by unfold tru;rw [Cp,Cu];exact vN hAl) ?_
  unfold tru
  rw [uD]
  refine ST.nil ⟨pP A c,by rw [zB hne];exact h1,zC,fun a ha hh=>by rw [zB fun e=>hh (by rw [e];exact had)];exact h3 a ha hh,wG h4,fun d=>?_,u1⟩
  rw [wS,h5 d,htk,Cx,Bf]
 ·rintro H1 m1 ⟨A,h1,h2,h3,h4,h5,u1⟩
  rw [zP,Dq] at h5
  exact ST.nil (q H1 ad A h1 h2 h3 h4 h5 had)
inductive IOA1 (H:zA) (S C:List (Int×AV)) (wx ad:Addr) (A:List Int) (wh:Str) (kn:Addr) (t:Nat) (H':zA) (m':zN):Prop
 | mk:∀ kvs,H' kn = some (.idict kvs)→(∀ a,a ≠ kn→H' a = del H ad a)→(∀ v,v∈kvs.map (fun p=>p.1)↔∃ c∈A.take t,c ∉ C.map (fun p=>p.1)∧seat S c = some v)→(∀ p∈kvs,∃ r,p.2 = .int r∧0 ≤ r∧r < (50:Nat))→kvs.length ≤ t→qY S C (·∈A.take t)→m' "self" = some (.ref wx)→m' "where" = some (.str wh)→m' "known" = some (.ref kn)→IOA1 H S C wx ad A wh kn t H' m'
theorem nT (X:xC K ρ.base fa cl mt) (hl:l ≤ 28) (hw:H wx = some (.inst (cl 14) wdx (oN cl S C ke (.ref ad)))) (ha:H ad = some (.idict (tru A))) (hA:A.Nodup) (hr:∀ c∈A,0 ≤ c∧c < (50:Nat)) (tS:TB S) (tC:TB C) {wh:Str} (hwh:wh.length ≤ 100)
  (q:∀ H' x,Kp H H'→(x = ("":Str)↔qY S C (fun p=>p∈A))→Q (.str x) H') :
  zE ρ l (.ref (mt 14 3)) [.ref wx,.str wh] H Q:=by
 have X1:=X.toProg2.toProg
 refine zE.fn X.S (ω83 hl) (X.mth 14 (by decide) 3 (by decide)) rfl (by decide) (fun L qual code hc=>?_) (by intro x hx;left;revert x hx;decide)
 have hwa:wx ≠ ad:=fun e=>by rw [e,ha] at hw;cases hw
 have hAl:A.length ≤ 50:=yH hA hr
 have l1:(Str.ofString "register ").length = 9:=by decide
 have l2:(Str.ofString " has no place ").length = 14:=by decide
 have l3:(Str.ofString "registers ").length = 10:=by decide
 have l4:(Str.ofString " and ").length = 5:=by decide
 have l5:(Str.ofString " share a place ").length = 15:=by decide
 refine ST.c ?_
 intro Qc
 refine S1.name (xR X.S (.inr fun kn hkn=>?_))
 have hkw:kn ≠ wx:=fun e=>by rw [e,hw] at hkn;cases hkn
 have hka:kn ≠ ad:=fun e=>by rw [e,ha] at hkn;cases hkn
 have ha1:upd H kn (.idict []) ad = some (.idict (tru A)):=by rw [zB (Ne.symm hka)];exact ha
 have back:∀ H':zA,(∀ a,a ≠ kn→H' a = del H ad a)→Kp H (upd H' ad (.idict (tru A))):=fun H' h a hh=>by
  by_cases e:a = ad
  ·rw [e,zC,ha]
  ·rw [zB e,h a fun e=>hh (by rw [e];exact hkn),zR e]
 refine ST.c ?_
 intro Qc
 refine S1.forL (IOA1 H S C wx ad A wh kn) (zQ ?_)
 lk
 have hwk:upd H kn (.idict []) wx = some (.inst (cl 14) wdx (oN cl S C ke (.ref ad))):=by rw [zB (Ne.symm hkw)];exact hw
 refine xX.W X hwk ?_
 refine ⟨ad,_,_,rfl,ha1,by simp,by simp,sQ.idict,⟨[],by rw [zR hka,zC],fun a hh=>?_,by simp,by simp,by decide,⟨by simp,by simp⟩,rfl,rfl,rfl⟩,?_,?_⟩
 ·by_cases e:a = ad
  ·rw [e,xB,xB]
  ·rw [zR e,zR e,zB hh]
 ·rintro t x H1 m1 hx ⟨kvs,h1,h2,h3,h4,h5,h6,u1,u2,u3⟩
  obtain ⟨p0,hp0,rfl⟩:=yA hx
  obtain ⟨c,hc',rfl⟩:=yA hp0
  dsimp only
  have hcA:=Dr hc'
  have hcr:=hr c hcA
  have htl:=(Bc.mp hc').1
  have hw1:H1 wx = some (.inst (cl 14) wdx (oN cl S C ke (.ref ad))):=by rw [h2 _ (Ne.symm hkw),zR hwa];exact hw
  have htk:A.take (t + 1) = A.take t ++ [c]:=by rw [Cj,hc'];rfl
  have hcn:c ∉ A.take t:=fun h=>by
   have hn:=hA
   rw [← Dp t A,Di] at hn
   refine hn.2.2 c h c ?_ rfl
   rw [Ds htl,(Bc.mp hc').2];exact Db
  have hsub:∀ d∈A.take t,d∈A:=fun d hd=>Do hd
  have hstr:=tL hcr.1 (show c < 64 by exact ω340 hcr)
  refine AS.name ?_
  refine ST.c0 ?_
  intro Qs Qc
  refine zK (TR.val (oL X (i:=1) (by decide) ?_))
  refine xH ?_
  refine ⟨wx,wdx,S,C,ke,_,rfl,hw1,?_⟩
  lk
  refine elsewhere_ok X (ω84 hl) hw1 (TRU.bool ?_)
  by_cases hC:c∈C.map (fun p=>p.1)
  ·rw [Dc hC]
   refine ST.c ?_
   intro Qc
   refine S1.cnt ⟨kvs,h1,h2,fun v=>?_,h4,ω56 h5,?_,u1,u2,u3⟩
   ·rw [h3 v,htk]
    constructor
    ·rintro ⟨d,hd,hh⟩;exact ⟨d,Cy _ hd,hh⟩
    ·rintro ⟨d,hd,hh,h'⟩
     refine sealG ?_
     intro Gs
     rcases Cx.mp hd with h | h
     ·exact ⟨d,h,hh,h'⟩
     ·rw [Bf.mp h] at hh;exact absurd hC hh
   ·rw [htk]
    refine ⟨fun d hd hh=>?_,fun a b ha hb hne hca hcb=>?_⟩
    ·refine sealG ?_
     intro Gs
     rcases Cx.mp hd with h | h
     ·exact h6.1 d h hh
     ·rw [Bf.mp h] at hh;exact absurd hC hh
    ·refine sealG ?_
     intro Gs
     rcases Cx.mp ha with h | h
     ·refine sealG ?_
      intro Gs
      rcases Cx.mp hb with h' | h'
      ·exact h6.2 a b h h' hne hca hcb
      ·rw [Bf.mp h'] at hcb;exact absurd hC hcb
     ·rw [Bf.mp h] at hca;exact absurd hC hca
  ·rw [Dj hC]
   refine ST.nil ?_
   refine ST.c0 ?_
   intro Qs Qc
   refine S1.name (qU (zQ (zQ ?_)))
   lk
   refine xX.W X hw1 ?_
   refine mI X ?_
   refine ⟨⟨S,rfl,rfl⟩,?_⟩
   lk
   refine zE.get (⟨rfl,rfl⟩:uZ H1 (.idct (S.map (fun p=>p.1)) (S.map (fun p=>p.2))) S) ?_
   refine (show ST _ _ _ _ _ _ _ from ?_)
   rcases tS.seat c with ⟨i,hlk,hi0,hseat,hcS⟩ | ⟨hlk,hseat,hcS⟩
   ·rw [hlk,Option.getD_some]
    refine ST.c0 ?_
    intro Qs Qc
    refine zK (zH ?_)
    lk
    refine yI.lt ?_
    rw [Dj (ω12 hi0)]
    refine ST.nil ?_
    refine ST.c0 ?_
    intro Qs Qc
    refine zK (zH ?_)
    lk
    refine wK (show uZ _ (.ref kn) _ from h1) ?_
    rw [yV]
    by_cases hik:i∈kvs.map (fun p=>p.1)
    ·rw [Dc hik]
     refine sealG ?_
     intro Gs
     obtain ⟨d,hd,hdC,hds⟩:=(h3 i).mp hik
     obtain ⟨x,hx⟩:∃ x,yE kvs i = some x:=by
      have:=yV kvs i
      rw [Dc hik] at this
      exact Az.mp this
     obtain ⟨r,hr',hr0,hr1⟩:=h4 _ (sH hx)
     dsimp only at hr'
     subst hr'
     have hstr2:=tL hr0 (show r < 64 by exact zw 0 1 0 2 0x1015402101043221200104010013 rfl hr0 hr1)
     refine sR ?_
     refine yY (yY (yY (yY (yY ?_))))
     lk
     refine yW X1 (Prog.str X1) ?_
     refine yO.cons (EX.sub ?_ (by rfl))
     lk
     refine zY.idict (show uZ _ (.ref kn) _ from h1) hx ?_
     lk
     refine zE.str (nU hr0) (nV hr1) (xV (by rw [Cu];exact zy 2 2 0x110161000000716520a1160a1152 rfl l3 hstr2) ?_)
     lk
     refine xV (by simp only [wI];rw [Cu];exact zy 3 3 0x1101018100000071675220a117051162a1152 rfl l3 l4 hstr2) ?_
     refine yW X1 (Prog.str X1) ?_
     lk
     refine zE.str (nU hcr.1) (nV hcr.2) (xV (by simp only [wI];rw [Cu];exact zy 4 4 0x1101011910000007176852220a1180a117051162a1152 rfl l3 l4 hstr hstr2) ?_)
     lk
     refine xV (by simp only [wI];rw [Cu];exact zy 5 5 0x110101011b1000000717869522220a1190a1180f117251162a1152 rfl l3 l4 l5 hstr hstr2) ?_
     lk
     refine xV (by simp only [wI];rw [Cu];exact zy 6 6 0x1110101011c1000000715897a6222220a11a0a1190f118251172a1162642150 rfl hwh l3 l4 l5 hstr hstr2) ?_
     refine q _ _ (back _ h2) ⟨fun h=>absurd h (str_ne (by simp only [wI];exact zy 5 5 0x101000100b786952222011a1190a1180f117251162a1152 rfl l3 l4 l5 hstr hstr2)),fun h=>?_⟩
     exact absurd rfl (h.2 d c (hsub d hd) hcA (fun e=>hcn (e ▸ hd)) hdC hC i i hds hseat)
    ·rw [Dj hik]
     refine ST.nil ?_
     refine ST.c ?_
     intro Qc
     refine S1.sub ?_
     lk
     refine wT.idict h1 (by rw [Cu];exact zy 3 3 0x1111610000007160571760322150 rfl hAl h5 htl) ?_
     refine ST.nil ⟨_,zC,fun a hh=>by rw [zB hh];exact h2 a hh,fun v=>?_,fun p hp=>?_,?_,?_,u1,u2,u3⟩
     ·rw [yZ,h3 v,htk]
      constructor
      ·rintro (⟨d,hd,hh⟩ | rfl)
       ·exact ⟨d,Cy _ hd,hh⟩
       ·exact ⟨c,by simp,hC,hseat⟩
      ·rintro ⟨d,hd,hh,h'⟩
       refine sealG ?_
       intro Gs
       rcases Cx.mp hd with h | h
       ·exact .inl ⟨d,h,hh,h'⟩
       ·rw [Bf.mp h,hseat] at h';cases h';exact .inr rfl
     ·refine sealG ?_
      intro Gs
      rcases pG hp with h | h
      ·exact h4 p h
      ·exact ⟨c,by rw [h],hcr⟩
     ·have:=congrArg List.length (pH kvs i (.int c))
      rw [Aa hik] at this
      simp at this;exact zy 3 2 0x1110664705472650 rfl h5 this
     ·rw [htk]
      refine ⟨fun d hd hh=>?_,fun a b ha hb hne hca hcb=>?_⟩
      ·rcases Cx.mp hd with h | h
       ·exact h6.1 d h hh
       ·rw [Bf.mp h];exact hcS
      ·have key:∀ d∈A.take t,d ∉ C.map (fun p=>p.1)→rM S d c:=fun d hd hdC u v h1 h2 e=>by
        rw [hseat] at h2;cases h2
        exact hik ((h3 _).mpr ⟨d,hd,hdC,by rw [h1,e]⟩)
       rcases Cx.mp ha with h | h <;> rcases Cx.mp hb with h' | h'
       ·exact h6.2 a b h h' hne hca hcb
       ·rw [Bf.mp h'];exact key a h hca
       ·rw [Bf.mp h];exact (key b h' hcb).symm
       ·rw [Bf.mp h,Bf.mp h'] at hne;exact absurd rfl hne
   ·rw [hlk,Option.getD_none]
    refine ST.c ?_
    intro Qc
    refine zK (zH ?_)
    lk
    refine yI.lt ?_
    rw [Dc (by decide)]
    refine sR ?_
    refine yY (yY (yY ?_))
    lk
    refine yW X1 (Prog.str X1) ?_
    lk
    refine zE.str (nU hcr.1) (nV hcr.2) (xV (by rw [Cu];exact ω349 l1 hstr) ?_)
    lk
    refine xV (by simp only [wI];rw [Cu];exact zy 3 3 0x1101018100000071675220a1170e116291152 rfl l1 l2 hstr) ?_
    lk
    refine xV (by simp only [wI];rw [Cu];exact zy 4 4 0x1110101910000007157862220a1180e117291162642150 rfl hwh l1 l2 hstr) ?_
    refine q _ _ (back _ h2) ⟨fun h=>absurd h (str_ne (by simp only [wI];exact zy 3 3 0x101010867522011a1170e116291152 rfl l1 l2 hstr)),fun h=>absurd (h.1 c hcA hC) hcS⟩
 ·rintro H1 m1 ⟨kvs,h1,h2,h3,h4,h5,h6,u1,u2,u3⟩
  unfold tru at h6
  rw [Cp,Cp,Dq] at h6
  refine sR ?_;lk
  exact q _ _ (back _ h2) ⟨fun U=>h6,fun U=>rfl⟩
end
end
section
theorem tru_drop (A:List Int) (c:Int):((tru A).filter fun kv=>decide (kv.1 ≠ c)) = tru (A.filter fun d=>decide (d ≠ c)):=by
 unfold tru;rw [List.filter_map];rfl
section
variable {l:Nat} {H H':zA} {Q:AV→zA→Prop} {k:Nat} {S C:List (Int×AV)} {ke:List Int} {wx wdx ad:Addr} {av:AV} {A:List Int}
inductive IOB0 (H:zA) (S:List (Int×AV)) (ke:List Int) (wx ad:Addr) (A:List Int) (wh:Str) (t:Nat) (H':zA) (m':zN):Prop
 | mk:H' = del H ad→(∀ c∈A.take t,∃ v,seat S c = some v∧v∈ke)→m' "self" = some (.ref wx)→m' "where" = some (.str wh)→IOB0 H S ke wx ad A wh t H' m'
theorem lost_ok (X:xC K ρ.base fa cl mt) (hl:l ≤ 28) (hw:H wx = some (.inst (cl 14) wdx (oN cl S C ke (.ref ad)))) (ha:H ad = some (.idict (tru A))) (hA:A.Nodup) (hr:∀ c∈A,0 ≤ c∧c < (50:Nat)) (tS:TB S) (hke:(-1:Int) ∉ ke) {wh:Str} (hwh:wh.length ≤ 100)
  (q:∀ H' x,Kp H H'→(x = ("":Str)↔mC S ke (fun p=>p∈A))→Q (.str x) H') :
  zE ρ l (.ref (mt 14 4)) [.ref wx,.str wh] H Q:=by
 have X1:=X.toProg2.toProg
 refine zE.fn X.S (ω83 hl) (X.mth 14 (by decide) 4 (by decide)) rfl (by decide) (fun L qual code hc=>?_) (by intro x hx;left;revert x hx;decide)
 have hwa:wx ≠ ad:=fun e=>by rw [e,ha] at hw;cases hw
 have l1:(Str.ofString "register ").length = 9:=by decide
 have l2:(Str.ofString " does not outlive a call ").length = 25:=by decide
 have back:∀ H':zA,H' = del H ad→Kp H (upd H' ad (.idict (tru A))):=fun H' h a hh=>by
  by_cases e:a = ad
  ·rw [e,zC,ha]
  ·rw [zB e,h,zR e]
 refine ST.c ?_
 intro Qc
 refine S1.forL (IOB0 H S ke wx ad A wh) (zQ ?_)
 lk
 refine xX.W X hw ?_
 refine ⟨ad,_,_,rfl,ha,by simp,by simp,sQ.idict,⟨rfl,by simp,rfl,rfl⟩,?_,?_⟩
 ·rintro t x H1 m1 hx ⟨h1,h2,u1,u2⟩
  obtain ⟨p0,hp0,rfl⟩:=yA hx
  obtain ⟨c,hc',rfl⟩:=yA hp0
  dsimp only
  have hcA:=Dr hc'
  have hcr:=hr c hcA
  have hw1:H1 wx = some (.inst (cl 14) wdx (oN cl S C ke (.ref ad))):=by rw [h1,zR hwa];exact hw
  have htk:A.take (t + 1) = A.take t ++ [c]:=by rw [Cj,hc'];rfl
  have hstr:=tL hcr.1 (show c < 64 by exact ω340 hcr)
  have fail:(¬ ∃ v,seat S c = some v∧v∈ke)→ST ρ (l + 1) (wN (yR (vD 4 (zJ 14))) L qual (mt 14 4) code) (inB (inB (xD (vD 4 (zJ 14))))) H1 (wA m1 "register" (.int c)) fun af H'' m''=>match af with | .ret v=>Q v (upd H'' ad (.idict (tru A))) | _=>False:=fun hno=>by
   refine sR ?_
   refine yY (yY (yY ?_))
   lk
   refine yW X1 (Prog.str X1) ?_
   lk
   refine zE.str (nU hcr.1) (nV hcr.2) (xV (by rw [Cu];exact ω349 l1 hstr) ?_)
   lk
   refine xV (by simp only [wI];rw [Cu];exact zy 3 3 0x1101018100000071675220a117019216291152 rfl l1 l2 hstr) ?_
   lk
   refine xV (by simp only [wI];rw [Cu];exact zy 4 4 0x1110101910000007157862220a118019217291162642150 rfl hwh l1 l2 hstr) ?_
   exact q _ _ (back _ h1) ⟨fun h=>absurd h (str_ne (by simp only [wI];exact zy 3 3 0x100010867522011a117019216291152 rfl l1 l2 hstr)),fun h=>absurd (h c hcA) hno⟩
  refine AS.name ?_
  refine ST.c ?_
  intro Qc
  refine zK (zH (qU (zQ (zQ ?_))))
  lk
  refine xX.W X hw1 ?_
  refine mI X ?_
  refine ⟨⟨S,rfl,rfl⟩,?_⟩
  lk
  refine zE.get (⟨rfl,rfl⟩:uZ H1 (.idct (S.map (fun p=>p.1)) (S.map (fun p=>p.2))) S) ?_
  refine zQ ?_
  lk
  refine xX.W X hw1 ?_
  rcases tS.seat c with ⟨i,hlk,hi0,hseat,hcS⟩ | ⟨hlk,hseat,hcS⟩
  ·rw [hlk,Option.getD_some]
   refine tH (show yJ _ (.lst _) _ from rfl) ?_
   by_cases hik:i∈ke
   ·rw [Dc hik]
    refine ST.nil (ST.nil ⟨h1,fun d hd=>?_,u1,u2⟩)
    rw [htk] at hd
    rcases Cx.mp hd with h | h
    ·exact h2 d h
    ·rw [Bf.mp h];exact ⟨i,hseat,hik⟩
   ·rw [Dj hik]
    refine (fail fun p1=>p1.elim fun v p2=>p2.elim fun h h'=>by rw [hseat] at h;cases h;exact hik h').mono fun af H' m' h=>?_
    cases af <;> first | exact h | exact h.elim
  ·rw [hlk,Option.getD_none]
   refine tH (show yJ _ (.lst _) _ from rfl) ?_
   rw [Dj hke]
   refine (fail fun p1=>p1.elim fun v p2=>p2.elim fun h h'=>by rw [hseat] at h;cases h).mono fun af H' m' h=>?_
   cases af <;> first | exact h | exact h.elim
 ·rintro H1 m1 ⟨h1,h2,u1,u2⟩
  unfold tru at h2
  rw [Cp,Cp,Dq] at h2
  refine sR ?_;lk
  exact q _ _ (back _ h1) ⟨fun U=>h2,fun U=>rfl⟩
inductive IOB1 (wx ad:Addr) (wh:Str) (ts:List xA) (A1:List Int) (H2:zA) (x2:Str) (t:Nat) (H':zA) (m':zN):Prop
 | mk:∀ A',H' ad = some (.idict (tru A'))→(∀ a,a ≠ ad→H' a = H2 a)→A'.Nodup→(∀ c,c∈A'↔c∈A1∨c∈(zZ ts).take t)→m' "self" = some (.ref wx)→m' "where" = some (.str wh)→m' "word" = some (.str x2)→IOB1 wx ad wh ts A1 H2 x2 t H' m'
theorem back_ok (X:xC K ρ.base fa cl mt) (hl:l ≤ 26) (hw:H wx = some (.inst (cl 14) wdx (oN cl S C ke (.ref ad)))) (ha:H ad = some (.idict (tru A))) (hA:A.Nodup) (hr:∀ c∈A,0 ≤ c∧c < (50:Nat)) (tS:TB S) (tC:TB C) (hke:(-1:Int) ∉ ke) {wh:Str} (hwh:wh.length ≤ 100)
  {op:Str} {dst:Int} {ts:List xA} {more:AV} {vol:Bool} (hts:ts.length ≤ 10) (htr:∀ c∈zZ ts,0 ≤ c∧c < (50:Nat)) (hd:dst = -1∨(0 ≤ dst∧dst < (50:Nat)))
  (q:∀ H' x A',H' wx = some (.inst (cl 14) wdx (oN cl S C ke (.ref ad)))→H' ad = some (.idict (tru A'))→Kw ad H H'→A'.Nodup→(∀ c,c∈A'↔(c∈A∧c ≠ dst)∨c∈zZ ts) →
   (x = ("":Str)↔(0 ≤ dst→qY S C fun c=>c∈A∨c = dst)∧((op = Str.ofString "call"∨op = Str.ofString "callreg")→mC S ke fun c=>c∈A∧c ≠ dst)∧qY S C (fun p=>p∈A'))→Q (.str x) H') :
  zE ρ l (.ref (mt 14 5)) [.ref wx,qP cl op dst ts more vol,.str wh] H Q:=by
 have X1:=X.toProg2.toProg
 refine zE.fn X.S (oB hl) (X.mth 14 (by decide) 5 (by decide)) rfl (by decide) (fun L qual code hc=>?_) (by intro x hx;left;revert x hx;decide)
 have hwa:wx ≠ ad:=fun e=>by rw [e,ha] at hw;cases hw
 have hAl:A.length ≤ 50:=yH hA hr
 refine sN ?_;lk
 have tail:∀ (H1:zA) (m1:zN) (A1:List Int) (x1:Str),H1 wx = some (.inst (cl 14) wdx (oN cl S C ke (.ref ad)))→H1 ad = some (.idict (tru A1))→Kw ad H H1→A1.Nodup→(∀ c,c∈A1↔c∈A∧c ≠ dst)→(x1 = ("":Str)↔(0 ≤ dst→qY S C fun c=>c∈A∨c = dst))→m1 "self" = some (.ref wx)→m1 "step" = some (qP cl op dst ts more vol)→m1 "where" = some (.str wh)→m1 "word" = some (.str x1) →
   ST ρ (l + 1) (wN (yR (vD 5 (zJ 14))) L qual (mt 14 5) code) ((xD (vD 5 (zJ 14))).drop 2) H1 m1 (RQ Q):=by
  intro H1 m1 A1 x1 h1 h2 h3 h4 h5 h6 u1 u2 u3 u4
  have hr1:∀ c∈A1,0 ≤ c∧c < (50:Nat):=fun c hc=>hr c ((h5 c).mp hc).1
  have tail2:∀ (H2:zA) (m2:zN) (x2:Str),Kp H1 H2→(x2 = ("":Str)↔x1 = ""∧((op = Str.ofString "call"∨op = Str.ofString "callreg")→mC S ke (fun p=>p∈A1)))→m2 "self" = some (.ref wx)→m2 "step" = some (qP cl op dst ts more vol)→m2 "where" = some (.str wh)→m2 "word" = some (.str x2) →
    ST ρ (l + 1) (wN (yR (vD 5 (zJ 14))) L qual (mt 14 5) code) ((xD (vD 5 (zJ 14))).drop 3) H2 m2 (RQ Q):=by
   intro H2 m2 x2 k2 hx2 u1 u2 u3 u4
   refine ST.c ?_
   intro Qc
   refine yB (IOB1 wx ad wh ts A1 H2 x2) ?_
   refine zO X1 13 ?_
   lk
   refine registers_ok X (qD hl) (zy 1 1 4862324238848336 rfl hts) ⟨_,yM.lst,⟨A1,k2.at h2,fun U U=>rfl,h4,by simp,u1,u3,u4⟩,?_,?_⟩
   ·rintro t x H3 m3 hx ⟨A',g1,g2,g3,g4,u1,u3,u4⟩
    obtain ⟨c,hc',rfl⟩:=yA hx
    have htk:(zZ ts).take (t + 1) = (zZ ts).take t ++ [c]:=by rw [Cj,hc'];rfl
    have hAl':A'.length ≤ 50:=yH g3 fun c hc=>((g4 c).mp hc).elim (hr1 c) fun h=>htr c (Do h)
    have hw3:H3 wx = some (.inst (cl 14) wdx (oN cl S C ke (.ref ad))):=by rw [g2 _ hwa];exact k2.at h1
    refine AS.name ?_
    refine ST.c ?_
    intro Qc
    refine S1.sub ?_
    lk
    refine zQ ?_
    lk
    refine xX.W X hw3 ?_
    lk
    refine wT.idict g1 (by unfold tru;rw [Cp,Cu];exact vN hAl') ?_
    unfold tru
    rw [uD]
    refine ST.nil ⟨pP A' c,zC,fun a ha=>by rw [zB ha];exact g2 a ha,wG g3,fun d=>?_,u1,u3,u4⟩
    rw [wS,g4 d,htk,Cx,Bf,or_assoc]
   ·rintro H3 m3 ⟨A',g1,g2,g3,g4,u1,u3,u4⟩
    rw [zP,Dq] at g4
    have hr':∀ c∈A',0 ≤ c∧c < (50:Nat):=fun c hc=>((g4 c).mp hc).elim (hr1 c) (htr c)
    have hw3:H3 wx = some (.inst (cl 14) wdx (oN cl S C ke (.ref ad))):=by rw [g2 _ hwa];exact k2.at h1
    have hk3:Kw ad H H3:=fun a ha hh=>by
     have e1:=h3 a ha hh
     have e2:=k2 a (by rw [e1];exact hh)
     rw [g2 a ha,e2,e1]
    have hA':∀ c,c∈A'↔(c∈A∧c ≠ dst)∨c∈zZ ts:=fun c=>by rw [g4 c,h5 c]
    have hlow:(x2 = ("":Str)↔(0 ≤ dst→qY S C fun c=>c∈A∨c = dst)∧((op = Str.ofString "call"∨op = Str.ofString "callreg")→mC S ke fun c=>c∈A∧c ≠ dst)):=by
     rw [hx2,h6,show (fun c=>c∈A1) = fun c=>c∈A∧c ≠ dst from funext fun c=>propext (h5 c)]
    refine sR ?_
    refine uO (zH ?_)
    lk
    refine yI.sne ?_
    by_cases hxe:x2 = ("":Str)
    ·rw [Dj (by simpa using hxe)]
     refine oL X (i:=3) (by decide) ?_
     refine xH ?_
     refine ⟨wx,wdx,S,C,ke,_,rfl,hw3,?_⟩
     lk
     refine nT X (nE hl) hw3 g1 g3 hr' tS tC hwh fun H4 x kp hx=>?_
     refine q H4 x A' (kp.at hw3) (kp.at g1) (fun a ha hh=>?_) g3 hA' ?_
     ·have:=hk3 a ha hh;rw [kp a (by rw [this];exact hh),this]
     ·rw [hx];exact ⟨fun h=>⟨(hlow.mp hxe).1,(hlow.mp hxe).2,h⟩,fun h=>h.2.2⟩
    ·rw [Dc hxe]
     lk
     exact q H3 x2 A' hw3 g1 hk3 g3 hA' ⟨fun h=>absurd h hxe,fun h=>absurd (hlow.mpr ⟨h.1,h.2.1⟩) hxe⟩
  refine ST.c ?_
  intro Qc
  refine zK (TR.bool (sC.cons (zH ?_)))
  lk
  refine yI.seq ?_
  by_cases hx1:x1 = ("":Str)
  ·rw [Dc hx1]
   refine sC.cons (zH (zQ ?_))
   lk
   refine xS X ?_
   refine EX.cst X.S X.calls (by rfl) (by rfl) ?_
   refine yI.inT (ns:=["call","callreg"]) ?_
   by_cases hcl:op = Str.ofString "call"∨op = Str.ofString "callreg"
   ·rw [Dc (show op∈([Str.ofString "call",Str.ofString "callreg"]:List Str) by rcases hcl with e | e <;> rw [e] <;> simp)]
    refine sC.nil ?_
    refine sN ?_
    intro Qc
    refine oL X (i:=4) (by decide) ?_
    refine xH ?_
    refine ⟨wx,wdx,S,C,ke,_,rfl,h1,?_⟩
    lk
    refine lost_ok X (nE hl) h1 h2 h4 hr1 tS hke hwh fun H2 x2 kp hx=>?_
    refine ST.nil ?_
    exact tail2 H2 _ x2 kp (by rw [hx];exact ⟨fun h=>⟨hx1,fun U=>h⟩,fun h=>h.2 hcl⟩) u1 u2 u3 rfl
   ·rw [Dj (fun h=>hcl (by simpa using h))]
    refine ST.nil ?_
    exact tail2 H1 m1 x1 .refl ⟨fun h=>⟨h,fun h'=>absurd h' hcl⟩,fun h=>h.1⟩ u1 u2 u3 u4
  ·rw [Dj hx1]
   refine ST.nil ?_
   exact tail2 H1 m1 x1 .refl ⟨fun h=>absurd h hx1,fun h=>absurd h.1 hx1⟩ u1 u2 u3 u4
 refine ST.c ?_
 intro Qc
 refine zK (zH (zQ ?_))
 lk
 refine xS X ?_
 lk
 refine yI.ge ?_
 by_cases h0:0 ≤ dst
 ·rw [Dc h0]
  have hd50:dst < (50:Nat):=by exact zw 0 1 0 1 0x1015110503221200104322120010401001371114001058 rfl hd
  refine ST.c ?_
  intro Qc
  refine S1.sub ?_
  lk
  refine zQ ?_
  lk
  refine xX.W X hw ?_
  refine zQ ?_
  lk
  refine xS X ?_
  refine wT.idict ha (by unfold tru;rw [Cp,Cu];exact vN hAl) ?_
  unfold tru
  rw [uD]
  have hw2:upd H ad (.idict ((if dst∈A then A else A ++ [dst]).map fun c=>(c,AV.bool true))) wx = some (.inst (cl 14) wdx (oN cl S C ke (.ref ad))):=by rw [zB hwa];exact hw
  have ha2:upd H ad (.idict ((if dst∈A then A else A ++ [dst]).map fun c=>(c,AV.bool true))) ad = some (.idict (tru (pP A dst))):=zC
  have hr2:∀ c∈pP A dst,0 ≤ c∧c < (50:Nat):=fun c hc=>(wS.mp hc).elim (hr c) fun e=>e ▸ ⟨h0,hd50⟩
  have hk2:Kw ad H (upd H ad (.idict ((if dst∈A then A else A ++ [dst]).map fun c=>(c,AV.bool true)))):=fun a ha U=>zB ha
  generalize upd H ad (.idict ((if dst∈A then A else A ++ [dst]).map fun c=>(c,AV.bool true))) = H2 at hw2 ha2 hk2 ⊢
  refine sN ?_
  intro Qc
  refine oL X (i:=3) (by decide) ?_
  refine yG ?_
  refine ⟨wx,wdx,S,C,ke,_,rfl,hw2,?_⟩
  lk
  refine nT X (nE hl) hw2 ha2 (wG hA) hr2 tS tC hwh fun H3 x kp hx=>?_
  have hw3:=kp.at hw2
  have ha3:=kp.at ha2
  have hal3:(pP A dst).length ≤ 50:=yH (wG hA) hr2
  refine ST.c ?_
  intro Qc
  refine zV (EX.dpop1 (zQ ?_))
  lk
  refine xX.W X hw3 ?_
  refine ⟨⟨_,ha3⟩,zQ ?_⟩
  lk
  refine xS X ?_
  refine zE.dpop (rest:=[]) ha3 (by unfold tru;rw [Cp,Cu];exact vN hal3) (x:=.bool true) (by unfold tru;rw [tB,Ab (wS.mpr (.inr rfl))]) (.inl rfl) ?_
  rw [tru_drop]
  refine ST.nil ?_
  refine tail _ _ ((pP A dst).filter fun d=>decide (d ≠ dst)) x (by rw [zB hwa];exact hw3) zC (fun a ha hh=>?_) ((wG hA).sublist List.filter_sublist) (fun c=>?_) ?_ rfl rfl rfl rfl
  ·have:=hk2 a ha hh;rw [zB ha,kp a (by rw [this];exact hh),this]
  ·rw [List.mem_filter,wS,Bq]
   exact ⟨fun p1=>p1.rec fun h h'=>⟨h.resolve_right h',h'⟩,fun p1=>p1.rec fun h h'=>⟨.inl h,h'⟩⟩
  ·rw [hx,qY.congr (A':=fun c=>c∈A∨c = dst) fun c=>wS]
   exact ⟨fun h U=>h,fun h=>h h0⟩
 ·rw [Dj h0]
  refine ST.nil ?_
  exact tail H _ A _ hw ha (fun U U U=>rfl) hA (fun c=>⟨fun h=>⟨h,by have:=hr c h;exact zw 0 2 0 2 0x10110701011056322120110411001370100136 rfl h0 this⟩,fun h=>h.1⟩) ⟨fun U h=>absurd h h0,fun U=>rfl⟩ rfl rfl rfl rfl
end
end
section
theorem live_end {bs:List yF} {i:Nat} {b:yF} (hb:bs[i]? = some b) (c:Int):yK bs i b.rows.length c↔(∃ n∈gl bs i,yK bs n 0 c)∨c∈zZ (yS b.c b.v b.e).terms:=by
 have htt:(yD b)[b.rows.length]? = some (yS b.c b.v b.e).terms:=by unfold yD;rw [List.getElem?_append_right (by simp)];simp
 constructor
 ·intro h
  generalize hp:b.rows.length = p at h
  cases h with
  | use hb' hts hm=>rw [hb] at hb';cases hb';subst hp;rw [htt] at hts;cases hts;exact .inr (yU.mpr hm)
  | step hb' hr _ _=>rw [hb] at hb';cases hb';have:=(Bc.mp hr).1;exact (zy 2 2 1105305409106 rfl hp this).elim
  | jump hb' hn h=>rw [hb] at hb';cases hb';exact .inl ⟨_,by rw [tD hb];exact hn,h⟩
 ·rintro (⟨n,hn,h⟩ | h)
  ·exact .jump hb (by rw [tD hb] at hn;exact hn) h
  ·exact .use hb htt (yU.mp h)
theorem live_row {bs:List yF} {i p:Nat} {b:yF} {r:rQ} (hb:bs[i]? = some b) (hr:b.rows[p]? = some r) (c:Int):yK bs i p c↔(yK bs i (p + 1) c∧c ≠ r.dst)∨c∈zZ r.terms:=by
 have hpl:=(Bc.mp hr).1
 have htt:(yD b)[p]? = some r.terms:=by unfold yD;rw [List.getElem?_append_left (by rw [Cp];exact hpl),Bg,hr];rfl
 constructor
 ·intro h
  cases h with
  | use hb' hts hm=>rw [hb] at hb';cases hb';rw [htt] at hts;cases hts;exact .inr (yU.mpr hm)
  | step hb' hr' hd h=>rw [hb] at hb';cases hb';rw [hr] at hr';cases hr';exact .inl ⟨h,Ne.symm hd⟩
  | jump hb' _ _=>rw [hb] at hb';cases hb';exact absurd hpl (Ar _)
 ·rintro (⟨h,hd⟩ | h)
  ·exact .step hb hr (Ne.symm hd) h
  ·exact .use hb htt (yU.mp h)
theorem nop_call:∀ o∈oW,(nop o = Str.ofString "call"∨nop o = Str.ofString "callreg")↔(o = Str.ofString "call"∨o = Str.ofString "callreg"):=by decide +kernel
theorem end_call (b:yF):¬ ((yS b.c b.v b.e).op = Str.ofString "call"∨(yS b.c b.v b.e).op = Str.ofString "callreg"):=by
 cases b.e <;> simp only [yS] <;> decide
theorem sorted_eq:∀ {xs ys:List Int},xs.Pairwise (fun p q=>p<q)→ys.Pairwise (fun p q=>p<q)→(∀ z,z∈xs↔z∈ys)→xs = ys
 | [],[],_,_,_=>rfl
 | [],y :: ys,_,_,h=>by have:=(h y).mpr Db;simp at this
 | x :: xs,[],_,_,h=>by have:=(h x).mp Db;simp at this
 | x :: xs,y :: ys,h1,h2,h=>by
  have h1':=Bn.mp h1
  have h2':=Bn.mp h2
  have e:x = y:=by
   rcases Be.mp ((h x).mp Db) with e | h3
   ·exact e
   ·rcases Be.mp ((h y).mpr Db) with e | h4
    ·exact e.symm
    ·have a:=h2'.1 x h3;have b:=h1'.1 y h4;exact zw 0 2 0 2 0x1141010110501011041100104 rfl a b
  subst e
  rw [sorted_eq h1'.2 h2'.2 fun z=>?_]
  constructor
  ·intro hz
   rcases Be.mp ((h z).mp (Dh _ hz)) with e | h3
   ·have:=h1'.1 z hz;exact ω357 e this
   ·exact h3
  ·intro hz
   rcases Be.mp ((h z).mpr (Dh _ hz)) with e | h3
   ·have:=h2'.1 z hz;exact ω357 e this
   ·exact h3
theorem iota_sorted (n:Nat):(uH n).Pairwise (fun p q=>p<q):=by
 unfold uH;rw [List.pairwise_map]
 exact List.pairwise_lt_range.imp fun h=>by exact ω334 h
theorem iota_at {n i:Nat} {x:AV} (h:(iL (uH n))[i]? = some x):i < n∧x = .int i:=by
 have hl:=(Bc.mp h).1
 rw [zP,qM] at hl
 refine ⟨hl,?_⟩
 unfold iL uH at h
 rw [Bj,Bg,List.getElem?_range hl] at h
 simpa using h.symm
noncomputable def RowOK (bs:List yF) (S C:List (Int×AV)) (ke:List Int) (i p:Nat) (r:rQ):Prop:=(0 ≤ r.dst→qY S C fun c=>yK bs i (p + 1) c∨c = r.dst)∧(rV r→mC S ke fun c=>yK bs i (p + 1) c∧c ≠ r.dst)∧qY S C (yK bs i p)
noncomputable def BlkOK (bs:List yF) (S C:List (Int×AV)) (ke:List Int) (i:Nat):Prop:=∀ b,bs[i]? = some b→qY S C (yK bs i b.rows.length)∧∀ p r,b.rows[p]? = some r→RowOK bs S C ke i p r
noncomputable def Entry (bs:List yF) (ps:List Int) (S:List (Int×AV)) (c:Int):Prop:=(c∈ps∧c∈S.map (fun p=>p.1))∨yK bs 0 0 c
section
variable {l:Nat} {H H':zA} {Q:AV→zA→Prop} {k:Nat} {S C:List (Int×AV)} {ke:List Int} {bs:List yF} {ps:List Int} {many:Int}
inductive IOC0 (cl:Nat→Addr) (H:zA) (S C:List (Int×AV)) (ke:List Int) (bs:List yF) (ps:List Int) (many:Int) (Lo:Nat→Int→Bool) (s':Nat→Nat) (wx wdx:Addr) (t:Nat) (H':zA) (m':zN):Prop
 | mk:∀ ad A x,H' wx = some (.inst (cl 14) wdx (oN cl S C ke (.ref ad)))→H' ad = some (.idict (tru A))→(x = ("":Str)↔qY S C (Entry bs ps S)∧∀ i,i < t→BlkOK bs S C ke i)→Kp H H'→m' "func" = some (pL cl bs ps many)→m' "live_out" = some (.lst (setL bs.length Lo s'))→m' "watch" = some (.ref wx)→m' "word" = some (.str x)→IOC0 cl H S C ke bs ps many Lo s' wx wdx t H' m'
inductive IOC1 (cl:Nat→Addr) (H:zA) (S C:List (Int×AV)) (ke:List Int) (bs:List yF) (ps:List Int) (many:Int) (Lo:Nat→Int→Bool) (s':Nat→Nat) (wx wdx:Addr) (y0 wh:Str) (ad2:Addr) (cur:Nat→Int→Prop) (Good:Nat→Prop) (s:Nat) (H':zA) (m':zN):Prop
 | mk:∀ A x,H' wx = some (.inst (cl 14) wdx (oN cl S C ke (.ref ad2)))→H' ad2 = some (.idict (tru A))→(x = ("":Str)→A.Nodup∧∀ c,c∈A↔cur s c)→(x = ("":Str)↔y0 = ""∧Good s)→Kp H H'→m' "func" = some (pL cl bs ps many)→m' "live_out" = some (.lst (setL bs.length Lo s'))→m' "watch" = some (.ref wx)→m' "word" = some (.str x)→m' "where" = some (.str wh)→IOC1 cl H S C ke bs ps many Lo s' wx wdx y0 wh ad2 cur Good s H' m'
inductive JOC0 (cl:Nat→Addr) (S C:List (Int×AV)) (ps:List Int) (H2:zA) (t:Nat) (ys:List AV) (H':zA) (m':zN):Prop
 | mk:H' = H2→m' "allocation" = some (encAl cl S C)→∀ F:List Int,ys = iL F→(∀ c,c∈F↔c∈ps.take t∧c∈S.map (fun p=>p.1))→F.length ≤ t→JOC0 cl S C ps H2 t ys H' m'
theorem check_ok (X:xC K ρ.base fa cl mt) (hl:l ≤ 22) {nx:Nat} (B:BOK bs nx) (hps:ps.length ≤ 10) (hpr:∀ c∈ps,0 ≤ c∧c < (50:Nat)) (tS:TB S) (tC:TB C) (hke:(-1:Int) ∉ ke)
  (q:∀ H' x,(x = ("":Str)↔qY S C (Entry bs ps S)∧∀ i,i < bs.length→BlkOK bs S C ke i)→Kp H H'→Q (.str x) H') :
  zE ρ l (.ref (fa 15)) [pL cl bs ps many,encAl cl S C,.lst (iL ke)] H Q:=by
 have X1:=X.toProg2.toProg
 have hlen:=B.len
 have hpos:=B.pos
 have hnx:=B.nxb
 have hlr:∀ {i p c},yK bs i p c→0 ≤ c∧c < (50:Nat):=fun h=>by
  obtain ⟨b,hb,ts,hts,hc⟩:=pD h;have:=xF B hb hts hc;exact ω358 hnx this
 refine zE.fn X.S (zy 1 1 77731217114800464 rfl hl) (X.fn 15 (by decide)).2 rfl (by decide) (fun L qual code hc=>?_) (by
  intro x hx
  have:x = "func"∨x = "allocation"∨x = "kept":=by revert x hx;decide
  rcases this with rfl | rfl | rfl
  ·exact .inl (by rfl)
  ·exact .inr ⟨by rfl,fun n=>by rfl⟩
  ·exact .inl (by rfl))
 refine ST.c ?_
 intro Qc
 refine S1.tup ?_
 refine zO X1 10 ?_
 lk
 refine live_ok X (zy 1 1 0x1141821540162150 rfl hl) B fun H1 Li Lo s s' hLi hLo hsz k1=>?_
 refine AS.tup (xN.cons (AS.name (xN.cons (AS.name (xN.nil ?_)))))
 refine sN ?_
 intro Qc
 refine EX.nC X 14 ?_
 refine yO.cons ?_
 refine EX.cc ?_
 lk
 refine watch_new X (ω361 hl) fun H2 wx wdx n2=>?_
 have hw2:H2 wx = some (.inst (cl 14) wdx (oN cl S C ke (.idct [] []))):=n2.at_
 have hwx0:H wx = none:=Ae fun q=>q (by rw [← k1 wx q];exact n2.x0)
 have k2:Kp H H2:=k1.trans n2.kp
 refine ST.c ?_
 intro Qc
 refine zV (oL X (i:=2) (by decide) ?_)
 refine yG ?_
 refine ⟨wx,wdx,S,C,ke,_,rfl,hw2,yO.cons (yY (vH X.S (cl:=[("allocation",L + 1)]) ["allocation"] (.of (by rfl) (by rfl) (by rfl) (by rfl)) (zQ ?_)))⟩
 lk
 refine xX.Fp X ⟨_,yM.lst,JOC0 cl S C ps H2,⟨rfl,rfl,[],rfl,by simp,by simp⟩,?_,?_⟩
 ·rintro L' t x ys H' m' hx ⟨rfl,u1,F,rfl,f1,f2⟩
  obtain ⟨c,hc',rfl⟩:=yA hx
  have ht:=(Bc.mp hc').1
  have htk:ps.take (t + 1) = ps.take t ++ [c]:=by rw [Cj,hc'];rfl
  refine AS.name ?_
  refine (show TR ρ _ _ _ _ _ _ from zH ?_)
  lk
  refine zQ (EX.cell (by assumption) (by rfl) (by rfl) ?_)
  refine mI X ?_
  refine wK (⟨rfl,rfl⟩:uZ H' (.idct (S.map (fun p=>p.1)) (S.map (fun p=>p.2))) S) ?_
  rw [yV]
  by_cases h:c∈S.map (fun p=>p.1)
  ·rw [Dc h]
   refine yG ?_
   refine ⟨by rw [zP,Cu];exact ω362 hps f2 ht,rfl,u1,F ++ [c],vX ..,fun d=>?_,by rw [Ct,Da];exact ω290 f2⟩
   rw [Cx,Bf,f1,htk,Cx,Bf]
   constructor
   ·rintro (⟨h1,h2⟩ | rfl)
    ·exact ⟨.inl h1,h2⟩
    ·exact ⟨.inr rfl,h⟩
   ·rintro ⟨h1 | h1,h2⟩
    ·exact .inl ⟨h1,h2⟩
    ·exact .inr h1
  ·rw [Dj h]
   refine ⟨rfl,u1,F,rfl,fun d=>?_,ω56 f2⟩
   rw [f1,htk,Cx,Bf]
   constructor
   ·exact fun p1=>p1.rec fun h1 h2=>⟨.inl h1,h2⟩
   ·rintro ⟨h1 | h1,h2⟩
    ·exact ⟨h1,h2⟩
    ·subst h1;exact absurd h2 h
 rintro ys H' m' ⟨rfl,u1,F,rfl,f1,f2⟩
 rw [zP,Dq] at f1
 rw [zP] at f2
 refine .inl ?_
 refine xU X1 (Prog.sorted X1) ?_
 lk
 refine zY.list (show yJ _ (.lst _) _ from rfl) (by decide) (by rw [wR,Cu];exact ω320 hlen hpos) (oT (i:=0) hpos) ?_
 lk
 refine qW ⟨rfl,rfl⟩ (by have:=(hsz 0 hpos).1;exact zy 1 1 77757605412479312 rfl this) fun ns hnd hns hnl U=>.inl ?_
 have hcat:∀ xs ys:List Int,iL xs ++ iL ys = iL (xs ++ ys):=fun xs ys=>by simp [iL]
 refine wL (show yJ _ (.lst _) _ from rfl) (show yJ _ (.lst _) _ from rfl) (by rw [zP,zP,Cu,hnl];have:=(hsz 0 hpos).1;exact zy 4 4 0x11100181000000718620322180872560a1150 rfl hps f2 hnl this) (.inl ?_)
 rw [hcat]
 lk
 refine begin_ok X (ω361 hl) hw2 (fun c hc=>?_) fun H3 ad A hw3 ha3 k3 hA3 hm3 U=>?_
 ·rcases Cx.mp hc with h | h
  ·exact hpr c ((f1 c).mp h).1
  ·exact hlr ((hLi 0 c hpos).mp ((hns c).mpr h))
 have hE:∀ c,c∈A↔Entry bs ps S c:=fun c=>by
  rw [hm3,Cx,f1,← hns,hLi 0 c hpos];rfl
 have hr3:∀ c∈A,0 ≤ c∧c < (50:Nat):=fun c hc=>((hE c).mp hc).elim (fun h=>hpr c h.1) hlr
 have kpw:∀ {H4:zA},Kw wx H' H4→Kp H H4:=fun h a hh=>by
  have e:=k2 a hh
  rw [h a (fun e=>hh (by rw [e];exact hwx0)) (by rw [e];exact hh),e]
 refine sN ?_
 intro Qc
 refine oL X (i:=3) (by decide) ?_
 refine yG ?_
 refine ⟨wx,wdx,S,C,ke,_,rfl,hw3,?_⟩
 lk
 refine nT X (zy 1 1 0x1141c21540162150 rfl hl) hw3 ha3 hA3 hr3 tS tC (show (Str.ofString "at the entry").length ≤ 100 by decide) fun H4 x0 k4 hx0=>?_
 rw [qY.congr hE] at hx0
 have hw4:=k4.at hw3
 have kk4:Kp H H4:=(kpw k3).trans k4
 refine ST.c ?_
 intro Qc
 refine yB (IOC0 cl H S C ke bs ps many Lo s' wx wdx) ?_
 refine xU X1 (Prog.sorted X1) ?_
 refine yO.cons ?_
 refine zO X1 8 ?_
 lk
 refine order_ok X (zy 1 1 0x1141921540162150 rfl hl) B fun H5 po hpn hpm k5=>?_
 lk
 have hpl:=wQ B po hpn fun i hi=>(hpm i).mp hi
 refine zE.sorted (ns:=po.map fun (i:Nat)=>(i:Int)) (show yJ _ (.lst _) _ from rfl) (by rw [Cp];exact zy 1 1 4859850338472272 rfl hpl) fun so hso hsort=>.inl ?_
 have hso':so = uH bs.length:=by
  refine sorted_eq ?_ (iota_sorted _) fun z=>?_
  ·have hnd:so.Nodup:=hso.nodup_iff.mpr (by rw [List.Nodup,List.pairwise_map];exact hpn.imp fun h e=>h (Int.ofNat.inj e))
   exact (hsort.and hnd).imp fun p1=>p1.rec fun h1 h2=>by exact zw 0 2 0 2 0x1141015011100104110010561100105611001037 rfl ‹_› h2
  ·rw [hso.mem_iff,Bm,sG]
   constructor
   ·rintro ⟨i,hi,rfl⟩;have:=(hpm i).mp hi;exact ω180 this
   ·intro h;exact ⟨z.toNat,(hpm _).mpr (zw 1 1 1 3 0x11000100a110000190561520010401001375011611500102 rfl hlen hpos h),ω181 h⟩
 subst hso'
 refine ⟨_,yM.lst,⟨ad,A,x0,k5.at hw4,k5.at (k4.at ha3),by rw [hx0];simp,kk4.trans k5,rfl,rfl,rfl,rfl⟩,?_,?_⟩
 ·rintro i x H6 m6 hx ⟨ad,A,y0,hw,ha,hxe,kp,u1,u2,u3,u4⟩
  obtain ⟨hil,rfl⟩:=iota_at hx
  obtain ⟨b,hb⟩:∃ b,bs[i]? = some b:=⟨_,Ci hil⟩
  have hbm:=Dr hb
  have hrz:=B.rsz b hbm
  have l1:(Str.ofString "in block ").length = 9:=by decide
  have hstr:=tL (a:=(i:Int)) xO (zy 2 3 0x1101640216204561501161150 rfl hlen hpos hil)
  have hglt:∀ {g},g∈gl bs i→g < bs.length:=fun {g} hg=>B.tgt i b hb g (by rw [← tD hb];exact hg)
  refine AS.name ?_
  refine sN0 ?_
  intro Qs Qc
  refine EX.sub (zQ ?_) (by rfl)
  lk
  refine tR X ?_
  lk
  refine zY.list (show yJ _ (.lst _) _ from rfl) xO (by rw [wJ,Cu];exact ω320 hlen hpos) (by rw [Ce];exact pO hb) ?_
  refine sN0 ?_
  intro Qs Qc
  lk
  refine yW X1 (Prog.str X1) ?_
  lk
  refine zE.str (nU (Int.natCast_nonneg i)) (nV (Int.ofNat_lt.mpr (An hil (Ah hlen (by decide))))) (xV (by rw [Cu];exact ω349 l1 hstr) ?_)
  have hwl:(Str.ofString "in block " ++ Str.ofString (toString (i:Int))).length ≤ 100:=by rw [wI];exact zy 2 2 0x1101664216520a116091152 rfl l1 hstr
  generalize Str.ofString "in block " ++ Str.ofString (toString (i:Int)) = wh at hwl ⊢
  refine ST.c0 ?_
  intro Qs Qc
  refine zV (oL X (i:=2) (by decide) ?_)
  refine xH ?_
  refine ⟨wx,wdx,S,C,ke,_,rfl,hw,yO.cons ?_⟩
  refine xU X1 (Prog.sorted X1) ?_
  lk
  refine zY.list (show yJ _ (.lst _) _ from rfl) xO (by rw [wR,Cu];exact ω320 hlen hpos) (oT hil) ?_
  lk
  refine qW ⟨rfl,rfl⟩ (by have:=(hsz i hil).2;exact zy 1 1 77757605412479312 rfl this) fun ns hnd hns hnl U=>.inl ?_
  lk
  refine begin_ok X (ω361 hl) hw (fun c hc=>?_) fun H7 ad2 A2 hw7 ha7 k7 hA7 hm7 had7=>?_
  ·obtain ⟨n,U,h⟩:=(hLo i c hil).mp ((hns c).mpr hc);exact hlr h
  have hA0:∀ c,c∈A2↔∃ n∈gl bs i,yK bs n 0 c:=fun c=>by rw [hm7,← hns,hLo i c hil]
  have kp7:Kp H H7:=fun a hh=>by
   have e:=kp a hh
   rw [k7 a (fun e=>hh (by rw [e];exact hwx0)) (by rw [e];exact hh),e]
  have had0:H ad2 = none:=Ae fun q=>q (by rw [← kp ad2 q];exact had7)
  have hwa2:wx ≠ ad2:=fun e=>by rw [← e,hw] at had7;cases had7
  let cur:Nat→Int→Prop:=fun s c=>if s = 0 then ∃ n∈gl bs i,yK bs n 0 c else yK bs i (b.rows.length + 1 - s) c
  let Good:Nat→Prop:=fun s=>s = 0∨(qY S C (yK bs i b.rows.length)∧∀ p r,b.rows.length + 1 - s ≤ p→b.rows[p]? = some r→RowOK bs S C ke i p r)
  have curr:∀ s c,cur s c→0 ≤ c∧c < (50:Nat):=fun s c h=>by
   by_cases e:s = 0
   ·simp only [cur,Ab e] at h;obtain ⟨n,U,h⟩:=h;exact hlr h
   ·simp only [cur,Aa e] at h;exact hlr h
  have hGmono:∀ s,Good (s + 1)→Good s:=fun s h=>by
   rcases h with h | ⟨h1,h2⟩
   ·exact ω369 h
   ·exact .inr ⟨h1,fun p r hp=>h2 p r (zw 3 0 2 1 0x10001000a10011009010010009101101800790780645406540 rfl hp)⟩
  refine ST.c ?_
  intro Qc
  refine yB (IOC1 cl H S C ke bs ps many Lo s' wx wdx y0 wh ad2 cur Good) (yY (EX.lst (yO.cons (zQ ?_))))
  lk
  refine qC X ?_
  refine yO.nil ⟨pC rfl,pY (zQ ?_)⟩
  lk
  refine qC X ?_
  refine pT.no (pT.no (pT.ex ?_))
  lk
  refine ⟨-1,rfl,by decide,_,_,(show yJ _ (.lst _) _ from rfl),by rw [Cp,Cu];exact ω248 hrz,Pick.rev,.inl ?_⟩
  refine wL (show yJ _ (.lst _) _ from rfl) (show yJ _ (.lst _) _ from rfl) (by rw [List.length_reverse,Cp,Cu];simp;exact zy 1 1 0x114100000071511120642150 rfl hrz) (.inl ?_)
  refine ⟨_,yM.lst,⟨A2,y0,hw7,ha7,fun U=>⟨hA7,fun c=>by rw [hA0 c];simp [cur]⟩,⟨fun h=>⟨h,.inl rfl⟩,fun h=>h.1⟩,kp7,u1,u2,u3,u4,rfl⟩,?_,?_⟩
  ·rintro s x H8 m8 hx ⟨A,x8,h1,h2,h3,h4,h5,v1,v2,v3,v4,v5⟩
   refine AS.name ?_
   have fin:∀ (op:Str) (dst:Int) (ts:List xA) (more:AV) (vol:Bool),x = qP cl op dst ts more vol→ts.length ≤ 10→(∀ c∈zZ ts,0 ≤ c∧c < (50:Nat))→(dst = -1∨(0 ≤ dst∧dst < (50:Nat)))→(∀ c,cur (s + 1) c↔(cur s c∧c ≠ dst)∨c∈zZ ts) →
     (Good (s + 1)↔Good s∧(0 ≤ dst→qY S C fun c=>cur s c∨c = dst)∧((op = Str.ofString "call"∨op = Str.ofString "callreg")→mC S ke fun c=>cur s c∧c ≠ dst)∧qY S C (cur (s + 1))) →
     ST ρ (l + 1) (wN (yR (zJ 15)) L qual (fa 15) code) (inB ((inB ((xD (zJ 15)).drop 4)).drop 3)) H8 (wA m8 "step" x) (onN fun H'' m''=>IOC1 cl H S C ke bs ps many Lo s' wx wdx y0 wh ad2 cur Good (s + 1) H'' m''):=by
    rintro op dst ts more vol rfl hts htr hd hcur hgood
    refine ST.c0 ?_
    intro Qs Qc
    refine zK (zH ?_)
    lk
    refine yI.seq ?_
    by_cases hx8:x8 = ("":Str)
    ·rw [Dc hx8]
     obtain ⟨hAn,hAc⟩:=h3 hx8
     refine sN ?_
     intro Qc
     refine oL X (i:=5) (by decide) ?_
     refine xH ?_
     refine ⟨wx,wdx,S,C,ke,_,rfl,h1,?_⟩
     lk
     refine back_ok X (zy 1 1 0x1141a21540162150 rfl hl) h1 h2 hAn (fun c hc=>curr s c ((hAc c).mp hc)) tS tC hke hwl hts htr hd fun H9 x9 A9 g1 g2 g3 g4 g5 g6=>?_
     have hc9:∀ c,c∈A9↔cur (s + 1) c:=fun c=>by rw [g5 c,hcur c,hAc c]
     refine ST.nil (ST.nil ⟨A9,x9,g1,g2,fun U=>⟨g4,hc9⟩,?_,fun a hh=>?_,v1,v2,v3,rfl,v5⟩)
     ·rw [g6,hgood,qY.congr hc9,qY.congr (A':=fun c=>cur s c∨c = dst) fun c=>by rw [hAc c],show (fun c=>c∈A∧c ≠ dst) = fun c=>cur s c∧c ≠ dst from funext fun c=>by rw [hAc c]]
      have h4':=h4.mp hx8
      exact ⟨fun h=>⟨h4'.1,h4'.2,h⟩,fun h=>h.2.2⟩
     ·have e:=h5 a hh
      rw [g3 a (fun e=>hh (by rw [e];exact had0)) (by rw [e];exact hh),e]
    ·rw [Dj hx8]
     refine ST.nil (ST.nil ⟨A,x8,h1,h2,fun h=>absurd h hx8,⟨fun h=>absurd h hx8,fun h=>absurd (h4.mpr ⟨h.1,hGmono s h.2⟩) hx8⟩,h5,v1,v2,v3,v4,v5⟩)
   have done:∃ (op:Str) (dst:Int) (ts:List xA) (more:AV) (vol:Bool),x = qP cl op dst ts more vol∧ts.length ≤ 10∧(∀ c∈zZ ts,0 ≤ c∧c < (50:Nat))∧(dst = -1∨(0 ≤ dst∧dst < (50:Nat)))∧(∀ c,cur (s + 1) c↔(cur s c∧c ≠ dst)∨c∈zZ ts) ∧
     (Good (s + 1)↔Good s∧(0 ≤ dst→qY S C fun c=>cur s c∨c = dst)∧((op = Str.ofString "call"∨op = Str.ofString "callreg")→mC S ke fun c=>cur s c∧c ≠ dst)∧qY S C (cur (s + 1))):=by
    have rr:∀ ts∈yD b,∀ c∈zZ ts,0 ≤ c∧c < (50:Nat):=fun ts hts c hc=>by have:=xF B hbm hts (yU.mp hc);exact ω358 hnx this
    cases s with
    | zero=>
     have htm:(yS b.c b.v b.e).terms∈yD b:=Cz _ (Bf.mpr rfl)
     have hcur1:∀ c,cur (0 + 1) c↔yK bs i b.rows.length c:=fun c=>by simp [cur]
     refine ⟨(yS b.c b.v b.e).op,-1,(yS b.c b.v b.e).terms,(yS b.c b.v b.e).more,false,?_,B.tsz b hbm _ htm,rr _ htm,.inl rfl,fun c=>?_,?_⟩
     ·have:vS cl b = x:=by simpa using hx
      exact this.symm
     ·rw [hcur1,live_end hb]
      simp only [cur,Ab]
      constructor
      ·rintro (⟨n,hn,h⟩ | h)
       ·exact .inl ⟨⟨n,hn,h⟩,by have:=hlr h;exact zw 0 1 0 1 0x10106111400105632212001040100137 rfl this⟩
       ·exact .inr h
      ·rintro (⟨h,U⟩ | h)
       ·exact .inl h
       ·exact .inr h
     ·rw [qY.congr hcur1]
      constructor
      ·rintro (h | ⟨h1,h2⟩)
       ·exact (zy 0 1 69944279362 rfl h).elim
       ·exact ⟨.inl rfl,fun h=>by exact (zy 0 1 1344611287059 rfl h).elim,fun h=>absurd h (end_call b),h1⟩
      ·rintro ⟨U,U,U,h⟩
       exact .inr ⟨h,fun p r hp hr=>by have:=(Bc.mp hr).1;exact (zw 2 0 1 3 0x100161011609561670642150014540 rfl hrz hp this).elim⟩
    | succ s=>
     have hxs:((b.rows.map (uA cl)).reverse)[s]? = some x:=by simpa using hx
     have hsl:s < b.rows.length:=by have:=(Bc.mp hxs).1;simpa using this
     rw [List.getElem?_reverse (by simpa using hsl),Cp] at hxs
     obtain ⟨r,hr,rfl⟩:=yA hxs
     have hrm:=Dr hr
     have htm:r.terms∈yD b:=Cy _ (Bm.mpr ⟨r,hrm,rfl⟩)
     obtain ⟨p,hp⟩:∃ p,b.rows.length - 1 - s = p:=⟨_,rfl⟩
     rw [hp] at hr
     have hcur0:∀ c,cur (s + 1) c↔yK bs i (p + 1) c:=fun c=>by simp only [cur];rw [Aa (by exact wM 4362163238 rfl),show b.rows.length + 1 - (s + 1) = p + 1 by exact zw 3 0 3 2 0x1000100000c100110000b01100000100000e10100110000d010000100000d1010110010c00011006100010001101e01100611001001101d001100610010001101d0110061101001001c000074a27926515464058011160 rfl hsl hp]
     have hcur1:∀ c,cur (s + 1 + 1) c↔yK bs i p c:=fun c=>by simp only [cur];rw [Aa (by exact wM 69794612262 rfl),show b.rows.length + 1 - (s + 1 + 1) = p by exact zw 3 0 3 2 0x1000100000c100110000b01100000100000e10100110000d010000100000d1010110010c0001000100001c1110010001b10100100001b111010001001d1101001001c00007a279265154464058011160 rfl hsl hp]
     have hrow:=B.row b hbm r hrm
     refine ⟨nop r.op,r.dst,r.terms,r.more,volOf r.op,rfl,B.tsz b hbm _ htm,rr _ htm,by rcases hrow.2 with h | h;exact .inl h;exact .inr ⟨h.1,zw 1 1 0 2 0x110163221200104520010401001372b2150 rfl hnx h⟩,fun c=>?_,?_⟩
     ·rw [hcur1,hcur0,live_row hb hr]
     ·rw [qY.congr hcur1,qY.congr (A':=fun c=>yK bs i (p + 1) c∨c = r.dst) fun c=>by rw [hcur0],show (fun c=>cur (s + 1) c∧c ≠ r.dst) = fun c=>yK bs i (p + 1) c∧c ≠ r.dst from funext fun c=>by rw [hcur0],nop_call r.op hrow.1]
      constructor
      ·rintro (h | ⟨h1,h2⟩)
       ·exact absurd h (Nat.succ_ne_zero _)
       ·have:=h2 p r (zw 4 1 3 3 0x1000100000c1100110000b101100000100000e110100110000d1010000100000d11010110010c10007b08200104010013711140010587a265154464059011160 rfl hsl hp hrow.2) hr
        exact ⟨.inr ⟨h1,fun p' r' hp'=>h2 p' r' (zw 3 0 2 2 0x1105110010000a101100190079078065154464054640 rfl hsl hp')⟩,this.1,this.2.1,this.2.2⟩
      ·rintro ⟨h | ⟨h1,h2⟩,h3,h4,h5⟩
       ·exact ω369 h
       ·refine .inr ⟨h1,fun p' r' hp' hr'=>?_⟩
        by_cases e:p' = p
        ·subst e;rw [hr] at hr';cases hr';exact ⟨h3,h4,h5⟩
        ·exact h2 p' r' (ω666 hsl hp hrow.2 hp' e) hr'
   obtain ⟨op,dst,ts,more,vol,e1,e2,e3,e4,e5,e6⟩:=done
   refine (fin op dst ts more vol e1 e2 e3 e4 e5 e6).mono fun af H' m' h=>?_
   cases af <;> first | exact h | exact h.elim
  ·rintro H8 m8 ⟨A,x8,h1,h2,h3,h4,h5,v1,v2,v3,v4,v5⟩
   refine ST.nil ⟨ad2,A,x8,h1,h2,?_,h5,v1,v2,v3,v4⟩
   rw [h4,hxe]
   simp only [Ct,List.length_reverse,Cp,Cn,List.length_nil,Good]
   constructor
   ·rintro ⟨⟨a1,a2⟩,h⟩
    refine ⟨a1,fun j hj=>?_⟩
    by_cases e:j = i
    ·subst e
     rcases h with h | ⟨h1,h2⟩
     ·exact (zy 1 2 0x104901501422642150 rfl hrz h).elim
     ·intro b' hb';rw [hb] at hb';cases hb'
      exact ⟨h1,fun p r hr=>h2 p r ω668 hr⟩
    ·exact a2 j (tT hj e)
   ·rintro ⟨a1,a2⟩
    have:=a2 i (wM 1266769 rfl) b hb
    exact ⟨⟨a1,fun j hj=>a2 j (ω237 hj)⟩,.inr ⟨this.1,fun p r U hr=>this.2 p r hr⟩⟩
 ·rintro H6 m6 ⟨ad,A,x,hw,ha,hxe,kp,u1,u2,u3,u4⟩
  rw [zP,qM] at hxe
  refine sR ?_;lk
  exact q H6 x hxe kp
end
end
section
structure RIGHT (bs:List yF) (ps:List Int) (S C:List (Int×AV)) (ke:List Int):Prop where
 nam:∀ c,rR bs c→c∈S.map (fun p=>p.1)∨c∈C.map (fun p=>p.1)
 cro:∀ c,(∃ i p,uC bs i p c)→∃ v,seat S c = some v∧v∈ke
 par:∀ a∈ps,∀ b∈ps,a ≠ b→rM S a b
 row:∀ (i p:Nat) (b:yF) (r:rQ) (c:Int),bs[i]? = some b→b.rows[p]? = some r→yK bs i (p + 1) c→r.dst ≠ c→rM S r.dst c
section
variable {l:Nat} {H:zA} {Q:AV→zA→Prop} {k:Nat}
inductive IOD0 (bs:List yF) (ps:List Int) (keys:List Nat) (M:Nat→Nat→List Int) (S C:List (Int×AV)) (ke cr:List Int) (m':zN):Prop
 | mk:m' "blocks" = some (.lst (bs.map wO))→m' "params" = some (.lst (iL ps))→m' "alive" = some (encM bs keys M)→m' "seats" = some (.idct (S.map (fun p=>p.1)) (S.map (fun p=>p.2)))→m' "coming" = some (.idct (C.map (fun p=>p.1)) (C.map (fun p=>p.2)))→m' "saved" = some (.lst (iL ke))→m' "crossing" = some (oJ cr)→IOD0 bs ps keys M S C ke cr m'
inductive IOD1 (S C:List (Int×AV)) (ks:List Int) (MF:zN→Prop) (t:Nat) (H':zA) (m':zN):Prop
 | mk:(∀ c∈ks.take t,c∈S.map (fun p=>p.1)∨c∈C.map (fun p=>p.1))→MF m'→IOD1 S C ks MF t H' m'
inductive IOD2 (S:List (Int×AV)) (ke cr:List Int) (MF:zN→Prop) (t:Nat) (H':zA) (m':zN):Prop
 | mk:(∀ c∈cr.take t,∃ v,seat S c = some v∧v∈ke)→MF m'→IOD2 S ke cr MF t H' m'
inductive IOD3 (MF:zN→Prop) (F:List Int) (pa:Addr) (n:Nat) (H':zA) (m':zN) (In:(Int×Int→Prop)):Prop
 | mk:∀ P:List (Int×Int),H' pa = some (.list (P.map oK))→P.length ≤ n→(∀ x,x∈P↔(x.1∈F∧x.2∈F)∨In x)→MF m'→m' "pairs" = some (.ref pa)→IOD3 MF F pa n H' m' In
inductive IOD4 (bs:List yF) (i p:Nat) (x:Int×Int):Prop
 | mk:∀ b r,bs[i]? = some b→b.rows[p]? = some r→x.1 = r.dst→yK bs i (p + 1) x.2→IOD4 bs i p x
inductive IOD5 (keys:List Nat) (PQ:Nat→zA→zN→(Int×Int→Prop)→Prop) (RW:Nat→Nat→Int×Int→Prop) (t i:Nat) (t2:Nat) (H':zA) (m':zN):Prop
 | mk:PQ (100 + 6000 * t + 60 * t2) H' m' (fun x=>(∃ i∈keys.take t,∃ p,RW i p x)∨∃ p,p < t2∧RW i p x)→m' "at" = some (.int i)→IOD5 keys PQ RW t i t2 H' m'
inductive IOD6 (S:List (Int×AV)) (P:List (Int×Int)) (t:Nat) (H':zA) (m':zN):Prop
 | mk:(∀ x∈P.take t,x.1 ≠ x.2→rM S x.1 x.2)→m' "seats" = some (.idct (S.map (fun p=>p.1)) (S.map (fun p=>p.2)))→IOD6 S P t H' m'
inductive JOD0 (ps:List Int) (S:List (Int×AV)) (H3:zA) (t:Nat) (ys:List AV) (H':zA) (m':zN):Prop
 | mk:H' = H3→m' "seats" = some (.idct (S.map (fun p=>p.1)) (S.map (fun p=>p.2)))→∀ F:List Int,ys = iL F→(∀ c,c∈F↔c∈ps.take t∧c∈S.map (fun p=>p.1))→F.length ≤ t→JOD0 ps S H3 t ys H' m'
inductive JOD1 (H':zA) (F:List Int) (t:Nat) (ys:List AV) (H4:zA) (m':zN):Prop
 | mk:H4 = H'→m' "first" = some (.lst (iL F))→∀ P:List (Int×Int),ys = P.map oK→(∀ x,x∈P↔x.1∈F.take t∧x.2∈F)→P.length ≤ 10 * t→JOD1 H' F t ys H4 m'
inductive JOD2 (F:List Int) (t:Nat) (H4:zA) (a:Int) (s:Nat) (ys:List AV) (H5:zA) (m':zN):Prop
 | mk:H5 = H4→m' "first" = some (.lst (iL F))→m' "one" = some (.int a)→∀ P:List (Int×Int),ys = P.map oK→(∀ x,x∈P↔(x.1∈F.take t∧x.2∈F)∨(x.1 = a∧x.2∈F.take s))→P.length ≤ 10 * t + s→JOD2 F t H4 a s ys H5 m'
inductive JOD3 (M:Nat→Nat→List Int) (i p:Nat) (H6:zA) (r:rQ) (s:Nat) (ys:List AV) (H7:zA) (m':zN):Prop
 | mk:H7 = H6→m' "row" = some (xG r)→(ys = ((M i (p + 1)).take s).map fun c=>oK (r.dst,c))→JOD3 M i p H6 r s ys H7 m'
theorem right_ok (X2:Prog2 K ρ.base fa) (hl:l ≤ 24) {bs:List yF} {nx:Nat} (B:BOK bs nx) {ps:List Int} (hps:ps.length ≤ 10) {keys:List Nat} (hkeys:∀ i,i∈keys↔i < bs.length) (hknd:keys.Nodup) {M:Nat→Nat→List Int} (hM:∀ i p c,At bs i p→(c∈M i p↔yK bs i p c)) (hMn:∀ i p,At bs i p→(M i p).Nodup∧∀ c∈M i p,0 ≤ c∧c < (50:Nat))
  {S C:List (Int×AV)} {ke:List Int} (tS:TB S) (hke:(99:Int) ∉ ke) (q:∀ H' r,(r = true↔RIGHT bs ps S C ke)→Q (.bool r) H') :
  zE ρ l (.ref (fa 41)) [.lst (bs.map wO),.lst (iL ps),encM bs keys M,.idct (S.map (fun p=>p.1)) (S.map (fun p=>p.2)),.idct (C.map (fun p=>p.1)) (C.map (fun p=>p.2)),.lst (iL ke)] H Q:=by
 have X:=X2.toProg
 refine zE.fn X.S (ω216 hl) (X.fn 41 (by decide)).2 rfl (by decide) (fun L qual code hc=>?_) (by
  intro x hx
  have:x = "blocks"∨x = "params"∨x = "alive"∨x = "seats"∨x = "coming"∨x = "saved":=by revert x hx;decide
  rcases this with rfl | rfl | rfl | rfl | rfl | rfl
  ·exact .inl (by rfl)
  ·exact .inl (by rfl)
  ·exact .inl (by rfl)
  ·exact .inr ⟨by rfl,fun n=>by rfl⟩
  ·exact .inl (by rfl)
  ·exact .inl (by rfl))
 have hbl:(bs.map wO).length ≤ sizeLine:=by rw [Cp,Cu];have:=B.len;exact wB this
 have hlen:=B.len
 have hkl:=wQ B keys hknd fun i hi=>(hkeys i).mp hi
 have iS:∀ H':zA,uZ H' (.idct (S.map (fun p=>p.1)) (S.map (fun p=>p.2))) S:=fun U=>⟨rfl,rfl⟩
 have iC:∀ H':zA,uZ H' (.idct (C.map (fun p=>p.1)) (C.map (fun p=>p.2))) C:=fun U=>⟨rfl,rfl⟩
 refine ST.c ?_
 intro Qc
 refine S1.tup ?_
 refine zO X 38 ?_
 lk
 refine beside_ok X2 (ω265 hl) B hps hkeys hknd hM hMn fun H1 ks N cr hnd hks hN hcr hcrm k1=>?_
 refine AS.tup (xN.cons (AS.name (xN.cons (AS.name (xN.nil ?_)))))
 let MF:zN→Prop:=IOD0 bs ps keys M S C ke cr
 refine ST.c ?_
 intro Qc
 refine yB (IOD1 S C ks MF) ?_
 refine yG ?_
 refine ⟨_,yM.idct,⟨fun _ h=>(nomatch h),rfl,rfl,rfl,rfl,rfl,rfl,rfl⟩,?_,?_⟩
 ·rintro t x H2 m2 hx ⟨d1,u1,u2,u3,u4,u5,u6,u7⟩
  obtain ⟨c,hc',rfl⟩:=yA hx
  have htk:ks.take (t + 1) = ks.take t ++ [c]:=by rw [Cj,hc'];rfl
  have ok:c∈S.map (fun p=>p.1)∨c∈C.map (fun p=>p.1)→∀ c∈ks.take (t + 1),c∈S.map (fun p=>p.1)∨c∈C.map (fun p=>p.1):=fun h d hd=>by
   rw [htk] at hd
   rcases Cx.mp hd with h' | h'
   ·exact d1 d h'
   ·rw [Bf.mp h'];exact h
  refine AS.name ?_
  refine ST.c0 ?_
  intro Qs Qc
  refine zK (TR.bool (sC.cons (zH ?_)))
  lk
  refine EX.cell (by assumption) (by rfl) (by rfl) ?_
  refine sU (iS _) ?_
  rw [yV]
  by_cases h1:c∈S.map (fun p=>p.1)
  ·rw [Dc h1]
   exact ST.nil (ST.nil ⟨ok (.inl h1),u1,u2,u3,u4,u5,u6,u7⟩)
  ·rw [Dj h1]
   refine sC.cons (zH ?_)
   lk
   refine sU (iC _) ?_
   rw [yV]
   by_cases h2:c∈C.map (fun p=>p.1)
   ·rw [Dc h2]
    exact ST.nil (ST.nil ⟨ok (.inr h2),u1,u2,u3,u4,u5,u6,u7⟩)
   ·rw [Dj h2]
    refine sC.nil ?_
    refine sR ?_;lk
    exact q _ _ ⟨fun h=>(by cases h),fun h=>((h.nam c ((hks c).mp (Dr hc'))).elim h1 h2).elim⟩
 rintro H2 m2 ⟨d1,u1,u2,u3,u4,u5,u6,u7⟩
 rw [Cp,Dq] at d1
 refine ST.c ?_
 intro Qc
 refine yB (IOD2 S ke cr MF) ?_
 refine xH ?_
 refine ⟨_,yM.idct,⟨by simp,u1,u2,u3,u4,u5,u6,u7⟩,?_,?_⟩
 ·rintro t x H3 m3 hx ⟨d2,u1,u2,u3,u4,u5,u6,u7⟩
  obtain ⟨c,hc',rfl⟩:=yA hx
  have htk:cr.take (t + 1) = cr.take t ++ [c]:=by rw [Cj,hc'];rfl
  have hcc:=(hcrm c).mp (Dr hc')
  refine AS.name ?_
  refine ST.c0 ?_
  intro Qs Qc
  refine zK (zH (qU ?_))
  refine EX.cell (by assumption) (by rfl) (by rfl) ?_
  refine ⟨⟨_,iS _⟩,?_⟩
  lk
  refine zE.get (iS _) ?_
  lk
  rcases tS.seat c with ⟨i,hlk,hi0,hseat,hcS⟩ | ⟨hlk,hseat,hcS⟩
  ·rw [hlk,Option.getD_some]
   refine tH (show yJ _ (.lst _) _ from rfl) ?_
   by_cases hik:i∈ke
   ·rw [Dc hik]
    refine ST.nil (ST.nil ⟨fun d hd=>?_,u1,u2,u3,u4,u5,u6,u7⟩)
    rw [htk] at hd
    rcases Cx.mp hd with h | h
    ·exact d2 d h
    ·rw [Bf.mp h];exact ⟨i,hseat,hik⟩
   ·rw [Dj hik]
    refine sR ?_;lk
    exact q _ _ ⟨fun h=>(by cases h),fun h=>by obtain ⟨v,h1,h2⟩:=h.cro c hcc;rw [hseat] at h1;cases h1;exact absurd h2 hik⟩
  ·rw [hlk,Option.getD_none]
   refine tH (show yJ _ (.lst _) _ from rfl) ?_
   rw [Dj hke]
   refine sR ?_;lk
   exact q _ _ ⟨fun h=>(by cases h),fun h=>by obtain ⟨v,h1,h2⟩:=h.cro c hcc;rw [hseat] at h1;cases h1⟩
 rintro H3 m3 ⟨d2,u1,u2,u3,u4,u5,u6,u7⟩
 rw [Cp,Dq] at d2
 refine ST.c ?_
 intro Qc
 refine S1.name (vH X.S (cl:=[("seats",L + 1)]) ["seats"] (.of (by rfl) (by rfl) (by rfl) (by rfl)) ?_)
 lk
 refine ⟨_,yM.lst,JOD0 ps S H3,⟨rfl,u4,[],rfl,by simp,by simp⟩,?_,?_⟩
 ·rintro L' t x ys H' m' hx ⟨rfl,v1,F,rfl,f1,f2⟩
  obtain ⟨c,hc',rfl⟩:=yA hx
  have ht:=(Bc.mp hc').1
  have htk:ps.take (t + 1) = ps.take t ++ [c]:=by rw [Cj,hc'];rfl
  refine AS.name ?_
  refine (show TR ρ _ _ _ _ _ _ from zH ?_)
  lk
  refine EX.cell (by assumption) (by rfl) (by rfl) ?_
  refine wK (iS _) ?_
  rw [yV]
  by_cases h:c∈S.map (fun p=>p.1)
  ·rw [Dc h]
   refine yG ?_
   refine ⟨by rw [zP,Cu];exact ω362 hps f2 ht,rfl,v1,F ++ [c],vX ..,fun d=>?_,by rw [Ct,Da];exact ω290 f2⟩
   rw [Cx,Bf,f1,htk,Cx,Bf]
   constructor
   ·rintro (⟨h1,h2⟩ | rfl)
    ·exact ⟨.inl h1,h2⟩
    ·exact ⟨.inr rfl,h⟩
   ·rintro ⟨h1 | h1,h2⟩
    ·exact .inl ⟨h1,h2⟩
    ·exact .inr h1
  ·rw [Dj h]
   refine ⟨rfl,v1,F,rfl,fun d=>?_,ω56 f2⟩
   rw [f1,htk,Cx,Bf]
   constructor
   ·exact fun p1=>p1.rec fun h1 h2=>⟨.inl h1,h2⟩
   ·rintro ⟨h1 | h1,h2⟩
    ·exact ⟨h1,h2⟩
    ·subst h1;exact absurd h2 h
 rintro ys H' m' ⟨rfl,v1,F,rfl,f1,f2⟩
 rw [zP,Dq] at f1
 rw [zP] at f2
 refine .inl ?_
 refine ST.c ?_
 intro Qc
 refine S1.comp2 X.S (cl:=[("first",L + 1 + 1)]) ["first"] (.of (by rfl) (by rfl) (by rfl) (by rfl)) (.inl (by rfl)) ?_
 refine EX.cell (show wA m3 "first" _ "first" = some (.lst (iL F)) from rfl) (by rfl) (by rfl) ?_
 refine ⟨_,yM.lst,JOD1 H' F,⟨rfl,rfl,[],rfl,by simp,by simp⟩,?_,?_⟩
 ·rintro L' t x ys H4 m' hx ⟨rfl,v2,P,rfl,p1,p2⟩
  obtain ⟨a,ha,rfl⟩:=yA hx
  have ht:t < 10:=by have:=(Bc.mp ha).1;exact zy 3 3 0x11116a1171671560a1150 rfl hps f2 this
  have htk:F.take (t + 1) = F.take t ++ [a]:=by rw [Cj,ha];rfl
  refine AS.name ?_
  refine EX.cell (by assumption) (by rfl) (by rfl) ?_
  refine ⟨_,yM.lst,JOD2 F t H4 a,⟨rfl,v2,rfl,P,rfl,fun x=>by rw [p1 x];simp,p2⟩,?_,?_⟩
  ·rintro s y ys H5 m' hy ⟨rfl,v2,v3,P,rfl,p1,p2⟩
   obtain ⟨b,hb,rfl⟩:=yA hy
   have hs:s < 10:=by have:=(Bc.mp hb).1;exact zy 3 3 0x11116a1171671560a1150 rfl hps f2 this
   have htk2:F.take (s + 1) = F.take s ++ [b]:=by rw [Cj,hb];rfl
   refine AS.name ?_
   refine EX.tup ?_
   lk
   refine ⟨by rw [Cp,Cu];exact ω271 ht p2 hs,rfl,v2,v3,P ++ [(a,b)],by rw [Bt];rfl,fun x=>?_,by rw [Ct,Da];exact zy 3 1 0x114746a150254076a150250 rfl p2⟩
   rw [Cx,p1 x,Bf,htk2,Cx,Bf]
   constructor
   ·rintro ((h | ⟨h1,h2⟩) | h)
    ·exact .inl h
    ·exact .inr ⟨h1,.inl h2⟩
    ·subst h;exact .inr ⟨rfl,.inr rfl⟩
   ·rintro (h | ⟨h1,h2 | h2⟩)
    ·exact .inl (.inl h)
    ·exact .inl (.inr ⟨h1,h2⟩)
    ·exact .inr (Prod.ext h1 h2)
  ·rintro ys H5 m' ⟨rfl,v2,v3,P,rfl,p1,p2⟩
   rw [zP] at p2
   rw [zP,Dq] at p1
   refine ⟨rfl,v2,P,rfl,fun x=>?_,zy 4 3 0x1111684a1507068a150270560a1150 rfl hps f2 p2⟩
   rw [p1 x,htk,Cx,Bf]
   constructor
   ·rintro (⟨h1,h2⟩ | ⟨h1,h2⟩)
    ·exact ⟨.inl h1,h2⟩
    ·exact ⟨.inr h1,h2⟩
   ·rintro ⟨h1 | h1,h2⟩
    ·exact .inl ⟨h1,h2⟩
    ·exact .inr ⟨h1,h2⟩
 rintro ys H4 m' ⟨rfl,v2,P0,rfl,p1,p2⟩
 rw [zP] at p2
 rw [zP,Dq] at p1
 refine .inr fun pa hpa=>?_
 let PQ:Nat→zA→zN→(Int×Int→Prop)→Prop:=IOD3 MF F pa
 let RW:Nat→Nat→Int×Int→Prop:=IOD4 bs
 refine ST.c ?_
 intro Qc
 refine yB (fun t H' m'=>PQ (100 + 6000 * t) H' m' fun x=>∃ i∈keys.take t,∃ p,RW i p x) ?_
 refine tP (show wA (wA m3 "first" _) "pairs" _ "alive" = _ from u3) (by rfl) (by rfl) ?_
 refine ⟨_,yM.idct,⟨P0,zC,zy 3 3 0x1aa1601177045064212706a15070560a1150 rfl hps f2 p2,fun x=>by rw [p1 x];simp,⟨u1,u2,u3,u4,u5,u6,u7⟩,rfl⟩,?_,?_⟩
 ·rintro t x H5 m5 hx ⟨P,q1,q2,q3,⟨u1,u2,u3,u4,u5,u6,u7⟩,u8⟩
  obtain ⟨i0,hi',rfl⟩:=yA hx
  obtain ⟨i,hi,rfl⟩:=yA hi'
  have ht:t < keys.length:=(Bc.mp hi).1
  have hik:i∈keys:=Dr hi
  obtain ⟨b,hb⟩:∃ b,bs[i]? = some b:=⟨_,Ci ((hkeys i).mp hik)⟩
  have hbm:=Dr hb
  have hrz:=B.rsz b hbm
  have htk:keys.take (t + 1) = keys.take t ++ [i]:=by rw [Cj,hi];rfl
  refine AS.name ?_
  refine ST.c0 ?_
  intro Qs Qc
  refine oV X.S (IOD5 keys PQ RW t i) X.enum (by rfl) (by rfl) (by rfl) ?_
  lk
  refine zY.list (show yJ _ (.lst _) _ from rfl) xO hbl (vQ hb) ?_
  lk
  refine zY.tp rfl ?_
  refine ⟨_,rfl,⟨⟨P,q1,ω276 q2,fun x=>by rw [q3 x];simp,⟨u1,u2,u3,u4,u5,u6,u7⟩,u8⟩,rfl⟩,?_,?_⟩
  ·rintro p y H6 m6 hy ⟨⟨P,q1,q2,q3,⟨u1,u2,u3,u4,u5,u6,u7⟩,u8⟩,u9⟩
   obtain ⟨x,hx,rfl⟩:=sL hy
   obtain ⟨r,hr,rfl⟩:=yA hx
   have hpl:=(Bc.mp hr).1
   have hat:At bs i (p + 1):=⟨b,hb,hpl⟩
   have hMl:(M i (p + 1)).length ≤ 50:=yH (hMn i _ hat).1 (hMn i _ hat).2
   refine AS.tup (xN.cons (AS.name (xN.cons (AS.name (xN.nil ?_)))))
   refine ST.c ?_
   intro Qc
   refine zV (EX.extend ?_)
   refine xH ?_
   refine ⟨⟨_,q1⟩,vH X.S (cl:=[("row",L + 1 + 1 + 1)]) ["row"] (.of (by rfl) (by rfl) (by rfl) (by rfl)) ?_⟩
   lk
   refine zY.idict (sI _ keys _) (xJ keys _ hik) ?_
   lk
   refine xW.add ?_
   have hbd:=B.at_le hat
   refine zY.list (k:=((p:Int) + 1)) (show yJ _ (.lst _) _ from rfl) (ω277 hbd) (by rw [Cp,Bh,Cu];exact ω278 hbd.1 hbd.2) (show _ = some (AV.idct (M i (p + 1)) ((M i (p + 1)).map fun U=>.bool true)) from by
    have:=vP (f:=fun p=>AV.idct (M i p) ((M i p).map fun U=>.bool true)) hat.rng
    exact this) ?_
   refine ⟨_,yM.idct,JOD3 M i p H6 r,⟨rfl,rfl,rfl⟩,?_,?_⟩
   ·rintro L' s x ys H7 m' hx ⟨rfl,w1,rfl⟩
    obtain ⟨c,hc',rfl⟩:=yA hx
    have htk3:(M i (p + 1)).take (s + 1) = (M i (p + 1)).take s ++ [c]:=by rw [Cj,hc'];rfl
    refine AS.name ?_
    refine EX.tup (yO.cons (EX.sub (EX.cell (by assumption) (by rfl) (by rfl) ?_) (by rfl)))
    lk
    refine zY.tp rfl ?_
    refine yO.cons (tP (by rfl) (by rfl) (by rfl) (yO.nil ⟨pC rfl,by rw [Cp,Cs,Cu];exact ω269 hMl,rfl,w1,by rw [htk3,Bt];rfl⟩))
   ·rintro ys H7 m' ⟨rfl,w1,rfl⟩
    rw [Cp,Dq]
    refine .inl (oM q1 (show yJ _ (.lst _) _ from rfl) (by rw [Cp,Cp,Cu];exact zy 6 6 0x117704f17704f113c2f0910000007197206421a0642184032219083c250617704506421227056161150 rfl hkl ht q2 hMl hbd.1 hbd.2) ?_)
    refine ST.nil ⟨⟨P ++ (M i (p + 1)).map fun c=>(r.dst,c),by rw [zC,Bt,Bj];rfl,by rw [Ct,Cp];exact zy 4 2 0x1115743c25061770450642122852032218073c2506177045064212250 rfl q2 hMl,fun x=>?_,⟨u1,u2,u3,u4,u5,u6,u7⟩,u8⟩,u9⟩
    rw [Cx,q3 x]
    have hrw:x∈((M i (p + 1)).map fun c=>(r.dst,c))↔RW i p x:=by
     rw [Bm]
     constructor
     ·rintro ⟨c,hc,rfl⟩;exact ⟨b,r,hb,hr,rfl,(hM i _ c hat).mp hc⟩
     ·rintro ⟨b',r',h1,h2,h3,h4⟩
      rw [hb] at h1;cases h1;rw [hr] at h2;cases h2
      exact ⟨x.2,(hM i _ _ hat).mpr h4,Prod.ext h3.symm rfl⟩
    rw [hrw]
    constructor
    ·rintro ((h | h | ⟨p',hp,h⟩) | h)
     ·exact .inl h
     ·exact .inr (.inl h)
     ·exact .inr (.inr ⟨p',ω237 hp,h⟩)
     ·exact .inr (.inr ⟨p,(wM 1266769 rfl),h⟩)
    ·rintro (h | h | ⟨p',hp,h⟩)
     ·exact .inl (.inl h)
     ·exact .inl (.inr (.inl h))
     ·by_cases e:p' = p
      ·subst e;exact .inr h
      ·exact .inl (.inr (.inr ⟨p',tT hp e,h⟩))
  ·rintro H6 m6 ⟨⟨P,q1,q2,q3,⟨u1,u2,u3,u4,u5,u6,u7⟩,u8⟩,u9⟩
   rw [Cp] at q2
   simp only [Cp] at q3
   refine ST.nil ⟨P,q1,ω285 hrz q2,fun x=>?_,⟨u1,u2,u3,u4,u5,u6,u7⟩,u8⟩
   rw [q3 x,htk]
   constructor
   ·rintro (h | ⟨i',hi',h⟩ | ⟨p,U,h⟩)
    ·exact .inl h
    ·exact .inr ⟨i',Cy _ hi',h⟩
    ·exact .inr ⟨i,by simp,p,h⟩
   ·rintro (h | ⟨i',hi',p,h⟩)
    ·exact .inl h
    ·rcases Cx.mp hi' with h' | h'
     ·exact .inr (.inl ⟨i',h',p,h⟩)
     ·have e:=Bf.mp h'
      subst e
      refine .inr (.inr ⟨p,?_,h⟩)
      obtain ⟨b',r',h1,h2,U⟩:=h
      rw [hb] at h1;cases h1
      exact (Bc.mp h2).1
 rintro H5 m5 ⟨P,q1,q2,q3,⟨u1,u2,u3,u4,u5,u6,u7⟩,u8⟩
 rw [Cp,Cp] at q2
 simp only [Cp,Dq] at q3
 have hP:(∀ x∈P,x.1 ≠ x.2→rM S x.1 x.2)↔RIGHT bs ps S C ke:=by
  constructor
  ·intro h
   refine ⟨fun c hc=>d1 c ((hks c).mpr hc),fun c hc=>d2 c ((hcrm c).mpr hc),fun a ha b hb hne u v h1 h2=>?_,fun i p b r c hb hr hl hne=>?_⟩
   ·have key:∀ c,c∈ps→∀ {u},seat S c = some u→c∈F:=fun c hc u hu=>by
     rw [f1]
     refine ⟨hc,?_⟩
     rcases tS.seat c with ⟨U,U,U,U,h⟩ | ⟨U,h,U⟩
     ·exact h
     ·rw [hu] at h;cases h
    exact h (a,b) ((q3 _).mpr (.inl ⟨key a ha h1,key b hb h2⟩)) hne u v h1 h2
   ·exact h (r.dst,c) ((q3 _).mpr (.inr ⟨i,(hkeys i).mpr (Bc.mp hb).1,p,b,r,hb,hr,rfl,hl⟩)) hne
  ·rintro h ⟨a,b⟩ hx hne
   rcases (q3 _).mp hx with ⟨h1,h2⟩ | ⟨i,U,p,b',r,hb,hr,e,hl⟩
   ·exact h.par a ((f1 a).mp h1).1 b ((f1 b).mp h2).1 hne
   ·dsimp only at e hl hne ⊢
    subst e
    exact h.row i p b' r b hb hr hl hne
 refine ST.take (x:="pairs") u8 (wH.list q1) ?_
 refine ST.c ?_
 intro Qc
 refine yB (IOD6 S P) ?_
 refine yG ?_
 refine ⟨_,yM.lst,⟨by simp,u4⟩,?_,?_⟩
 ·rintro t x H6 m6 hx ⟨d3,u4⟩
  obtain ⟨⟨a,b⟩,hab,rfl⟩:=yA hx
  have habm:=Dr hab
  have htk:P.take (t + 1) = P.take t ++ [(a,b)]:=by rw [Cj,hab];rfl
  have ok:(a ≠ b→rM S a b)→∀ x∈P.take (t + 1),x.1 ≠ x.2→rM S x.1 x.2:=fun h x hx=>by
   rw [htk] at hx
   rcases Cx.mp hx with h' | h'
   ·exact d3 x h'
   ·rw [Bf.mp h'];exact h
  refine AS.tup (xN.cons (AS.name (xN.cons (AS.name (xN.nil ?_)))))
  refine ST.c ?_
  intro Qc
  refine zK (TR.bool (sC.cons (zH ?_)))
  lk
  refine yI.ne ?_
  by_cases hne:a = b
  ·rw [Dj (by simpa using hne)]
   exact ST.nil (ST.nil ⟨ok fun h=>absurd hne h,u4⟩)
  rw [Dc hne]
  refine sC.cons (zH ?_)
  lk
  refine EX.cell (by assumption) (by rfl) (by rfl) ?_
  refine wK (iS _) ?_
  rw [yV]
  rcases tS.seat a with ⟨u,hla,U,hsa,haS⟩ | ⟨hla,hsa,haS⟩
  ·rw [Dc haS]
   refine sC.cons (zH ?_)
   lk
   refine EX.cell (by assumption) (by rfl) (by rfl) ?_
   refine wK (iS _) ?_
   rw [yV]
   rcases tS.seat b with ⟨v,hlb,U,hsb,hbS⟩ | ⟨hlb,hsb,hbS⟩
   ·rw [Dc hbS]
    refine sC.cons (zH ?_)
    refine EX.sub (EX.cell (by assumption) (by rfl) (by rfl) ?_) (by rfl)
    lk
    refine zY.idict (iS _) hla ?_
    refine EX.sub (EX.cell (by assumption) (by rfl) (by rfl) ?_) (by rfl)
    lk
    refine zY.idict (iS _) hlb ?_
    refine wY ?_
    by_cases huv:u = v
    ·rw [Dc huv]
     refine sC.nil ?_
     refine sR ?_;lk
     exact q _ _ ⟨fun h=>(by cases h),fun h=>absurd huv (hP.mpr h (a,b) habm hne u v hsa hsb)⟩
    ·rw [Dj huv]
     exact ST.nil (ST.nil ⟨ok fun U u' v' h1 h2=>(by rw [hsa] at h1;rw [hsb] at h2;cases h1;cases h2;exact huv),u4⟩)
   ·rw [Dj hbS]
    exact ST.nil (ST.nil ⟨ok fun U u' v' h1 h2=>(by rw [hsb] at h2;cases h2),u4⟩)
  ·rw [Dj haS]
   exact ST.nil (ST.nil ⟨ok fun U u' v' h1 h2=>(by rw [hsa] at h1;cases h1),u4⟩)
 ·rintro H6 m6 ⟨d3,u4⟩
  rw [Cp,Dq] at d3
  refine sR ?_;lk
  exact q _ _ ⟨fun U=>hP.mp d3,fun U=>rfl⟩
end
end
section
theorem BS.each {many nx:Nat} {k0:List Int} {bs:List yF} (h:BS many nx k0 bs):∀ b∈bs,∃ K0,BLK K0 nx b:=by
 cases bs with
 | nil=>simp
 | cons b0 rest=>
  intro b hb
  rcases Be.mp hb with rfl | hb
  ·exact ⟨_,h.1⟩
  ·exact ⟨_,h.2.2 b hb⟩
theorem shapes_len:∀ es∈vT,es.length ≤ 6∧0 < es.length:=by decide
theorem shapes_tgt:∀ es∈vT,∀ e∈es,∀ n∈yN e,n < es.length:=by decide
theorem shapes_reach:∀ es∈vT,∀ i < es.length,i = 0∨((List.range i).any fun j=>(es[j]?.map fun e=>decide (i∈yN e)).getD false) = true:=by decide
theorem bok_of {many nx:Nat} {k0:List Int} {bs:List yF} (h:BS many nx k0 bs) (hs:bs.map (fun p=>p.e)∈vT) (hn:nx ≤ 43):BOK bs nx:=by
 have hl:=shapes_len _ hs
 rw [Cp] at hl
 refine ⟨hl.1,hl.2,fun i b hb n hg=>?_,fun i h0 hi=>?_,fun b hb=>?_,fun b hb r hr=>?_,fun b hb ts hts t ht=>?_,fun b hb ts hts=>?_,fun b hb=>?_,hn⟩
 ·have:=shapes_tgt _ hs b.e (Bm.mpr ⟨b,Dr hb,rfl⟩) n hg
  rwa [Cp] at this
 ·have:=(shapes_reach _ hs i (by rw [Cp];exact hi)).resolve_left (zy 1 1 282918440554513 rfl h0)
  refine sealG ?_
  intro Gs
  obtain ⟨j,hj,he⟩:=Bp.mp this
  rw [Bg,Option.map_map] at he
  cases hb:bs[j]? with
  | none=>rw [hb] at he;cases he
  | some b=>rw [hb] at he;exact ⟨j,b,Cg.mp hj,hb,by simpa using he⟩
 ·refine sealG ?_
  intro Gs
  obtain ⟨K0,hB⟩:=h.each b hb;exact hB.rsz
 ·refine sealG ?_
  intro Gs
  obtain ⟨K0,hB⟩:=h.each b hb
  obtain ⟨i,hi⟩:=Dt.mp hr
  have:=hB.rok i r hi
  exact ⟨this.op,this.dst⟩
 ·obtain ⟨K0,hB⟩:=h.each b hb
  rcases Cx.mp hts with h' | h'
  ·obtain ⟨r,hr,rfl⟩:=Bm.mp h'
   obtain ⟨i,hi⟩:=Dt.mp hr
   exact ((hB.rok i r hi).terms t ht).imp_left fun p1=>p1.elim fun a p2=>p2.elim fun U p3=>p3.elim fun b c=>⟨a,b,c⟩
  ·rw [Bf.mp h'] at ht
   have hc:=hB.c0
   have hc':=hB.cn
   cases he:b.e <;> rw [he] at ht <;> simp only [yS] at ht
   case on=>simp at ht
   all_goals
    rw [Bf.mp ht];exact .inl ⟨rfl,hc,hc'⟩
 ·obtain ⟨K0,hB⟩:=h.each b hb
  rcases Cx.mp hts with h' | h'
  ·obtain ⟨r,hr,rfl⟩:=Bm.mp h'
   obtain ⟨i,hi⟩:=Dt.mp hr
   exact (hB.rok i r hi).tl
  ·rw [Bf.mp h']
   cases b.e <;> simp [yS]
 ·refine sealG ?_
  intro Gs
  obtain ⟨K0,hB⟩:=h.each b hb;exact hB.v0
noncomputable def Stand (many:Nat) (b0:yF) (bs:List yF) (i p:Nat) (c:Int):Prop:=∃ b,bs[i]? = some b∧((i = 0∧Def (uH many) (b0.rows.take p) c)∨(0 < i∧(Def (uH many) b0.rows c∨∃ r∈b.rows.take p,r.dst = c)))
theorem live_stand {many nx:Nat} {k0:List Int} {b0:yF} {rest:List yF} (h:BS many nx k0 (b0 :: rest)) (ht:∀ (i:Nat) (b:yF),(b0 :: rest)[i]? = some b→∀ n∈yN b.e,n < (b0 :: rest).length) {i p:Nat} {c:Int} (hl:yK (b0 :: rest) i p c):Stand many b0 (b0 :: rest) i p c:=by
 obtain ⟨h0,hk,hr⟩:=h
 have hdef:∀ {K0:List Int} {b:yF} {p:Nat} {ts:List xA} {c:Int},BLK K0 nx b→(yD b)[p]? = some ts→((Str.ofString "r",c):xA)∈ts→Def K0 (b.rows.take p) c:=fun {K0 b p ts c} hB hts hm=>by
  unfold yD at hts
  by_cases hp:p < b.rows.length
  ·rw [List.getElem?_append_left (by rw [Cp];exact hp),Bg,Bi] at hts
   obtain ⟨r,hr,rfl⟩:=hts
   rcases (hB.rok p r hr).terms _ hm with h | h
   ·exact h.2.1
   ·exact absurd h (show ¬ Str.ofString "r" = Str.ofString "k" by decide)
  ·rw [List.getElem?_append_right (by rw [Cp];exact ω39 hp)] at hts
   have hts':ts = (yS b.c b.v b.e).terms:=by
    have:=Dr hts;exact Bf.mp this
   rw [List.take_of_length_le (ω39 hp)]
   rw [hts'] at hm
   have:c = b.c:=by
    cases he:b.e <;> rw [he] at hm <;> simp only [yS] at hm
    case on=>simp at hm
    all_goals
     exact congrArg Prod.snd (Bf.mp hm)
   rw [this];exact hB.cd
 induction hl with
 | @use i p b ts c hb hts hm=>
  refine ⟨b,hb,?_⟩
  cases i with
  | zero=>cases hb;exact .inl ⟨rfl,hdef h0 hts hm⟩
  | succ i=>
   have hbm:b∈rest:=Dr (by simpa using hb)
   refine .inr ⟨(wM 20267025 rfl),?_⟩
   rcases hdef (hr b hbm) hts hm with h | h
   ·exact .inl (hk c h)
   ·exact .inr h
 | @step i p b r c hb hrow hd _ ih=>
  obtain ⟨b',hb',ih⟩:=ih
  rw [hb] at hb';cases hb'
  have htk:b.rows.take (p + 1) = b.rows.take p ++ [r]:=by rw [Cj,hrow];rfl
  refine ⟨b,hb,?_⟩
  rcases ih with ⟨rfl,ih⟩ | ⟨hi,ih⟩
  ·cases hb
   refine .inl ⟨rfl,?_⟩
   rcases ih with h | ⟨r',h,e⟩
   ·exact .inl h
   ·rw [htk] at h
    rcases Cx.mp h with h | h
    ·exact .inr ⟨r',h,e⟩
    ·rw [Bf.mp h] at e;exact absurd e hd
  ·refine .inr ⟨hi,ih.imp_right fun p1=>p1.elim fun r' p2=>p2.elim fun h e=>?_⟩
   rw [htk] at h
   rcases Cx.mp h with h | h
   ·exact ⟨r',h,e⟩
   ·rw [Bf.mp h] at e;exact absurd e hd
 | @jump i n b c hb hn _ ih=>
  obtain ⟨bn,hbn,ih⟩:=ih
  have hD:Def (uH many) b0.rows c:=by
   rcases ih with ⟨U,h | ⟨r,h,U⟩⟩ | ⟨U,h | ⟨r,h,U⟩⟩
   ·exact .inl h
   ·simp at h
   ·exact h
   ·simp at h
  refine ⟨b,hb,?_⟩
  cases i with
  | zero=>cases hb;exact .inl ⟨rfl,by rw [Dq];exact hD⟩
  | succ i=>exact .inr ⟨(wM 20267025 rfl),.inl hD⟩
theorem rT {many nx:Nat} {k0:List Int} {bs:List yF} (h:BS many nx k0 bs) (hs:bs.map (fun p=>p.e)∈vT) (hn:nx ≤ 43) {c:Int} (hl:yK bs 0 0 c):0 ≤ c∧c < many:=by
 have B:=bok_of h hs hn
 cases bs with
 | nil=>have:=B.pos;simp at this
 | cons b0 rest=>
  refine sealG ?_
  intro Gs
  obtain ⟨b,hb,h'⟩:=live_stand h B.tgt hl
  rcases h' with ⟨U,h' | ⟨r,hr,U⟩⟩ | ⟨h',U⟩
  ·exact sG.mp h'
  ·simp at hr
  ·exact absurd h' (Ar 0)
theorem law_plain {many nx:Nat} {k0:List Int} {bs:List yF} (h:BS many nx k0 bs) (hs:bs.map (fun p=>p.e)∈vT) (hn:nx ≤ 43) {ps:List Int} (hps:∀ c,c∈ps↔0 ≤ c∧c < (many:Int)) {S C:List (Int×AV)} {ke:List Int} (tS:TB S) (dj:Disj S C) :
  RIGHT bs ps S C ke↔qY S C (Entry bs ps S)∧∀ i,i < bs.length→BlkOK bs S C ke i:=by
 have B:=bok_of h hs hn
 have seatS:∀ {c u},seat S c = some u→c∈S.map (fun p=>p.1):=fun {c u} hu=>by
  rcases tS.seat c with ⟨U,U,U,U,h⟩ | ⟨U,h,U⟩
  ·exact h
  ·rw [hu] at h;cases h
 have seatC:∀ {c u},seat S c = some u→c ∉ C.map (fun p=>p.1):=fun hu=>dj _ (seatS hu)
 constructor
 ·intro R
  have placed:∀ c,rR bs c→c ∉ C.map (fun p=>p.1)→c∈S.map (fun p=>p.1):=fun c hc hC=>(R.nam c hc).resolve_right hC
  have good:∀ i,i < bs.length→∀ a b,yK bs i 0 a→yK bs i 0 b→a ≠ b→rM S a b:=by
   have fwd:∀ (i:Nat) (b:yF),bs[i]? = some b→(∀ x y,yK bs i 0 x→yK bs i 0 y→x ≠ y→rM S x y)→∀ p,p ≤ b.rows.length→∀ x y,yK bs i p x→yK bs i p y→x ≠ y→rM S x y:=by
    intro i b hb h0 p
    induction p with
    | zero=>exact fun U=>h0
    | succ p ih=>
     intro hp x y hx hy hne
     obtain ⟨r,hr⟩:∃ r,b.rows[p]? = some r:=⟨_,Ci (ω15 hp)⟩
     by_cases e1:r.dst = x
     ·subst e1;exact R.row i p b r y hb hr hy hne
     ·by_cases e2:r.dst = y
      ·subst e2;exact (R.row i p b r x hb hr hx (Ne.symm hne)).symm
      ·exact ih (ω16 hp) x y (.step hb hr e1 hx) (.step hb hr e2 hy) hne
   refine pN B (S:=fun i=>∀ a b,yK bs i 0 a→yK bs i 0 b→a ≠ b→rM S a b) (fun a b ha hb hne=>R.par a ((hps a).mpr (rT h hs hn ha)) b ((hps b).mpr (rT h hs hn hb)) hne) fun j b hb hj n hg x y hx hy hne=>?_
   exact fwd j b hb hj b.rows.length (Ag _) x y (.jump hb hg hx) (.jump hb hg hy) hne
  have goodp:∀ (i:Nat) (b:yF),bs[i]? = some b→∀ p,p ≤ b.rows.length→∀ x y,yK bs i p x→yK bs i p y→x ≠ y→rM S x y:=by
   intro i b hb p
   induction p with
   | zero=>exact fun U=>good i (Bc.mp hb).1
   | succ p ih=>
    intro hp x y hx hy hne
    obtain ⟨r,hr⟩:∃ r,b.rows[p]? = some r:=⟨_,Ci (ω15 hp)⟩
    by_cases e1:r.dst = x
    ·subst e1;exact R.row i p b r y hb hr hy hne
    ·by_cases e2:r.dst = y
     ·subst e2;exact (R.row i p b r x hb hr hx (Ne.symm hne)).symm
     ·exact ih (ω16 hp) x y (.step hb hr e1 hx) (.step hb hr e2 hy) hne
  have okl:∀ (i:Nat) (b:yF),bs[i]? = some b→∀ p,p ≤ b.rows.length→qY S C (yK bs i p):=fun i b hb p hp=>⟨fun c hc=>placed c (uF B hc),fun x y hx hy hne U U=>goodp i b hb p hp x y hx hy hne⟩
  refine ⟨⟨fun c hc hC=>?_,fun x y hx hy hne U U=>?_⟩,fun i hi b hb=>⟨okl i b hb _ (Ag _),fun p r hr=>?_⟩⟩
  ·rcases hc with h | h
   ·exact h.2
   ·exact placed c (uF B h) hC
  ·have key:∀ z,Entry bs ps S z→z∈ps:=fun z hz=>hz.elim (fun p=>p.1) fun h'=>(hps z).mpr (rT h hs hn h')
   exact R.par x (key x hx) y (key y hy) hne
  ·have hp:=(Bc.mp hr).1
   have hbm:=Dr hb
   refine ⟨fun h0=>⟨fun c hc hC=>?_,fun x y hx hy hne U U=>?_⟩,fun hcl c p1=>p1.rec fun hc hd=>R.cro c ⟨i,p,b,r,hb,hr,hcl,hc,hd⟩,okl i b hb p (zy 2 1 4637132369 rfl hp)⟩
   ·rcases hc with h' | rfl
    ·exact placed c (uF B h') hC
    ·exact placed r.dst ⟨h0,b,hbm,.inl ⟨r,Dr hr,rfl⟩⟩ hC
   ·rcases hx with hx | rfl <;> rcases hy with hy | rfl
    ·exact goodp i b hb (p + 1) hp x y hx hy hne
    ·exact (R.row i p b r x hb hr hx (Ne.symm hne)).symm
    ·exact R.row i p b r y hb hr hy hne
    ·exact absurd rfl hne
 ·rintro ⟨hE,hB⟩
  refine ⟨fun c hc=>?_,fun c ⟨i,p,b,r,hb,hr,hcl,hl,hd⟩=>?_,fun a ha b hb hne u v h1 h2=>?_,fun i p b r c hb hr hl hne u v h1 h2=>?_⟩
  ·refine Ae fun hno=>?_
   have hS:c ∉ S.map (fun p=>p.1):=fun h'=>hno (.inl h')
   have hC:c ∉ C.map (fun p=>p.1):=fun h'=>hno (.inr h')
   obtain ⟨h0,b,hbm,h'⟩:=hc
   obtain ⟨i,hb⟩:=Dt.mp hbm
   have hil:=(Bc.mp hb).1
   obtain ⟨hend,hrows⟩:=hB i hil b hb
   rcases h' with ⟨r,hr,rfl⟩ | ⟨ts,hts,hm⟩
   ·obtain ⟨p,hp⟩:=Dt.mp hr
    exact hS (((hrows p r hp).1 h0).1 r.dst (.inr rfl) hC)
   ·obtain ⟨p,hp⟩:=Dt.mp hts
    have hl:yK bs i p c:=.use hb hp hm
    have hpl:p < b.rows.length + 1:=by have:=(Bc.mp hp).1;simpa [yD] using this
    by_cases e:p = b.rows.length
    ·subst e;exact hS (hend.1 c hl hC)
    ·obtain ⟨r,hr⟩:∃ r,b.rows[p]? = some r:=⟨_,Ci (tT hpl e)⟩
     exact hS ((hrows p r hr).2.2.1 c hl hC)
  ·exact ((hB i (Bc.mp hb).1 b hb).2 p r hr).2.1 hcl c ⟨hl,hd⟩
  ·exact hE.2 a b (.inl ⟨ha,seatS h1⟩) (.inl ⟨hb,seatS h2⟩) hne (seatC h1) (seatC h2) u v h1 h2
  ·have h0:0 ≤ r.dst:=(tS.rg _ (seatS h1)).1
   exact (((hB i (Bc.mp hb).1 b hb).2 p r hr).1 h0).2 r.dst c (.inr rfl) (.inl hl) hne (seatC h1) (seatC h2) u v h1 h2
end
section
section
variable {l:Nat} {H H':zA} {k:Nat}
theorem rng_map (a b:Nat):wC (a:Int) (b:Int) = iL ((List.range (b - a)).map fun (i:Nat)=>(a:Int) + i):=by
 unfold wC iL;rw [Bj,show ((b:Int) - a).toNat = b - a by exact ω670];rfl
noncomputable def vW (a:Nat):List Int:=(List.range 50).map fun (i:Nat)=>(a:Int) + i
theorem rA {a:Nat} {c:Int}:c∈vW a↔(a:Int) ≤ c∧c < a + 50:=by
 unfold vW;rw [Bm]
 constructor
 ·rintro ⟨i,hi,rfl⟩;have:=Cg.mp hi;exact zy 2 1 0x1141040322620352062024520620262037322151 rfl this
 ·intro h;exact ⟨(c - a).toNat,Cg.mpr (zw 1 1 1 1 0x110000811001703221613225203010401052037520010302 rfl h),zw 1 1 1 1 0x11001081100070100100810100700010620520253225203010401052037520010302 rfl h⟩
theorem oH (a:Nat):(vW a).Nodup:=by
 unfold vW;rw [List.Nodup,List.pairwise_map]
 exact List.nodup_range.imp fun h e=>h (zy 3 1 0x110510150762720520262052025 rfl e)
theorem rB (a:Nat):(vW a).length = 50:=by simp [vW]
theorem rU:∀ x∈KEPT,(9:Int) ≤ x∧x ≤ 27:=by decide
theorem Well.kp {wl nu:Addr} (W:Well H wl nu k) (h:Kp H H'):Well H' wl nu k:=by
 refine sealG ?_
 intro Gs
 obtain ⟨ns,p,e1,e2,e3⟩:=W.ex
 exact ⟨W.ne,ns,p,h.at e1,h.at e2,e3⟩
inductive IOF0 (wl nu:Addr) (nx:Nat) (bs:List yF) (ps:List Int) (keys:List Nat) (M:Nat→Nat→List Int) (ke:List Int) (k5:Nat) (sa ca:Addr) (t:Nat) (H':zA) (m':zN):Prop
 | mk:∀ k' S C,Well H' wl nu k'→k' ≤ k5 + 1 + 3 * t→H' sa = some (.idict S)→H' ca = some (.idict C)→TB S→TB C→Disj S C→m' "well" = some (.ref wl)→m' "seats" = some (.ref sa)→m' "coming" = some (.ref ca)→m' "many" = some (.int nx)→m' "blocks" = some (.lst (bs.map wO))→m' "params" = some (.lst (iL ps))→m' "alive" = some (encM bs keys M)→m' "kept" = some (.lst (iL ke))→IOF0 wl nu nx bs ps keys M ke k5 sa ca t H' m'
inductive JOF0 (H:zA) (t:Nat) (ys:List AV) (H':zA) (m':zN):Prop
 | mk:H' = H→∀ F:List Int,ys = iL F→F.length = t→(∀ x∈F,0 ≤ x∧x < 2 ^ 31)→JOF0 H t ys H' m'
theorem law_ok (X:xC K ρ.base fa cl mt) (hl:l ≤ 20) {ns:List Int} (hns:ns.length ≤ 63) {L:Addr} {qual:Str} {fx:Addr} {code:Value} {m:zN} (hm:m "script" = some (.lst (iL ns))) :
  ST ρ l (wN (yR (zJ 42)) L qual fx code) (xD (zJ 42)) H m fun af U U=>af = .ret (.bool true):=by
 have X1:=X.toProg2.toProg
 have hcat:∀ xs ys:List Int,iL xs ++ iL ys = iL (xs ++ ys):=fun xs ys=>by simp [iL]
 refine ST.c ?_
 intro Qc
 refine S1.name (xQ (yO.cons (EX.boo (BOO.two ?_))))
 refine vH X.S (cl:=[]) [] (.of (by rfl) (by rfl) (by rfl) (by rfl)) (pY ?_)
 refine xH ?_
 refine pT.no (pT.ex ?_)
 lk
 refine ⟨_,rfl,pT.no ⟨by nofun,_,_,(show yJ _ (.lst _) _ from rfl),by rw [zP,Cu];exact zy 1 1 0x114100000071503f2150 rfl hns,pS 60,.inl ?_⟩⟩
 rw [show (iL ns).take 60 = iL (ns.take 60) by unfold iL;rw [List.map_take]]
 refine ⟨_,yM.lst,JOF0 H,⟨rfl,[],rfl,rfl,by simp⟩,?_,?_⟩
 ·rintro L' t x ys H' m' hx ⟨rfl,F,rfl,f1,f2⟩
  have ht:=(Bc.mp hx).1
  rw [zP,Cs] at ht
  refine sealG ?_
  intro Gs
  obtain ⟨c,hc',rfl⟩:=yA hx
  refine AS.name ?_
  lk
  refine xW.mod (by decide) ⟨by rw [zP,Cu];exact zw 3 0 1 3 0x11010101a11000101a0100000071608717623f215053c211 rfl hns f1 ht,rfl,F ++ [c % 2147483647],vX ..,by rw [Ct,Da];exact zy 2 1 0x11051015064542652 rfl f1,fun x hx=>?_⟩
  rcases Cx.mp hx with h | h
  ·exact f2 x h
  ·rw [Bf.mp h];exact mod_small (by decide) (by decide)
 have tail:∀ (H1:zA) (wl nu:Addr),Well H1 wl nu 0→ST ρ l (wN (yR (zJ 42)) L qual fx code) ((xD (zJ 42)).drop 1) H1 (wA m "well" (.ref wl)) fun af U U=>af = .ret (.bool true):=by
  intro H1 wl nu W1
  refine ST.c ?_
  intro Qc
  refine S1.tup ?_
  refine zO X1 32 ?_
  lk
  refine xU X1 (Prog.len X1) ?_
  lk
  refine zE.len (show yJ _ (.lst _) _ from rfl) (by rw [zP,Cu];exact zy 1 1 0x114100000071503f2150 rfl hns) ?_
  rw [zP]
  lk
  refine program_ok X.toProg2 (ω381 hl) W1 (by decide) (zy 1 1 77797187815154000 rfl hns) fun H2 k2 nx many bs k0 ps temps saved av W2 hk2 hBS hmn hnx hm1 hm2 hsh hps hpl htn htr hsn hsr=>?_
  refine AS.tup (xN.cons (AS.name (xN.cons (AS.name (xN.cons (AS.name (xN.cons (AS.name (xN.cons (AS.name (xN.cons (AS.name (xN.nil ?_)))))))))))))
  have B:=bok_of hBS hsh hnx
  refine sN ?_
  intro Qc
  refine zO X1 36 ?_
  lk
  refine alive_ok X1 (ω381 hl) B fun H3 keys M hkeys hknd hM hMn k3=>?_
  refine ST.c ?_
  intro Qc
  refine S1.tup ?_
  refine zO X1 38 ?_
  lk
  refine beside_ok X.toProg2 (ω383 hl) B (ω384 hm1 hm2 hpl) hkeys hknd hM hMn fun H4 ks N cr hnd hks hN hcr hcrm k4=>?_
  refine AS.tup (xN.cons (AS.name (xN.cons (AS.name (xN.nil ?_)))))
  have W4:=(W2.kp k3).kp k4
  have hsl:saved.length ≤ 100:=by
   have:=yH (N:=100) hsn fun c hc=>by have:=rU c (hsr c hc);exact zw 0 1 0 1 0x101511050642120010401001371b21010301091137 rfl this
   exact this
  have htl:temps.length ≤ 100:=yH (N:=100) htn fun c hc=>by rcases htr c hc with rfl | rfl | rfl | rfl <;> exact ⟨by decide,by decide⟩
  refine sN ?_
  intro Qc
  lk
  refine yW X1 (Prog.list X1) ?_
  refine yO.cons ?_
  refine yW X1 (Prog.range X1) ?_
  lk
  refine sV ?_
  lk
  refine uP (vC (by decide) (by decide) (by decide) (by decide)) (qH (by decide) (by decide)) (by decide) (.inl ?_)
  rw [show wC 40 90 = iL (vW 40) from rng_map 40 90]
  refine wL (show yJ _ (.lst _) _ from rfl) (show yJ _ (.lst _) _ from rfl) (by rw [zP,zP,rB,Cu];exact zy 1 1 0x114100000071322530642150 rfl hsl) (.inl ?_)
  rw [hcat]
  have keN:(saved ++ vW 40).Nodup:=by
   rw [Di]
   exact ⟨hsn,oH 40,fun a ha b hb e=>by have k1:=rU a (hsr a ha);have:=rA.mp hb;exact zw 0 2 0 3 0x101107932228212031104110282120371b210103010911371100105 rfl e k1 this⟩
  have keR:∀ x∈saved ++ vW 40,(9 ≤ x∧x ≤ 27)∨(40 ≤ x∧x < 90):=fun x hx=>by
   refine sealG ?_
   intro Gs
   rcases Cx.mp hx with h | h
   ·exact .inl (rU x (hsr x h))
   ·have:=rA.mp h;exact zw 0 1 0 1 0x10151105015a2101040102821371b2101030109113783222821203010401028212037 rfl this
  have loN:(temps ++ vW 90).Nodup:=by
   rw [Di]
   exact ⟨htn,oH 90,fun a ha b hb e=>by have:=rA.mp hb;rw [← e] at this;rcases htr a ha with rfl | rfl | rfl | rfl <;> exact absurd this.1 (by decide)⟩
  have loR:∀ x∈temps ++ vW 90,(28 ≤ x∧x ≤ 31)∨(90 ≤ x∧x < 140):=fun x hx=>by
   refine sealG ?_
   intro Gs
   rcases Cx.mp hx with h | h
   ·refine sealG ?_
    intro Gs
    rcases htr x h with h | h | h | h <;> omega
   ·have:=rA.mp h;exact zw 0 1 0 1 0x10151105018c2101040105a21371f2101030101c213783225a2120301040105a212037 rfl this
  have keL:(saved ++ vW 40).length = saved.length + 50:=by rw [Ct,rB]
  have loL:(temps ++ vW 90).length = temps.length + 50:=by rw [Ct,rB]
  generalize saved ++ vW 40 = ke at keN keR keL ⊢
  refine ST.c ?_
  intro Qc
  refine sM (EX.tup (yO.cons ?_)) (.inl (by rfl)) (.inl (by rfl))
  refine zO X1 39 ?_
  lk
  refine yW X1 (Prog.list X1) ?_
  refine yO.cons ?_
  refine yW X1 (Prog.range X1) ?_
  lk
  refine sV ?_
  lk
  refine uP (vC (by decide) (by decide) (by decide) (by decide)) (qH (by decide) (by decide)) (by decide) (.inl ?_)
  rw [show wC 90 140 = iL (vW 90) from rng_map 90 140]
  refine wL (show yJ _ (.lst _) _ from rfl) (show yJ _ (.lst _) _ from rfl) (by rw [zP,zP,rB,Cu];exact zy 2 2 0x110061000000713225303225362642150 rfl htl loL) (.inl ?_)
  rw [hcat]
  generalize temps ++ vW 90 = lo at loN loR loL ⊢
  lk
  refine seats_ok X1 (ω383 hl) W4 (zy 1 1 0x1141388415044c301350 rfl hk2) hnd (fun c hc=>by have:=uS B ((hks c).mp hc);exact zw 1 1 0 2 0x110161010602b212001040100137520010401001372b2150 rfl hnx this) hN ?_ ?_ (zy 2 2 0x100166322103225362642150 rfl hsl keL) (zy 4 4 0x111101093e831872032263823225372642160642150 rfl hsl htl keL loL) (fun x hx=>?_) fun H5 k5 sa kvs W5 hk5 hsa tS=>?_
  ·rw [Di];exact ⟨keN,loN,fun a ha b hb e=>by have k1:=keR a ha;have:=loR b hb;exact zw 0 2 0 3 0x101107101001801011071011070098c2111041105a21371f2111031101c213785a2101040102821371b2101030109113781100105 rfl e k1 this⟩
  ·rw [Di];exact ⟨loN,keN,fun a ha b hb e=>by have k1:=loR a ha;have:=keR b hb;exact zw 0 2 0 3 0x10100181010018010110710100180095a2111041102821371b2111031109113788c2101040105a21371f2101030101c213781100105 rfl e k1 this⟩
  ·refine sealG ?_
   intro Gs
   rcases Cx.mp hx with h | h
   ·have:=keR x h;exact zw 0 1 0 1 0x1105110500100135a2101040102821371b210103010911378 rfl this
   ·have:=loR x h;exact zw 0 1 0 1 0x1105110500100138c2101040105a21371f2101030101c21378 rfl this
  refine yO.cons (xR X.S (.inr fun ca hca=>?_))
  lk
  refine ⟨_,_,rfl,?_⟩
  have hsc:sa ≠ ca:=fun e=>by rw [e,hca] at hsa;cases hsa
  have W6:Well (upd H5 ca (.idict [])) wl nu k5:=W5.put fun xs h=>by rw [hca] at h;cases h
  refine ST.c ?_
  intro Qc
  refine yB (IOF0 wl nu nx bs ps keys M ke k5 sa ca) ?_
  refine yW X1 (Prog.range X1) ?_
  refine yO.cons ?_
  refine zO X1 22 ?_
  lk
  refine xZ X1 (zy 1 1 77720221998391632 rfl hl) W6 (zy 2 2 0x111527104160322536044c301350 rfl hk2 hk5) (by decide) fun H7 v W7 s7 v0 v1=>?_
  have hsw:=W6.sep (show upd H5 ca _ sa = some (.idict kvs) by rw [zB hsc];exact hsa)
  have hcw:=W6.sep (show upd H5 ca (.idict []) ca = some (.idict []) from zC)
  lk
  refine xP ⟨_,yM.rng (vC (by decide) (by decide) (zw 0 1 0 2 0x11050103e8314044110104010013 rfl v0 v1) (zw 0 1 0 2 0x101527104101044110104010013 rfl v0 v1)),⟨_,kvs,[],W7,(wM 5349335870219584 rfl),by rw [s7 _ hsw.1 hsw.2,zB hsc];exact hsa,by rw [s7 _ hcw.1 hcw.2,zC],tS,⟨by simp,by simp,by simp⟩,fun c U=>by simp,rfl,rfl,rfl,rfl,rfl,rfl,rfl,rfl⟩,?_,?_⟩
  ·rintro t x H8 m8 hx ⟨k8,S,C,W8,hk8,hS,hC,tS,tC,dj,u1,u2,u3,u4,u5,u6,u7,u8⟩
   have ht:t < 4:=by have:=(Bc.mp hx).1;simp [wC] at this;exact zw 1 1 0 3 0x101164115101052044110104010013 rfl v0 v1 this
   refine AS.name ?_
   refine sX ?_
   refine zO X1 40 ?_
   lk
   refine bend_ok X1 (ω383 hl) W8 (zy 4 4 0x11113723284170411818315064270322536044c301350 rfl hk2 hk5 hk8 ht) hS hC hsc tS tC dj (many:=nx) (zy 3 5 0x110100096011572a1150511102b2160650 rfl hmn hnx hm1 hm2 hpl) hnx fun H9 k9 S' C' v W9 hk9 hS' hC' tS' tC' dj'=>?_
   exact ST.nil ⟨k9,S',C',W9,zy 4 2 0x1115743150642803153807315064250 rfl hk8 hk9,hS',hC',tS',tC',dj',u1,u2,u3,u4,u5,u6,u7,u8⟩
  rintro H8 m8 ⟨k8,S,C,W8,hk8,hS,hC,tS,tC,dj,u1,u2,u3,u4,u5,u6,u7,u8⟩
  have hSl:=tS.len
  have hCl:=tC.len
  refine ST.take (x:="seats") u2 (wH.idict hS) ?_
  refine ST.take (x:="coming") (show wA m8 "seats" _ "coming" = _ from u3) (wH.idict (by rw [zR (Ne.symm hsc)];exact hC)) ?_
  refine sN ?_
  intro Qc
  refine EX.nC X 17 ?_
  lk
  refine alloc_new X (zy 1 1 77720221998391632 rfl hl) fun H9 x dx n=>?_
  refine ST.c ?_
  intro Qc
  refine uY ?_
  refine yW X1 (Prog.dict X1) ?_
  lk
  refine zE.dict X.S (⟨rfl,rfl⟩:uZ H9 (.idct (S.map (fun p=>p.1)) (S.map (fun p=>p.2))) S) (by rw [Cu];exact vN hSl) (.inl ?_)
  lk
  refine pR.obj (X.cls 17 (by decide)).2.2 n.at_ (by decide) (Af rfl) ?_
  have n:=n.set [("place",.idct (S.map (fun p=>p.1)) (S.map (fun p=>p.2))),("incoming",.idct [] []),("fetched",.idct [] []),("saved_used",.lst []),("spills",.int 0)]
  refine ST.c ?_
  intro Qc
  refine uY ?_
  refine yW X1 (Prog.dict X1) ?_
  lk
  refine zE.dict X.S (⟨rfl,rfl⟩:uZ _ (.idct (C.map (fun p=>p.1)) (C.map (fun p=>p.2))) C) (by rw [Cu];exact vN hCl) (.inl ?_)
  lk
  refine pR.obj (X.cls 17 (by decide)).2.2 n.at_ (by decide) (Af rfl) ?_
  have n:=n.set [("place",.idct (S.map (fun p=>p.1)) (S.map (fun p=>p.2))),("incoming",.idct (C.map (fun p=>p.1)) (C.map (fun p=>p.2))),("fetched",.idct [] []),("saved_used",.lst []),("spills",.int 0)]
  refine ST.take (x:="verdict") (av:=.ref x) (by rfl) n.frz ?_
  rw [show AV.obj (cl 17) (([("place",.idct (S.map (fun p=>p.1)) (S.map (fun p=>p.2))),("incoming",.idct (C.map (fun p=>p.1)) (C.map (fun p=>p.2))),("fetched",.idct [] []),("saved_used",.lst []),("spills",.int 0)]:List (Str×AV)).map (fun p=>p.1)) (([("place",.idct (S.map (fun p=>p.1)) (S.map (fun p=>p.2))),("incoming",.idct (C.map (fun p=>p.1)) (C.map (fun p=>p.2))),("fetched",.idct [] []),("saved_used",.lst []),("spills",.int 0)]:List (Str×AV)).map (fun p=>p.2)) = encAl cl S C from rfl]
  refine sN ?_
  intro Qc
  refine zO X1 15 ?_
  refine yO.cons ?_
  refine zO X1 33 ?_
  lk
  refine func_ok X (ω383 hl) B (ω384 hm1 hm2 hpl) fun H10 k10=>?_
  lk
  refine check_ok X (zy 1 1 77711425905369424 rfl hl) B (ω384 hm1 hm2 hpl) (fun c hc=>by have:=(hps c).mp hc;exact zw 2 1 0 4 0x101000191000010903221200104010013752001040100137562a115051110 rfl hm1 hm2 hpl this) tS tC (fun h=>by have:=keR _ h;exact zy 0 1 0x104104095a21111404111402821371b2111140311140911378 rfl this) fun H11 x hx k11=>?_
  refine sR ?_
  refine EX.boo (BOO.two ?_)
  refine xU X1 (Prog.isinst X1) ?_
  lk
  refine tQ X.S X.str (av:=.con (.type "str")) (by rfl) (by rfl) (fun U U U U=>rfl) ?_
  lk
  refine zE.isStr (TRU.bool ?_)
  refine BOO.one (pZ (pZ ?_))
  lk
  refine yI.seq ?_
  refine zO X1 41 ?_
  lk
  refine right_ok X.toProg2 (ω381 hl) B (ω384 hm1 hm2 hpl) hkeys hknd hM hMn tS (fun h=>absurd (keR _ h) (by decide)) fun H12 r hr=>yI.beq ?_
  have key:decide (x = Str.ofString "") = r:=by
   have h1:(x = Str.ofString "")↔r = true:=by rw [hr,law_plain hBS hsh hnx hps tS dj];exact hx
   cases r with
   | true=>exact Dc (h1.mpr rfl)
   | false=>exact Dj fun h=>by have:=h1.mp h;cases this
  rw [key,beq_self_eq_true]
 rintro ys H' m' ⟨rfl,F,rfl,f1,f2⟩
 rw [zP,Cs] at f1
 refine .inr fun nu hnu=>?_
 have hbl:F.length ≤ 60:=by exact zw 2 0 1 2 0x110101091100010903c21607623f215053c211 rfl hns f1
 have start:∀ (H1:zA) (nu wl:Addr) (F:List Int),H1 nu = some (.list (iL F))→0 < F.length→F.length ≤ 60→(∀ x∈F,0 ≤ x∧x < 2 ^ 31)→H1 wl = none→Well (upd H1 wl (.list [.ref nu,.int 0])) wl nu 0:=fun H1 nu wl F h1 h2 h3 h4 h5=>by
  have hne:wl ≠ nu:=fun e=>by rw [e,h1] at h5;cases h5
  exact ⟨hne,F,0,by rw [zC];rfl,by rw [zB (Ne.symm hne)];exact h1,h2,zy 1 2 0x110550103c21505011 rfl h2 h3,zy 1 2 0x101503c213503c21505011 rfl h2 h3,by decide,h4⟩
 refine TRU.isL (show yJ _ (.ref nu) _ from zC) (by rw [zP,Cu];exact zw 2 0 1 2 0x100161100000071503c215075263c211 rfl f1 hbl) ?_
 cases hF:F with
 | cons f fs=>
  rw [show (!(iL (f :: fs)).isEmpty) = true from rfl]
  dsimp only
  lk
  intro wl hwl
  exact tail _ wl nu (start _ nu wl (f :: fs) zC (by simp) (by rw [← hF];exact hbl) (by rw [← hF];exact f2) hwl)
 | nil=>
  rw [show (!(iL []).isEmpty) = false from rfl]
  dsimp only
  refine BOO.one (xQ ?_)
  lk
  intro nu2 hnu2
  lk
  intro wl hwl
  exact tail _ wl nu2 (start _ nu2 wl [3] (by rw [zC];rfl) (by simp) (by simp) (by simp) hwl)
end
end
section
theorem nsm {α:Type} {a:α} {P:Prop} (h:none = some a):P:=nomatch h
theorem bft {P:Prop} (h:false = true):P:=nomatch h
theorem objEq {o:Obj} {t d x sl} (h1:o.cls = t) (h2:o.dict = d) (h3:o.data = x) (h4:o.slots = sl):o = ⟨t,d,x,sl⟩:=by cases h1;cases h2;cases h3;cases h4;rfl
theorem fncD_at {x:Data} {fd:FuncData} (h:fncD x = some fd):x = .func fd:=by
 cases x with
 | func f=>cases h;rfl
 | _=>exact nsm h
theorem dctD_at {x:Data} {es:Array DictEntry} (h:dctD x = some es):∃ ep,x = .dict es ep:=by
 cases x with
 | dict f ep=>cases h;exact ⟨ep,rfl⟩
 | _=>exact nsm h
theorem clsD_at {x:Data} {cd:ClassData} (h:clsD x = some cd):x = .cls cd:=by
 cases x with
 | cls f=>cases h;rfl
 | _=>exact nsm h
theorem seqD_at {x:Data} {l:List Value} (h:seqD x = some l):∃ n,x = .seq ⟨l⟩ n:=by
 cases x with
 | seq f n=>cases h;exact ⟨n,rfl⟩
 | _=>exact nsm h
theorem strV_at {v:Value} (h:strV v = true):∃ n t,v = .str n t:=by
 cases v with
 | str n t=>exact ⟨n,t,rfl⟩
 | _=>exact bft h
theorem dat_at {K:Frag} {a:Addr} {x:Data} (h:datK K a = some x):∃ o,K.lookup a = some o∧o.data = x:=Bi.mp h
theorem fnAt_k {K:Frag} {base:Heap} (X:K.In base) {a:Addr} {ps:List Str} {body:List Stmt} {sc:Scope} (h:(fdG K a).map (fun fd=>(fd.body,fd.scope,fd.closure,fd.globals,fd.builtins,codeIn K fd.code fd.qualname)) = some (.stmts body,sc,[],mainGlobals,builtinsNs,true))
  (hbind:∀ vs:List Value,vs.length = ps.length→(fdG K a).map (fun fd=>bindArgs fd ⟨vs,[]⟩) = some (pure (ps.zip vs))):FnAt base a ps body sc:=
 (Bi.mp h).elim fun fd p=>(Option.bind_eq_some_iff.mp p.1).elim fun x q=>(dat_at q.1).elim fun o r=>
  have h:=p.2
  ⟨o,fd,X _ _ r.1,r.2.trans (fncD_at q.2),congrArg Prod.fst h,congrArg (fun x=>x.2.1) h,congrArg (fun x=>x.2.2.1) h,congrArg (fun x=>x.2.2.2.1) h,congrArg (fun x=>x.2.2.2.2.1) h,codeRec_of X (congrArg (fun x=>x.2.2.2.2.2) h),fun vs s hl=>BindsTo.of_eq (Option.some.inj ((congrArg (Option.map fun fd=>bindArgs fd ⟨vs,[]⟩) p.1).symm.trans (hbind vs hl)))⟩
theorem mapO_ok {h:Heap} {D:Addr→Prop} {ρ:Bs} {f:Value→Option AV} (hf:∀ {v av},f v = some av→xM ρ h D av v) {vs:List Value}:∀ {l},mapO f vs = some l→zU ρ h D l vs:=by
 induction vs with
 | nil=>intro l e;cases e;exact rfl
 | cons v vs ih=>
  intro l e
  obtain ⟨x,hx,e⟩:=Option.bind_eq_some_iff.mp e
  obtain ⟨xs,hxs,e⟩:=Option.bind_eq_some_iff.mp e
  cases e
  exact ⟨v,vs,rfl,hf hx,ih hxs⟩
theorem kind_ok {base:Heap} {ρ:Bs} {a:Addr} {o:Obj} {f:List AV→AV} {l:List AV} {vs:List Value} {n:Nat} (ho:base.get? a = some o) (hd:o.data = .seq ⟨vs⟩ n) (k:kindO o = some f) (e:o.dict = none∧o.slots = #[]) (c:zU ρ base (fun U=>False) l vs):xM ρ base (fun U=>False) (f l) (.ref a):=by
 unfold kindO at k
 by_cases q:o.cls = .type "list"
 ·rw [Ab q] at k;exact Option.some.inj k ▸ ⟨a,vs,n,rfl,id,ho.trans (congrArg some (objEq q e.1 hd e.2)),c⟩
 ·rw [Aa q] at k
  by_cases q:o.cls = .type "tuple"
  ·rw [Ab q] at k;exact Option.some.inj k ▸ ⟨a,vs,n,rfl,id,ho.trans (congrArg some (objEq q e.1 hd e.2)),c⟩
  ·rw [Aa q] at k;exact nsm k
inductive LfAt (v:Value) (k:Addr→Option AV):AV→Prop
 | int:∀ i t,v = .int i t→LfAt v k (.int i)
 | str:∀ x t,v = .str x t→LfAt v k (.str x)
 | ref:∀ a av,v = .ref a→k a = some av→LfAt v k av
theorem lfV_at {v:Value} {k:Addr→Option AV} {av:AV} (h:lfV v k = some av):LfAt v k av:=by
 cases v with
 | int i t=>exact Option.some.inj h ▸ .int i t rfl
 | str x t=>exact Option.some.inj h ▸ .str x t rfl
 | ref a=>exact .ref a av rfl h
 | _=>exact nsm h
theorem avO_ok {base:Heap} {ρ:Bs} {r:Value→Option AV} {a:Addr} {o:Obj} {av:AV} (hf:∀ {v av},r v = some av→xM ρ base (fun U=>False) av v) (ho:base.get? a = some o) (h:avO r o = some av):xM ρ base (fun U=>False) av (.ref a):=
 (Option.bind_eq_some_iff.mp h).elim fun vs p=>(Option.bind_eq_some_iff.mp p.2).elim fun l q=>(Option.bind_eq_some_iff.mp q.2).elim fun f t=>(seqD_at p.1).elim fun k hk=>by
  have h:=t.2
  by_cases e:o.dict = none∧o.slots = #[]
  ·rw [Ab e] at h
   exact Option.some.inj h ▸ kind_ok ho hk t.1 e (mapO_ok hf q.1)
  ·rw [Aa e] at h;exact nsm h
theorem avK_ok {K:Frag} {base:Heap} (X:K.In base) (ρ:Bs) (n:Nat):∀ {v:Value} {av:AV},avK K n v = some av→xM ρ base (fun U=>False) av v:=by
 induction n with
 | zero=>exact fun h=>nsm h
 | succ n ih=>
  exact fun h=>match lfV_at h with
   | .int i t e=>⟨t,e⟩
   | .str x t e=>⟨t,e⟩
   | .ref a av e h=>(Option.bind_eq_some_iff.mp h).elim fun o p=>e ▸ avO_ok ih (X _ _ p.1) p.2
theorem cst_k {K:Frag} {base:Heap} (X:K.In base) {x:Str} {av:AV} (h1:nsIn K mainGlobals x = some (some (valK K x))) (h2:avK K 5 (valK K x) = some av):CST K base x av:=
 ⟨_,.inl h1,fun ρ=>avK_ok X ρ 5 h2⟩
theorem tl_obj {x:Str} {r:Option Value} (e:fastLookup "object" x = some r):typeLookup (.type "object") x = pure r:=by
 rw [typeLookup_type,By,e]
theorem ns_k {K:Frag} {base:Heap} (X:K.In base) {N:Addr} (h:(dictO K N).isSome = true) (hk:(uN K N).toList.all (fun e=>strV e.key) = true):base.Ns N fun x=>nsFind (uN K N) x:=
 (Az.mp h).elim fun es e=>(Option.bind_eq_some_iff.mp e).elim fun x q=>(dat_at q.1).elim fun o r=>(dctD_at q.2).elim fun ep d=>
  have e:uN K N = es:=congrArg (fun x=>x.getD #[]) e
  ⟨o,es,ep,X _ _ r.1,r.2.trans d,fun y hy=>strV_at (Aw.mp hk y (e ▸ Array.mem_toList_iff.mpr hy)),fun U=>e ▸ rfl⟩
theorem isFn_k {K:Frag} {base:Heap} (X:K.In base) {a:Addr} (h:isFnK K a = true):∃ o,base.get? a = some o∧o.cls = .type "function":=
 (Bi.mp (Ad h)).elim fun o p=>⟨o,X _ _ p.1,p.2⟩
theorem cls_k {K:Frag} {base:Heap} (X:K.In base) {C:Addr} {fns:List (Str×Addr)} {attrs:List Str} {nm q N bs sn sub col dd k0 k1 k2 k3 k5}
  (hC:K.lookup C = some (excClassObj nm q C N bs [.type "object"] true sn sub false col dd k0 k1 k2 k3 k5 "object.__new__"))
  (hN:(dictO K N).isSome = true) (hk:(uN K N).toList.all (fun e=>strV e.key) = true)
  (h0:nsFind (uN K N) "__getattribute__" = none∧nsFind (uN K N) "__getattr__" = none∧nsFind (uN K N) "__setattr__" = none)
  (ha:∀ x∈attrs,nsFind (uN K N) x = none∧fastLookup "object" x = some none)
  (hf:∀ p∈fns,nsFind (uN K N) p.1 = some (.ref p.2)∧isFnK K p.2 = true∧(fastLookup "object" p.1).isSome = true):Cls base C fns attrs:=
 ⟨nm,q,N,bs,sn,sub,col,dd,k0,k1,k2,k3,k5,_,X _ _ hC,ns_k X hN hk,h0.1,h0.2.1,h0.2.2,fun x hx=>⟨(ha x hx).1,tl_obj (ha x hx).2⟩,fun p hp=>⟨(hf p hp).1,isFn_k X (hf p hp).2.1,by
  obtain ⟨y,hy⟩:=Az.mp (hf p hp).2.2
  exact ⟨y,tl_obj hy⟩⟩⟩
end
end Mine
namespace Mine
section
noncomputable def Kgo:List Obj→Nat→Frag
 | [],_=>[]
 | o :: os,n=>(n,o) :: Kgo os (n + 1)
noncomputable def Kof (h:Heap):Frag:=Kgo h.objs.toList 0
noncomputable def liveO:Obj→Bool
 | ⟨_,_,.freed,_⟩=>false
 | _=>true
theorem Kgo_at {a:Nat} {o:Obj} (os:List Obj):∀ {n:Nat},(Kgo os n).lookup a = some o→n ≤ a∧os[a - n]? = some o:=by
 induction os with
 | nil=>exact fun h=>nomatch h
 | cons x os ih=>
  intro n h
  rw [Kgo,Bk] at h
  by_cases q:a = n
  ·rw [beq_iff_eq.mpr q] at h
   rw [q,Nat.sub_self]
   exact ⟨Ag _,h⟩
  ·rw [beq_eq_false_iff_ne.mpr q] at h
   have z:=ih h
   refine ⟨Nat.le_of_succ_le z.1,?_⟩
   rw [show a - n = (a - (n + 1)) + 1 from (Nat.sub_add_cancel (Nat.sub_pos_of_lt z.1)).symm]
   exact z.2
theorem Kof_in {h:Heap} (hl:h.objs.toList.all liveO = true):(Kof h).In h:=fun a o e=>by
 have h1:=(Kgo_at _ e).2
 rw [Nat.sub_zero,Array.getElem?_toList] at h1
 have h2:=Aw.mp hl o (by rw [Array.mem_toList_iff];exact Array.mem_of_getElem? h1)
 unfold Heap.get?
 rw [h1]
 obtain ⟨c,d,dt,sl⟩:=o
 cases dt <;> first | rfl | (cases h2)
theorem six_list:∀ {vs:List Value},vs.length ≤ 6→∃ v0 v1 v2 v3 v4 v5,six v0 v1 v2 v3 v4 v5 vs.length = vs
 | [],_=>⟨.none,.none,.none,.none,.none,.none,rfl⟩
 | [a],_=>⟨a,.none,.none,.none,.none,.none,rfl⟩
 | [a,b],_=>⟨a,b,.none,.none,.none,.none,rfl⟩
 | [a,b,c],_=>⟨a,b,c,.none,.none,.none,rfl⟩
 | [a,b,c,d],_=>⟨a,b,c,d,.none,.none,rfl⟩
 | [a,b,c,d,e],_=>⟨a,b,c,d,e,.none,rfl⟩
 | [a,b,c,d,e,f],_=>⟨a,b,c,d,e,f,rfl⟩
 | _ :: _ :: _ :: _ :: _ :: _ :: _ :: _,h=>by simp at h
theorem fnAt_T {K:Frag} {base:Heap} (X:K.In base) {a:Addr} {s:Option Stmt} (h:fnT K a (yL s).length = fnV s) (hk:(yL s).length ≤ 6):FnAt base a (yL s) (xD s) (yR s):=by
 refine fnAt_k X (congrArg Prod.fst h) fun vs hv=>?_
 have h2:(fdG K a).map (fun fd=>fun v0 v1 v2 v3 v4 v5=>bindArgs fd ⟨six v0 v1 v2 v3 v4 v5 (yL s).length,[]⟩) = some fun v0 v1 v2 v3 v4 v5=>pure ((yL s).zip (six v0 v1 v2 v3 v4 v5 (yL s).length)):=congrArg Prod.snd h
 obtain ⟨v0,v1,v2,v3,v4,v5,e⟩:=six_list (vs:=vs) (hv ▸ hk)
 rw [hv] at e
 rw [← e]
 cases hf:fdG K a with
 | none=>rw [hf] at h2;cases h2
 | some fd=>
  rw [hf] at h2
  exact congrArg some (congrFun (congrFun (congrFun (congrFun (congrFun (congrFun (Option.some.inj h2) v0) v1) v2) v3) v4) v5)
theorem glb_ref {K:Frag} {n:Nat} (h:isRefK K (wW (zJ n)) = true):oX K (wW (zJ n)) (.ref (faK K n)):=.inl (Ad h)
theorem glb_un {K:Frag} {x:Str} {v:Value} (h:isUnK K x = true) (hb:bootBuiltins x = some v) (hn:x ≠ "__name__"):oX K x v:=.inr ⟨Ad h,hb,hn⟩
inductive ClsAt (K:Frag) (C:Addr):Prop
 | mk:∀ nm q bs sn sub col dd k0 k1 k2 k3 k5,K.lookup C = some (excClassObj nm q C (nsOf K C) bs [.type "object"] true sn sub false col dd k0 k1 k2 k3 k5 "object.__new__")→ClsAt K C
theorem elim_at {α:Type} {o:Option α} {f:α→Bool} (h:o.elim false f = true):∃ a,o = some a∧f a = true:=by
 cases o with
 | none=>cases h
 | some a=>exact ⟨a,rfl,h⟩
theorem cdEq {cd:ClassData} {m N b c d} (h1:cd.mro = m) (h2:cd.ns = N) (h3:cd.hasDict = b) (h4:cd.abstract = c) (h5:cd.hasDel = d):cd = ⟨cd.name,cd.bases,m,N,cd.qualname,b,cd.slotNames,cd.subclasses,c,cd.collection,d⟩:=by
 cases h1;cases h2;cases h3;cases h4;cases h5;rfl
theorem cls_T {K:Frag} {C:Addr} (h:clsT K C = true):ClsAt K C:=
 (elim_at h).elim fun o p=>(elim_at p.2).elim fun cd q=>
  have h:=Ad q.2
  have hns:nsOf K C = cd.ns:=(congrArg (fun x:Option Obj=>((x.map Obj.data).bind clsD).elim 0 ClassData.ns) p.1).trans (congrArg (fun x:Option ClassData=>x.elim 0 ClassData.ns) q.1)
  ⟨_,_,_,_,_,_,o.dict,slO o 0,slO o 1,slO o 2,slO o 3,slO o 5,p.1.trans (congrArg some (objEq h.1 rfl ((clsD_at q.1).trans (congrArg Data.cls (cdEq h.2.1 hns.symm h.2.2.1 h.2.2.2.1 h.2.2.2.2.1))) h.2.2.2.2.2))⟩
theorem cls_B {K:Frag} {base:Heap} (X:K.In base) {n:Nat} (h:clsB K n = true) (ha:(uB n).all (fun x=>decide (fastLookup "object" x = some none)) = true) (hm:(xI n).all (fun x=>(fastLookup "object" x).isSome) = true) :
  oX K (wW (zJ n)) (.ref (faK K n))∧keepIn K (.ref (faK K n)) = true∧Cls base (faK K n) (nO (mtK K) n) (uB n):=by
 unfold clsB at h
 obtain ⟨nm,q,bs,sn,sub,col,dd,k0,k1,k2,k3,k5,hC⟩:=cls_T (wP h 9 rfl)
 refine ⟨glb_ref (wP h 0 rfl),wP h 1 rfl,cls_k X hC (wP h 2 rfl) (wP h 3 rfl) ⟨Cm.mp (wP h 4 rfl),Cm.mp (wP h 5 rfl),Cm.mp (wP h 6 rfl)⟩ (fun x hx=>⟨Cm.mp (Aw.mp (wP h 7 rfl) x hx),?_⟩) fun p hp=>?_⟩
 ·exact Ad (Aw.mp ha x hx)
 ·refine sealG ?_
  intro Gs
  obtain ⟨q,hq,rfl⟩:=Bm.mp hp
  have h:=Aw.mp (wP h 8 rfl) q hq
  rw [Av] at h
  refine ⟨?_,h.2,Aw.mp hm q.1 ?_⟩
  ·exact Ad h.1
  ·obtain ⟨x,i⟩:=q
   have:=List.mem_zipIdx hq
   rw [this.2.2];exact Cr _
theorem fns_at {K:Frag}:∀ {l:List Nat},fnsT K l = fnsV l→∀ n∈l,fnT K (faK K n) (yL (zJ n)).length = fnV (zJ n)
 | n :: r,h,m,hm=>by
  rcases Be.mp hm with rfl | hm
  ·exact (List.cons.inj h).1
  ·exact fns_at (List.cons.inj h).2 m hm
theorem mth_at {K:Frag}:∀ {l:List (Nat×Nat)},mthT K l = mthV l→∀ n∈l,fnT K (mtK K n.1 n.2) (yL (vD n.2 (zJ n.1))).length = fnV (vD n.2 (zJ n.1))
 | n :: r,h,m,hm=>by
  refine sealG ?_
  intro Gs
  rcases Be.mp hm with rfl | hm
  ·exact (List.cons.inj h).1
  ·exact mth_at (List.cons.inj h).2 m hm
theorem prog3 {K:Frag} {base:Heap} (S:SF K base) (h:factsT K = factsV):xC K base (faK K) (faK K) (mtK K):=by
 have h1:okB K = true:=congrArg Prod.fst h
 have h2:=fns_at (congrArg (fun x=>x.2.1) h)
 have h3:=mth_at (congrArg (fun x=>x.2.2.1) h)
 unfold okB at h1
 have a1:=wP h1 0 rfl
 have a2:=wP h1 1 rfl
 have a3:=wP h1 2 rfl
 have un:∀ x∈unNames,∀ v,bootBuiltins x = some v→x ≠ "__name__"→oX K x v:=fun x hx v hb hn=>glb_un (Aw.mp a3 x hx) hb hn
 have k6:fnIdx.all (fun n=>decide ((yL (zJ n)).length ≤ 6)) = true:=by decide +kernel
 have m6:mIdx.all (fun n=>decide ((yL (vD n.2 (zJ n.1))).length ≤ 6)) = true:=by decide +kernel
 have c1:rZ.all (fun n=>(uB n).all (fun x=>decide (fastLookup "object" x = some none)) && (xI n).all (fun x=>(fastLookup "object" x).isSome)) = true:=by decide +kernel
 have c2:rZ.all (fun n=>(List.range (xI n).length).all fun i=>decide ((n,i)∈mIdx)) = true:=by decide +kernel
 exact {
  S:=S
  fn:=fun n hn=>⟨glb_ref (Aw.mp a1 n hn),fnAt_T S.X (h2 n hn) (Ad (Aw.mp k6 n hn))⟩
  len:=un _ (by decide) _ (by kernel_rfl) (by decide)
  sorted:=un _ (by decide) _ (by kernel_rfl) (by decide)
  min:=un _ (by decide) _ (by kernel_rfl) (by decide)
  isinst:=un _ (by decide) _ (by kernel_rfl) (by decide)
  list:=un _ (by decide) _ (by kernel_rfl) (by decide)
  range:=un _ (by decide) _ (by kernel_rfl) (by decide)
  set:=un _ (by decide) _ (by kernel_rfl) (by decide)
  str:=un _ (by decide) _ (by kernel_rfl) (by decide)
  dict:=un _ (by decide) _ (by kernel_rfl) (by decide)
  enum:=un _ (by decide) _ (by kernel_rfl) (by decide)
  shapes:=cst_k S.X (Ad (wP h1 3 rfl)) (congrArg (fun x=>x.2.2.2.1) h)
  kcalls:=cst_k S.X (Ad (wP h1 4 rfl)) (congrArg (fun x=>x.2.2.2.2.1) h)
  calls:=cst_k S.X (Ad (wP h1 5 rfl)) (congrArg (fun x=>x.2.2.2.2.2) h)
  cls:=fun n hn=>by
   have:=Aw.mp c1 n hn
   rw [Av] at this
   exact cls_B S.X (Aw.mp a2 n hn) this.1 this.2
  mth:=fun n hn i hi=>by
   have:=Ad (Aw.mp (Aw.mp c2 n hn) i (Cg.mpr hi))
   exact fnAt_T S.X (h3 (n,i) this) (Ad (Aw.mp m6 (n,i) this)) }
end
set_option maxRecDepth 100000
section
noncomputable def qv:Program:={ PySem.Challenge.pw_nm0017_01 with main:={ PySem.Challenge.pw_nm0017_01.main with body:=[(zJ 42).getD (.Pass default)] } }
noncomputable def looseN:List Str:=[Str.ofString "Step",Str.ofString "Block",Str.ofString "Func",Str.ofString "followers",Str.ofString "preds",Str.ofString "postorder",Str.ofString "order",Str.ofString "needs_of",Str.ofString "live",Str.ofString "CALLS",Str.ofString "registers_of",Str.ofString "Watch",Str.ofString "check_lives",Str.ofString "Allocation",Str.ofString "_law_SHAPES",Str.ofString "_law_KEPT",Str.ofString "_law_CALLS",Str.ofString "_law_draw",Str.ofString "_law_fresh",Str.ofString "_law_word",Str.ofString "_law_target",Str.ofString "_law_home",Str.ofString "_law_call",Str.ofString "_law_store",Str.ofString "_law_item",Str.ofString "_law_end",Str.ofString "_law_blocks",Str.ofString "_law_program",Str.ofString "_law_func",Str.ofString "_law_goals",Str.ofString "_law_mark",Str.ofString "_law_alive",Str.ofString "_law_named",Str.ofString "_law_beside",Str.ofString "_law_seats",Str.ofString "_law_bend",Str.ofString "_law_is_right"]
noncomputable def hkT:Hook where
 α:=Bool×FACT
 obs s:=(s.heap.objs.toList.all liveO,factsT (Kof s.heap))
 val _:=(true,factsV)
 says _ h:=∃ K:Frag,K.In h∧factsT K = factsV
 of _ s e:=⟨Kof s.heap,Kof_in (congrArg Prod.fst e),congrArg Prod.snd e⟩
 keeps _ _ _ x k:=by obtain ⟨K,a,b⟩:=x;exact ⟨K,a.keeps k,b⟩
noncomputable def looks0 (s:Shared):Bool:=xlAt qv [] s && recOk (RowW.records PySem.Challenge.rw_nm0017_01.row.toRowW) s
noncomputable def tZ (tb:String→Option Builtin) (imp:type_of% @importEnds) (fen:type_of% @fenceModules?) (st:type_of% @start) (run:type_of% @topRun) (p:Program) (w:World) (N:Nat):Option Shared:=
 ((imp tb (opening p) w N (st (opening p)).1 (st (opening p)).2).bind (fen p)).bind fun s₀=>match s₀.heap.isNs mainGlobals && s₀.gens.size == 0 with
 | true=>(run tb p w s₀.heap.objs.size (s₀.heap.nsMap mainGlobals "__annotations__") N s₀ (topStub p)).bind fun s₁=>match staticsOk (importedModules p.main.body) s₀.heap s₁.heap && namesBound p s₁.heap && gensDone s₁ && laidKept s₀.heap s₁.heap with
   | true=>some s₁
   | false=>none
 | false=>none
theorem ends_quick (w:World):openEnds treeTable PySem.Challenge.pw_nm0017_01 w 4910 = tZ Fast.tw14364793385576792824 Fast.tw10274390034422433532 Fast.tw14289696077712309145 Fast.tw1435165496053646825 Fast.tw14082659384304107361 PySem.Challenge.pw_nm0017_01 w 4910:=by
 show tZ treeTable @importEnds @fenceModules? @start @topRun PySem.Challenge.pw_nm0017_01 w 4910 = _
 rw [Fast.te14364793385576792824,Fast.te10274390034422433532,Fast.te14289696077712309145,Fast.te1435165496053646825,Fast.te14082659384304107361]
set_option maxHeartbeats 0 in
theorem e_run (w:World):(tZ Fast.tw14364793385576792824 Fast.tw10274390034422433532 Fast.tw14289696077712309145 Fast.tw1435165496053646825 Fast.tw14082659384304107361 PySem.Challenge.pw_nm0017_01 w 4910).map (fun s=>(Fast.tw4187177175401517315 qv looseN (importedModules PySem.Challenge.pw_nm0017_01.main.body) looks0 true s,hkT.obs s)) = some (openGood qv looseN,hkT.val w):=by kernel_rfl
theorem e_left:LeftO PySem.Challenge.rw_nm0017_01.row.prog qv looseN looks0 hkT.obs hkT.val 4910:=fun w=>by
 rw [show PySem.Challenge.rw_nm0017_01.row.prog = PySem.Challenge.pw_nm0017_01 from rfl,ends_quick,Fast.te4187177175401517315]
 exact e_run w
end
section
section
set_option maxHeartbeats 0
noncomputable abbrev Lw:OpenLaw:=PySem.Challenge.rw_nm0017_01
noncomputable abbrev Lp:Program:=Lw.row.prog
theorem l1:(sreFenced Lp.main && ((moduleNames Lp.main.body).isEmpty || lookedIntoSs (moduleNames Lp.main.body) Lp.main.body)) = true:=by kernel_rfl
theorem l2:namesResolve Lp = true:=by kernel_rfl
theorem l3:Lp.boundNames.all (fun n=>!worldNames.contains n) = true:=by kernel_rfl
theorem l4:noRoadLSs { strict:=!(importedModules Lp.main.body).all cThrough.contains,foot:=none,bare:=(["vars","dir","locals"]:List Str).filter (readsOut Lp Lp.main.body) } Lp.main.body = true:=by kernel_rfl
theorem l5:(namesMeet Lp Lp.main.body fun _ n=>attrL n) = true:=by kernel_rfl
theorem e_look:looksOpen Lp = true:=by
 unfold looksOpen
 exact look_both (look_both (look_both (look_both l1 l2) l3) l4) l5
theorem e_row:Lw.row.wellSaid = true:=by
 unfold OpenRow.wellSaid OpenRow.partSaid
 rw [e_look]
 kernel_rfl
theorem s4:noRoadLSs { strict:=true,foot:=some Lw.bound',writes:=Lw.writes,may:=Lw.may } Lw.footing = true:=by kernel_rfl
theorem e_said:OpenLaw.wellSaid Lw = true:=by
 unfold OpenLaw.wellSaid
 rw [e_row,s4]
 kernel_rfl
end
end
section
theorem wellAll_ints {P:Params} {h:Heap} {ns:List Int}:∀ {vs:List Value},PySem.W.WellAll P h vs (ofPys (ns.map PyData.int))→∀ (ρ:Bs) (D:Addr→Prop) (h':Heap),zU ρ h' D (iL ns) vs:=by
 induction ns with
 | nil=>intro vs w;cases w;exact fun U U U=>rfl
 | cons n ns ih=>
  intro vs w
  cases w with
  | cons a b=>
   cases a with
   | int i t=>exact fun ρ D h'=>⟨_,_,rfl,⟨t,rfl⟩,ih b ρ D h'⟩
theorem law_run (X:xC K ρ.base fa cl mt) {ns:List Int} (hns:ns.length ≤ 63) {lst:Addr} {vs:List Value} {n:Nat} (hl:ρ.base.get? lst = some (tV vs n)) (hI:∀ (ρ:Bs) (D:Addr→Prop) (h':Heap),zU ρ h' D (iL ns) vs)
  {L:Addr} {qual:Str} {fx:Addr} {code:Value} {h1:Heap} {mm:Str→Option Value} (F:Fr ρ.base L h1 mm) (hmm:mm "script" = some (.ref lst)) {s:Shared} (hs:s.heap = h1) (htk:0 < s.toks) {A:Around} (hA:sW 0 A) {Q:Flow→Shared→Prop} {E:Value→Shared→Prop}
  (q:∀ s' m',Fr ρ.base L s'.heap m'→s'.gens = s.gens→s'.os = s.os→Q (.ret (.bool true)) s'):wpAny ρ.M A (execs (xD (zJ 42)) (wN (yR (zJ 42)) L qual fx code)) Q E s:=by
 subst hs
 have hL:∃ o,s.heap.get? L = some o:=by obtain ⟨o,U,U,ho,U⟩:=F.ns;exact ⟨o,ho⟩
 have hLb:∀ o,ρ.base.get? L ≠ some o:=fun o h=>absurd (Aq h) (Nat.not_lt.mpr F.above)
 have hcells:∀ x,(wN (yR (zJ 42)) L qual fx code).cells.lookup x = none:=fun x=>by rfl
 have g:G ρ (fun p=>p=L) (fun U=>none) s:=⟨fun b o e=>⟨F.keep b o e,rfl,fun q=>hLb o (q ▸ e)⟩,fun a o h=>(by cases h),fun a h=>⟨rfl,by rw [h];exact hL⟩,htk⟩
 let m:zN:=fun x=>if x = "script" then some (.lst (iL ns)) else none
 have hfr:zG ρ (wN (yR (zJ 42)) L qual fx code) (fun p=>p=L) (fun U=>none) s.heap m:=by
  refine ⟨rfl,rfl,rfl,⟨mm,F.ns,fun x av hx U=>?_⟩,fun x av hx hk=>?_,⟨rfl,rfl⟩,fun x c hc=>(by rw [hcells] at hc;cases hc),fun x y c hc=>(by rw [hcells] at hc;cases hc)⟩
  ·by_cases e:x = "script"
   ·subst e
    simp only [m,Ay] at hx
    cases hx
    refine ⟨_,hmm,lst,vs,n,rfl,fun h=>h.elim (fun h=>h rfl) fun h=>hLb _ (h ▸ hl),F.keep _ _ hl,hI ρ _ _⟩
   ·simp only [m,Aa e] at hx;cases hx
  ·by_cases e:x = "script"
   ·subst e;exact absurd (by rfl) hk
   ·simp only [m,Aa e] at hx;cases hx
 refine Ai ((law_ok X (l:=0) (by decide) hns (H:=fun U=>none) (m:=m) (by simp [m])).out (fun p=>p=L) s g hfr A hA) ?_ fun U U x=>x.elim
 rintro f s' ⟨H',m',fs,F',af,cf,e⟩
 subst e
 obtain ⟨u,rfl,hu⟩:=cf
 cases hu
 obtain ⟨mc,hmc,U⟩:=F'.ns
 exact q s' mc ⟨hmc,fun b o e=>(fs.keep b o (F.keep b o e) rfl fun h=>h.elim (fun h=>hLb o (by rw [← show b = L from h];exact e)) fun ⟨U,x,hx⟩=>(by rw [hcells] at hx;cases hx)).1,F.above⟩ fs.gens fs.os
theorem claim_holds:Claim ρ:=fun S F ns lst vs n P h L qual fx code mm s A Q E hns hl hI F0 hmm htk hA q=>
 law_run (by unfold K fa cl mt;exact prog3 S F) hns hl (wellAll_ints hI) F0 hmm rfl htk hA q
theorem aok_caller (env:Env):sW 0 (callerA.deeper env):=⟨rfl,(show callerA.depth + 1 ≤ 400 by decide),(show callerA.units + 3 ≤ 200 by decide)⟩
set_option maxRecDepth 100000
set_option maxHeartbeats 0 in
theorem e_ok:(chainsOk qv && opensWell PySem.Challenge.rw_nm0017_01.row.prog && (frees PySem.Challenge.rw_nm0017_01.row.toRowW && PySem.Challenge.rw_nm0017_01.row.within.isEmpty)) = true:=by decide +kernel
end
end Mine
set_option maxRecDepth 100000 in
set_option maxHeartbeats 8000000 in
theorem PySem.Challenge.cw_nm0017_01_holds : PySem.Challenge.rw_nm0017_01.Holds := by
  w_on
  refine holds_law Mine.e_said fun said => ?_
  refine holds_open (q := Mine.qv) (loose := Mine.looseN) (XP := XL Mine.qv []) (YP := Mine.hkT.says) Mine.e_left Mine.hkT.of Mine.hkT.keeps (fun s e => xl_of s (Bool.and_eq_true_iff.mp e).1) XL.keeps (by rfl) (by rfl) (by rfl) (fun s e => recFacts_of (Bool.and_eq_true_iff.mp e).2) (by rfl) said Mine.e_ok ⟨rfl, rfl, rfl, rfl, rfl, by decide +kernel⟩ ?hw ?hc
  (case hw => w_witness2)
  intro w s₀ s₁ mg mb G Y fa o pm cd doc dV kV ho hd hcd hD hmg hg args vals as hpre hlay hrd hwl hlo
  refine Mine.sealG ?_
  intro Gs
  obtain ⟨K, KX, hK⟩ := Y
  refine Ground.open G ?_
  intro T B D TE TW
  refine guard_noD D (by decide +kernel) ?_
  clear D
  obtain ⟨U, U, he, B0⟩ := based_of_top T rfl hmg ho hd
  have he' : cd = _ := he
  subst he'
  clear he
  clear hmg
  wrow_args hpre hlay hrd hwl hlo
  refine enter_call ?_
  w_top on
  refine codeAny_mono ?_ (fun U U g => GoodW.toG g)
  have K0 := below_caller (Top.heap T)
  w_call any ho hd hcd hD T F
  clear hd
  k_drop
  rename Top _ _ _ _ _ _ => T
  rename Fr _ _ _ _ => F
  rename PySem.W.Well _ _ _ _ => wl
  rename ¬ _ < _ => hlen
  refine Mine.sealG ?_
  intro Gs
  cases wl with
  | list ho ha =>
  refine Mine.claims Mine.claim_holds ⟨_, w, s₁.heap, K⟩ ⟨KX, T.nolimit, _, _, T.g, T.b, T.builtins⟩ hK _ _ _ _ _ _ _ _ _ _ _ _ _ _ _ (Int.ofNat_le.mp (Int.not_lt.mp hlen)) ho ha F (by rfl) (Nat.succ_pos _) (Mine.aok_caller _) fun s' m' F' hg' hos => ?_
  exact goodW_bool F' (hg'.trans hg) (by intro U; rfl) (by first | w_fin | wtm_val | wrow_post | law_fin) hos
