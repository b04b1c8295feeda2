import PyProof.Rows.All
import Wide.All
import OpenK.AllK
import Wide.FinOn
import KE.KBytesWalk
import PyProof.EnumFor
import PyProof.EnumMake
import PyProof.CompFree
import PyProof.WalksMore
import PyProof.EnumStmt
import PyProof.Reaches
import Lean
import PySem.Challenge.RW_og0289_01
set_option Elab.async false
set_option genInjectivity false
set_option genSizeOf false
set_option linter.all false
set_option maxRecDepth 100000
namespace Mine
noncomputable section
open PySem PySem.W PyProof.Rows
section
theorem nf {P : Prop} (h : false = true) : P := nomatch h
theorem no {α : Type} {b : α} {P : Prop} (h : none = some b) : P := nomatch h
theorem bl {a b : Bool} (h : (a && b) = true) : a = true := (Bool.and_eq_true_iff.mp h).1
theorem br {a b : Bool} (h : (a && b) = true) : b = true := (Bool.and_eq_true_iff.mp h).2
theorem dt {p : Prop} [Decidable p] (h : decide p = true) : p := of_decide_eq_true h
theorem zu {a b : Nat} (h : Nat.ble a b = true) : a ≤ b := Nat.le_of_ble_eq_true h
inductive BI where
 | len | max | min | int | list | tuple | bytes | bytearray | range | enumerate
noncomputable def BI.val : BI → Value
 | .len => .builtin "len" | .max => .builtin "max" | .min => .builtin "min"
 | .int => .type "int" | .list => .type "list" | .tuple => .type "tuple" | .bytes => .type "bytes" | .bytearray => .type "bytearray" | .range => .type "range" | .enumerate => .type "enumerate"
inductive PV where
 | none | bool (b : Bool) | int (i : Int) | str (x : Str) | bytes (b : Array UInt8)
 | tup (vs : List PV) | list (vs : List PV) | dict (es : List (PV × PV))
 | inst (c : Addr) (fs : List (Str × PV)) | con (v : Value) | bi (k : BI) | loc (l : Nat)

inductive zU where
 | list (vs : List PV) | dict (es : List (PV × PV)) | inst (c : Addr) (d : Nat) | fields (fs : List (Str × PV)) | barr (b : Array UInt8)

abbrev za := List zU
abbrev AP := Addr → Prop
abbrev KV := Value → Shared → Prop
abbrev KG := Flow → Shared → Prop
abbrev LA := List Addr
abbrev BA := Array UInt8
abbrev KU := Unit → Shared → Prop
abbrev KB := Bool → Shared → Prop
abbrev KD := PV → za → Prop

noncomputable def xN (w : World) (b : BA) : Int := hashW w.params (.bytes b.toList)

inductive xl (w : World) : PV → DictEntry → Prop
 | bytes {b t v} : xl w (.bytes b) ⟨xN w b, .bytes b t, v⟩
 | str {x t v} : xl w (.str x) ⟨hashStr w x, .str x t, v⟩
 | int {i t v} : xl w (.int i) ⟨hashInt i, .int i t, v⟩

section
variable (w : World) (Z : AP) (μ : LA) (h : Heap)
mutual
inductive RV : PV → Value → Prop
 | none : RV .none .none
 | bool {b} : RV (.bool b) (.bool b)
 | int {i t} : RV (.int i) (.int i t)
 | str {x t} : RV (.str x) (.str x t)
 | bytes {b t} : RV (.bytes b) (.bytes b t)
 | tup {vs a its n} : Z a → h.get? a = some ⟨.type "tuple", Option.none, .seq its n, #[]⟩ → RVs vs its.toList → RV (.tup vs) (.ref a)
 | list {vs a its n} : Z a → h.get? a = some ⟨.type "list", Option.none, .seq its n, #[]⟩ → RVs vs its.toList → RV (.list vs) (.ref a)
 | dict {es a ds n} : Z a → h.get? a = some ⟨.type "dict", Option.none, .dict ds n, #[]⟩ → REs es ds.toList → RV (.dict es) (.ref a)
 | inst {c fs x dx ds n} : Z x → Z dx → h.get? x = some ⟨.ref c, some dx, .plain, #[]⟩ → h.get? dx = some ⟨.type "dict", Option.none, .dict ds n, #[]⟩ → RFs fs ds.toList → RV (.inst c fs) (.ref x)
 | con {v} : RV (.con v) v
 | bi {k} : RV (.bi k) k.val
 | loc {l a} : μ[l]? = some a → RV (.loc l) (.ref a)
inductive RVs : List PV → List Value → Prop
 | nil : RVs [] []
 | cons {v vs a as} : RV v a → RVs vs as → RVs (v :: vs) (a :: as)
inductive REs : List (PV × PV) → List DictEntry → Prop
 | nil : REs [] []
 | cons {k v es d ds} : xl w k d → RV v d.val → REs es ds → REs ((k, v) :: es) (d :: ds)
inductive RFs : List (Str × PV) → List DictEntry → Prop
 | nil : RFs [] []
 | cons {x v fs d ds} : (∃ t, d.key = .str x t) → RV v d.val → RFs fs ds → RFs ((x, v) :: fs) (d :: ds)
end

def RVI : PV → Value → Prop
 | .none, a => a = .none
 | .bool b, a => a = .bool b
 | .int i, a => ∃ t, a = .int i t
 | .str x, a => ∃ t, a = .str x t
 | .bytes b, a => ∃ t, a = .bytes b t
 | .tup vs, r => ∃ a its n, Z a ∧ h.get? a = some ⟨.type "tuple", Option.none, .seq its n, #[]⟩ ∧ RVs w Z μ h vs its.toList ∧ r = .ref a
 | .list vs, r => ∃ a its n, Z a ∧ h.get? a = some ⟨.type "list", Option.none, .seq its n, #[]⟩ ∧ RVs w Z μ h vs its.toList ∧ r = .ref a
 | .dict es, r => ∃ a ds n, Z a ∧ h.get? a = some ⟨.type "dict", Option.none, .dict ds n, #[]⟩ ∧ REs w Z μ h es ds.toList ∧ r = .ref a
 | .inst c fs, r => ∃ x dx ds n, Z x ∧ Z dx ∧ h.get? x = some ⟨.ref c, some dx, .plain, #[]⟩ ∧ h.get? dx = some ⟨.type "dict", Option.none, .dict ds n, #[]⟩ ∧ RFs w Z μ h fs ds.toList ∧ r = .ref x
 | .con v, a => a = v
 | .bi k, a => a = k.val
 | .loc l, r => ∃ a, μ[l]? = some a ∧ r = .ref a
variable {w Z μ h} in
theorem RV.inv {v : PV} {a : Value} (r : RV w Z μ h v a) : RVI w Z μ h v a := by
 cases r with
 | none => exact rfl
 | bool => exact rfl
 | int => exact ⟨_, rfl⟩
 | str => exact ⟨_, rfl⟩
 | bytes => exact ⟨_, rfl⟩
 | tup z e r => exact ⟨_, _, _, z, e, r, rfl⟩
 | list z e r => exact ⟨_, _, _, z, e, r, rfl⟩
 | dict z e r => exact ⟨_, _, _, z, e, r, rfl⟩
 | inst z y e f r => exact ⟨_, _, _, _, z, y, e, f, r, rfl⟩
 | con => exact rfl
 | bi => exact rfl
 | loc e => exact ⟨_, e, rfl⟩
def RVsI : List PV → List Value → Prop
 | [], as => as = []
 | v :: vs, as => ∃ a r, RV w Z μ h v a ∧ RVs w Z μ h vs r ∧ as = a :: r
def REsI : List (PV × PV) → List DictEntry → Prop
 | [], as => as = []
 | e :: es, as => ∃ d ds, xl w e.1 d ∧ RV w Z μ h e.2 d.val ∧ REs w Z μ h es ds ∧ as = d :: ds
def RFsI : List (Str × PV) → List DictEntry → Prop
 | [], as => as = []
 | e :: es, as => ∃ d ds, (∃ t, d.key = .str e.1 t) ∧ RV w Z μ h e.2 d.val ∧ RFs w Z μ h es ds ∧ as = d :: ds
section
variable {w Z μ h}
theorem RVs.inv {v : List PV} {a : List Value} (r : RVs w Z μ h v a) : RVsI w Z μ h v a := by
 cases r with
 | nil => exact rfl
 | cons a r => exact ⟨_, _, a, r, rfl⟩
theorem REs.inv {v : List (PV × PV)} {a : List DictEntry} (r : REs w Z μ h v a) : REsI w Z μ h v a := by
 cases r with
 | nil => exact rfl
 | cons k a r => exact ⟨_, _, k, a, r, rfl⟩
theorem RFs.inv {v : List (Str × PV)} {a : List DictEntry} (r : RFs w Z μ h v a) : RFsI w Z μ h v a := by
 cases r with
 | nil => exact rfl
 | cons k a r => exact ⟨_, _, k, a, r, rfl⟩
theorem RVs.one {x : PV} {as : List Value} (r : RVs w Z μ h [x] as) : ∃ a, RV w Z μ h x a ∧ as = [a] :=
 let ⟨a, _, e, q, f⟩ := r.inv; ⟨a, e, by rw [f, show _ = [] from q.inv]⟩
theorem RVs.two {x y : PV} {as : List Value} (r : RVs w Z μ h [x, y] as) : ∃ a b, RV w Z μ h x a ∧ RV w Z μ h y b ∧ as = [a, b] :=
 let ⟨a, _, e, q, f⟩ := r.inv; let ⟨b, g, i⟩ := q.one; ⟨a, b, e, g, by rw [f, i]⟩
theorem RVs.three {x y z : PV} {as : List Value} (r : RVs w Z μ h [x, y, z] as) : ∃ a b c, RV w Z μ h x a ∧ RV w Z μ h y b ∧ RV w Z μ h z c ∧ as = [a, b, c] :=
 let ⟨a, _, e, q, f⟩ := r.inv; let ⟨b, c, g, i, j⟩ := q.two; ⟨a, b, c, e, g, i, by rw [f, j]⟩
end
inductive yG : zU → Addr → Prop
 | list {vs a its n} : h.get? a = some ⟨.type "list", Option.none, .seq its n, #[]⟩ → RVs w Z μ h vs its.toList → yG (.list vs) a
 | dict {es a ds n} : h.get? a = some ⟨.type "dict", Option.none, .dict ds n, #[]⟩ → REs w Z μ h es ds.toList → yG (.dict es) a
 | inst {c d a dx} : h.get? a = some ⟨.ref c, some dx, .plain, #[]⟩ → μ[d]? = some dx → yG (.inst c d) a
 | fields {fs a ds n} : h.get? a = some ⟨.type "dict", Option.none, .dict ds n, #[]⟩ → RFs w Z μ h fs ds.toList → yG (.fields fs) a
 | barr {b a} : h.get? a = some ⟨.type "bytearray", Option.none, .bytearray b 0, #[]⟩ → yG (.barr b) a
def CellI : zU → Addr → Prop
 | .list vs, a => ∃ its n, h.get? a = some ⟨.type "list", Option.none, .seq its n, #[]⟩ ∧ RVs w Z μ h vs its.toList
 | .dict es, a => ∃ ds n, h.get? a = some ⟨.type "dict", Option.none, .dict ds n, #[]⟩ ∧ REs w Z μ h es ds.toList
 | .inst c d, a => ∃ dx, h.get? a = some ⟨.ref c, some dx, .plain, #[]⟩ ∧ μ[d]? = some dx
 | .fields fs, a => ∃ ds n, h.get? a = some ⟨.type "dict", Option.none, .dict ds n, #[]⟩ ∧ RFs w Z μ h fs ds.toList
 | .barr b, a => h.get? a = some ⟨.type "bytearray", Option.none, .bytearray b 0, #[]⟩
variable {w Z μ h} in
theorem yG.inv {c : zU} {a : Addr} (r : yG w Z μ h c a) : CellI w Z μ h c a := by
 cases r with
 | list e r => exact ⟨_, _, e, r⟩
 | dict e r => exact ⟨_, _, e, r⟩
 | inst e f => exact ⟨_, e, f⟩
 | fields e r => exact ⟨_, _, e, r⟩
 | barr e => exact e
end

section
variable {w : World} {Z Z' : AP} {μ μ' : LA} {h h' : Heap}

structure jd (Z : AP) (μ : LA) (h : Heap) (Z' : AP) (μ' : LA) (h' : Heap) : Prop where
 pre : ∀ (l : Nat) (a : Addr), μ[l]? = some a → μ'[l]? = some a
 sub : ∀ a, Z a → Z' a
 frz : ∀ a o, Z a → h.get? a = some o → h'.get? a = some o

theorem RV.lift (L : jd Z μ h Z' μ' h') {v a} (r : RV w Z μ h v a) : RV w Z' μ' h' v a :=
 RV.rec (motive_1 := fun v a _ => RV w Z' μ' h' v a) (motive_2 := fun v a _ => RVs w Z' μ' h' v a) (motive_3 := fun v a _ => REs w Z' μ' h' v a) (motive_4 := fun v a _ => RFs w Z' μ' h' v a)
  .none .bool .int .str .bytes (fun z e _ r => .tup (L.sub _ z) (L.frz _ _ z e) r) (fun z e _ r => .list (L.sub _ z) (L.frz _ _ z e) r) (fun z e _ r => .dict (L.sub _ z) (L.frz _ _ z e) r)
  (fun z y e f _ r => .inst (L.sub _ z) (L.sub _ y) (L.frz _ _ z e) (L.frz _ _ y f) r) .con .bi (fun e => .loc (L.pre _ _ e)) .nil (fun _ _ a b => .cons a b) .nil (fun k _ _ a b => .cons k a b) .nil (fun k _ _ a b => .cons k a b) r
theorem RVs.lift (L : jd Z μ h Z' μ' h') {v a} (r : RVs w Z μ h v a) : RVs w Z' μ' h' v a := by
 induction v generalizing a with
 | nil => rw [show a = [] from r.inv]; exact .nil
 | cons v vs ih => obtain ⟨a, as, x, q, rfl⟩ := r.inv; exact .cons (x.lift L) (ih q)
theorem REs.lift (L : jd Z μ h Z' μ' h') {v a} (r : REs w Z μ h v a) : REs w Z' μ' h' v a := by
 induction v generalizing a with
 | nil => rw [show a = [] from r.inv]; exact .nil
 | cons v vs ih => obtain ⟨a, as, k, x, q, rfl⟩ := r.inv; exact .cons k (x.lift L) (ih q)
theorem RFs.lift (L : jd Z μ h Z' μ' h') {v a} (r : RFs w Z μ h v a) : RFs w Z' μ' h' v a := by
 induction v generalizing a with
 | nil => rw [show a = [] from r.inv]; exact .nil
 | cons v vs ih => obtain ⟨a, as, k, x, q, rfl⟩ := r.inv; exact .cons k (x.lift L) (ih q)

theorem RVs.nil_of {as} (r : RVs w Z μ h [] as) : as = [] := r.inv
theorem RVs.length {vs as} (r : RVs w Z μ h vs as) : vs.length = as.length := by
 induction vs generalizing as with
 | nil => rw [r.nil_of]; rfl
 | cons v vs ih => obtain ⟨a, as, x, q, rfl⟩ := r.inv; exact congrArg (· + 1) (ih q)
theorem RVs.size {vs} {as : Array Value} (r : RVs w Z μ h vs as.toList) : as.size = vs.length := (r.length.trans Array.length_toList).symm
theorem RVs.get {vs as} (r : RVs w Z μ h vs as) {i : Nat} {v : PV} (e : vs[i]? = some v) : ∃ a, as[i]? = some a ∧ RV w Z μ h v a := by
 induction vs generalizing as i with
 | nil => exact no e
 | cons v vs ih =>
  obtain ⟨a, as, x, q, rfl⟩ := r.inv
  cases i with
  | zero => exact ⟨a, rfl, Option.some.inj e ▸ x⟩
  | succ i => exact ih q (i := i) e
theorem RVs.append {vs as vs' as'} (r : RVs w Z μ h vs as) (r' : RVs w Z μ h vs' as') : RVs w Z μ h (vs ++ vs') (as ++ as') := by
 induction vs generalizing as with
 | nil => rw [r.nil_of]; exact r'
 | cons v vs ih => obtain ⟨a, as, x, q, rfl⟩ := r.inv; exact .cons x (ih q)
theorem RVs.drop {vs as} (r : RVs w Z μ h vs as) (n : Nat) : RVs w Z μ h (vs.drop n) (as.drop n) := by
 induction n generalizing vs as with
 | zero => exact r
 | succ n ih =>
  cases vs with
  | nil => rw [r.nil_of]; exact .nil
  | cons v vs => obtain ⟨a, as, x, q, rfl⟩ := r.inv; exact ih q
theorem RVs.take {vs as} (r : RVs w Z μ h vs as) (n : Nat) : RVs w Z μ h (vs.take n) (as.take n) := by
 induction n generalizing vs as with
 | zero => exact .nil
 | succ n ih =>
  cases vs with
  | nil => rw [r.nil_of]; exact .nil
  | cons v vs => obtain ⟨a, as, x, q, rfl⟩ := r.inv; exact .cons x (ih q)
theorem RVs.reverse {vs as} (r : RVs w Z μ h vs as) : RVs w Z μ h vs.reverse as.reverse := by
 induction vs generalizing as with
 | nil => rw [r.nil_of]; exact .nil
 | cons v vs ih => obtain ⟨a, as, x, q, rfl⟩ := r.inv; rw [List.reverse_cons, List.reverse_cons]; exact (ih q).append (.cons x .nil)
theorem RVs.set {vs as} (r : RVs w Z μ h vs as) {v a} (y : RV w Z μ h v a) (n : Nat) : RVs w Z μ h (vs.set n v) (as.set n a) := by
 induction vs generalizing as n with
 | nil => rw [r.nil_of]; exact .nil
 | cons v vs ih =>
  obtain ⟨a, as, x, q, rfl⟩ := r.inv
  cases n with
  | zero => exact .cons y q
  | succ n => exact .cons x (ih q n)

def KIn (K h : Heap) : Prop := ∀ a o, K.get? a = some o → h.get? a = some o
structure St (w : World) (K : Heap) (base : AP) (Z : AP) (μ : LA) (σ : za) (s : Shared) : Prop where
 kin : KIn K s.heap
 lim : s.heap.NoLimit
 big : ∀ a, base a → ∃ o, s.heap.get? a = some o
 zok : ∀ a, Z a → (∃ o, s.heap.get? a = some o) ∧ a ∉ μ
 len : μ.length = σ.length
 nd : μ.Nodup
 low : ∀ a ∈ μ, ¬ base a
 cells : ∀ (l : Nat) (c : zU) (a : Addr), σ[l]? = some c → μ[l]? = some a → yG w Z μ s.heap c a
 stat : base cStatics
 smod : base sysModules
 nsm : ∀ a, Z a → a ≠ sysModules
 kz : ∀ a o, K.get? a = some o → a ≠ sysModules → Z a

def FS (env : Env) (b : Addr) : Prop := b = env.locals ∨ ∃ x, env.cells.lookup x = some b

structure Ext (W : AP) (Z : AP) (μ : LA) (s : Shared) (Z' : AP) (μ' : LA) (s' : Shared) : Prop where
 pre : ∀ (l : Nat) (a : Addr), μ[l]? = some a → μ'[l]? = some a
 sub : ∀ a, Z a → Z' a
 newZ : ∀ a, Z' a → Z a ∨ s.heap.get? a = none
 newM : ∀ a ∈ μ', a ∈ μ ∨ s.heap.get? a = none
 pres : ∀ b o, s.heap.get? b = some o → b ∉ μ → ¬ W b → s'.heap.get? b = some o
 has : ∀ b o, s.heap.get? b = some o → ∃ o', s'.heap.get? b = some o'
 gens : s'.gens = s.gens
 os : s'.os = s.os
abbrev NoW : AP := fun _ => False

theorem zn {h : Heap} {a : Addr} {o : Obj} {p : Prop} (e : h.get? a = some o) (n : h.get? a = none) : p := by rw [e] at n; cases n
theorem zS (h : Heap) : h.get? h.objs.size = none := Heap.get?_none_of_le (Nat.le_refl _)

theorem Ext.refl (W Z : AP) (μ : LA) (s : Shared) : Ext W Z μ s Z μ s := ⟨fun _ _ e => e, fun _ e => e, fun _ e => .inl e, fun _ e => .inl e, fun _ _ e _ _ => e, fun _ o e => ⟨o, e⟩, rfl, rfl⟩
theorem Ext.back {W Z Z1 : AP} {μ μ1 : LA} {s s₁ : Shared} (x : Ext W Z μ s Z1 μ1 s₁) {a : Addr} (q : s₁.heap.get? a = none) : s.heap.get? a = none := by
 cases e : s.heap.get? a with
 | none => rfl
 | some o => obtain ⟨o', h⟩ := x.has a o e; exact zn h q
theorem Ext.trans {W Z Z1 Z2 : AP} {μ μ1 μ2 : LA} {s s₁ s₂ : Shared} (x : Ext W Z μ s Z1 μ1 s₁) (y : Ext W Z1 μ1 s₁ Z2 μ2 s₂) : Ext W Z μ s Z2 μ2 s₂ :=
 ⟨fun _ _ e => y.pre _ _ (x.pre _ _ e), fun _ e => y.sub _ (x.sub _ e),
  fun a e => (y.newZ a e).elim (x.newZ a) fun q => .inr (x.back q),
  fun a e => (y.newM a e).elim (x.newM a) fun q => .inr (x.back q),
  fun b o e hn hw => y.pres b o (x.pres b o e hn hw) (fun q => (x.newM b q).elim hn fun z => zn e z) hw,
  fun b o e => let ⟨o1, h⟩ := x.has b o e; y.has b o1 h,
  y.gens.trans x.gens, y.os.trans x.os⟩
theorem Ext.weak {W W' Z Z' : AP} {μ μ' : LA} {s s' : Shared} (x : Ext W Z μ s Z' μ' s') (hw : ∀ b, W b → W' b ∨ s.heap.get? b = none) : Ext W' Z μ s Z' μ' s' :=
 ⟨x.pre, x.sub, x.newZ, x.newM, fun b o e hn hw' => x.pres b o e hn fun q => (hw b q).elim hw' fun z => zn e z, x.has, x.gens, x.os⟩
theorem Ext.lift {w : World} {K : Heap} {base : AP} {W Z Z' : AP} {μ μ' : LA} {σ : za} {s s' : Shared} (x : Ext W Z μ s Z' μ' s') (S : St w K base Z μ σ s) (hw : ∀ b, Z b → ¬ W b) : jd Z μ s.heap Z' μ' s'.heap :=
 ⟨x.pre, x.sub, fun a o z e => x.pres a o e (S.zok a z).2 (hw a z)⟩

theorem St.turn {w : World} {K : Heap} {base : AP} {Z : AP} {μ : LA} {σ : za} {s s' : Shared} (S : St w K base Z μ σ s) (hk : ∀ a o, K.get? a = some o → base a) {C : AP} (hC : ∀ b, C b → b ∉ μ ∧ ¬ Z b ∧ ¬ base b)
  (hp : ∀ b o, s.heap.get? b = some o → ¬ C b → s'.heap.get? b = some o) : St w K base Z μ σ s' := by
 have low : ∀ b o, base b → s.heap.get? b = some o → s'.heap.get? b = some o := fun b o hb e => hp b o e fun q => (hC b q).2.2 hb
 have L : jd Z μ s.heap Z μ s'.heap := ⟨fun _ _ e => e, fun _ e => e, fun a o z e => hp a o e fun q => (hC a q).2.1 z⟩
 refine ⟨fun a o e => low a o (hk a o e) (S.kin a o e), ?_, fun a hb => let ⟨o, e⟩ := S.big a hb; ⟨o, low a o hb e⟩, fun a z => ⟨?_, (S.zok a z).2⟩, S.len, S.nd, S.low, fun l c a e1 e2 => ?_, S.stat, S.smod, S.nsm, S.kz⟩
 ·obtain ⟨mc, hn, hm⟩ := S.lim
  exact ⟨mc, by
   obtain ⟨o, es, ep, ho, r⟩ := hn
   exact ⟨o, es, ep, low _ _ S.stat ho, r⟩, hm⟩
 ·obtain ⟨o, ho⟩ := (S.zok a z).1
  exact ⟨o, L.frz a o z ho⟩
 ·have hn : ∀ o, s.heap.get? a = some o → s'.heap.get? a = some o := fun o e => hp a o e fun q => (hC a q).1 (List.mem_of_getElem? e2)
  cases S.cells l c a e1 e2 with
  | list e r => exact .list (hn _ e) (r.lift L)
  | dict e r => exact .dict (hn _ e) (r.lift L)
  | inst e f => exact .inst (hn _ e) f
  | fields e r => exact .fields (hn _ e) (r.lift L)
  | barr e => exact .barr (hn _ e)

theorem yG.has {w : World} {Z : AP} {μ : LA} {h : Heap} {c : zU} {a : Addr} (r : yG w Z μ h c a) : ∃ o, h.get? a = some o := by cases r <;> exact ⟨_, ‹_›⟩
theorem St.hasM {w : World} {K : Heap} {base : AP} {Z : AP} {μ : LA} {σ : za} {s : Shared} (S : St w K base Z μ σ s) {a : Addr} (h : a ∈ μ) : ∃ o, s.heap.get? a = some o := by
 obtain ⟨l, hl, e⟩ := List.getElem_of_mem h
 obtain ⟨c, hc⟩ : ∃ c, σ[l]? = some c := ⟨_, List.getElem?_eq_getElem (S.len ▸ hl)⟩
 exact (S.cells l c a hc (by rw [List.getElem?_eq_getElem hl, e])).has

theorem St.freezeAt {w : World} {K : Heap} {base : AP} {Z : AP} {μ : LA} {σ : za} {s s' : Shared} (S : St w K base Z μ σ s) (hk : ∀ a o, K.get? a = some o → base a) {n : Addr} {o : Obj} (h0 : s.heap.get? n = none) (hp : ∀ b x, s.heap.get? b = some x → s'.heap.get? b = some x) (hn : s'.heap.get? n = some o) (hg : s'.gens = s.gens) (ho : s'.os = s.os) :
  St w K base (fun a => Z a ∨ a = n) μ σ s' ∧ (∀ W, Ext W Z μ s (fun a => Z a ∨ a = n) μ s') := by
 have T := S.turn hk (C := NoW) (fun _ q => q.elim) (fun b x e _ => hp b x e)
 have hm : n ∉ μ := fun q => by obtain ⟨o', e'⟩ := S.hasM q; exact zn e' h0
 have L : jd Z μ s'.heap (fun a => Z a ∨ a = n) μ s'.heap := ⟨fun _ _ e => e, fun _ e => .inl e, fun _ _ _ e => e⟩
 refine ⟨⟨T.kin, T.lim, T.big, fun a z => ?_, T.len, T.nd, T.low, fun l c a e1 e2 => ?_, T.stat, T.smod, fun a z => z.elim (T.nsm a) fun q => ?_, fun a o h n => .inl (T.kz a o h n)⟩, fun W => ⟨fun _ _ e => e, fun _ e => .inl e, fun a z => z.imp id fun q => by rw [q]; exact h0, fun _ e => .inl e, fun b x e _ _ => hp b x e, fun b x e => ⟨x, hp b x e⟩, hg, ho⟩⟩
 ·rcases z with z | rfl
  ·exact T.zok a z
  ·exact ⟨⟨_, hn⟩, hm⟩
 ·cases T.cells l c a e1 e2 with
  | list e r => exact .list e (r.lift L)
  | dict e r => exact .dict e (r.lift L)
  | inst e f => exact .inst e f
  | fields e r => exact .fields e (r.lift L)
  | barr e => exact .barr e
 ·subst q
  rintro rfl
  obtain ⟨o', e'⟩ := S.big _ S.smod
  exact zn e' h0
theorem St.freeze {w : World} {K : Heap} {base : AP} {Z : AP} {μ : LA} {σ : za} {s s' : Shared} (S : St w K base Z μ σ s) (hk : ∀ a o, K.get? a = some o → base a) (o : Obj) (hf : o.isFreed = false) (he : s'.heap = s.heap.push o) (hg : s'.gens = s.gens) (ho : s'.os = s.os) :
  St w K base (fun a => Z a ∨ a = s.heap.objs.size) μ σ s' ∧ (∀ W, Ext W Z μ s (fun a => Z a ∨ a = s.heap.objs.size) μ s') ∧ s'.heap.get? s.heap.objs.size = some o := by
 have hn : s'.heap.get? s.heap.objs.size = some o := by rw [he]; exact Heap.get?_push_size _ hf
 obtain ⟨h1, h2⟩ := S.freezeAt hk (zS _) (fun b x e => by rw [he]; exact Heap.get?_push_of_some _ e) hn hg ho
 exact ⟨h1, h2, hn⟩
end
end
end
end Mine
namespace Mine
noncomputable section
open PySem PySem.W PyProof.Rows PySem.Calls
section
noncomputable def Ep : Code → Bool
 | .builtin id _ => Builtin.Bytes.decodersThatHold.contains id || ["bytearray.__contains__", "bytearray.__mod__", "bytearray.__rmod__", "_struct.pack_into.held", "bytearray.find.held"].contains id
 | _ => false
def OkS (l : List (Code × Pos)) : Prop := ∀ x ∈ l, Ep x.1 = false
def OkC (Γ : Ctx) : Prop := Ep Γ.code = false ∧ OkS Γ.below
abbrev NoE : KV := fun _ _ => False

def wpC {α : Type} (M : Model) (A : Around) (t : Sem α) (Q : α → Shared → Prop) (s : Shared) : Prop :=
 ∀ Γ p, Γ.In A → OkC Γ → Sem.wp M Γ t (fun a _ s' => Q a s') (fun _ _ _ => False) p s
def zV (M : Model) (A : Around) (c : Code) (R : KG) (s : Shared) : Prop :=
 ∀ Γ p, Γ.code = c → Γ.Below A → OkS Γ.below → wpCode M Γ (fun r s' => match r with | .ok f => R f s' | .error _ => False) p s

section
variable {α β : Type} {M : Model} {A : Around} {s : Shared} {env : Env}
theorem wpC.of {t : Sem α} {Q : α → Shared → Prop} (h : wpAny M A t Q NoE s) : wpC M A t Q s := fun Γ p hΓ _ => h Γ p hΓ
theorem zf {a : α} {Q : α → Shared → Prop} (h : Q a s) : wpC M A (pure a) Q s := fun _ _ _ _ => h
theorem zi {t : Sem α} {Q Q' : α → Shared → Prop} (h : wpC M A t Q s) (hQ : ∀ a s, Q a s → Q' a s) : wpC M A t Q' s :=
 fun Γ p hΓ hC => Sem.wp_mono M Γ t (fun a _ s => hQ a s) (fun _ _ _ h => h) p s (h Γ p hΓ hC)
theorem zb {m : Sem α} {f : α → Sem β} {Q : β → Shared → Prop} (h : wpC M A m (fun a s' => wpC M A (f a) Q s') s) : wpC M A (m >>= f) Q s := fun Γ p hΓ hC => by
 rw [Sem.wp_bind']
 exact Sem.wp_mono M Γ m (fun a p' s' h' => h' Γ p' hΓ hC) (fun _ _ _ h' => h') p s (h Γ p hΓ hC)
theorem ze {m : Sem α} {f : α → Sem β} {Q : β → Shared → Prop} (h : wpAny M A m (fun a s' => wpC M A (f a) Q s') NoE s) : wpC M A (m >>= f) Q s := zb (.of h)
theorem zg {vs : List Value} {m : Sem α} {Q : α → Shared → Prop} (h : wpC M A m Q s) : wpC M A (holding vs m) Q s :=
 fun Γ p hΓ hC => by rw [Sem.wp_holding]; exact h Γ p hΓ hC
theorem yl {m : Sem α} {k : Value → Sem Unit} {Q : α → Shared → Prop} (h : wpC M A m Q s) : wpC M A (m.onRaise k) Q s := fun Γ p hΓ hC => by
 rw [Sem.wp_onRaise]
 exact Sem.wp_mono M Γ m (fun _ _ _ h' => h') (fun e p' s' h' => h'.elim) p s (h Γ p hΓ hC)
theorem Yj {m : Sem α} {Q : Except Value α → Shared → Prop} (h : wpC M A m (fun a => Q (.ok a)) s) : wpC M A m.attempt Q s := fun Γ p hΓ hC => by
 rw [Sem.wp_attempt]
 exact Sem.wp_mono M Γ m (fun _ _ _ h' => h') (fun e p' s' h' => h'.elim) p s (h Γ p hΓ hC)
theorem js {vs : List Value} {m : Sem Value} {Q : KV} (h : wpC M A m Q s) : wpC M A (operate vs m) Q s :=
 fun Γ p hΓ hC => by rw [Sem.wp_operate]; exact h Γ p hΓ hC
theorem Ez {m : Sem α} {vs : List Value} {Q : α → Shared → Prop} (h : wpC M A m Q s) : wpC M A (m.keep vs) Q s :=
 fun Γ p hΓ hC => by rw [Sem.wp_keep]; exact h Γ p hΓ hC
theorem xm {vs keep : List Value} {Q : KU} (h : Q () s) : wpC M A (release vs keep) Q s := fun Γ p _ _ => by rw [Sem.wp_release]; exact h
theorem zj {pos : Pos} {f : Unit → Sem β} {Q : β → Shared → Prop} (h : wpC M A (f ()) Q s) : wpC M A (standAt pos >>= f) Q s := ze (wpAny_standAt h)
theorem Dn {f : Unit → Sem β} {Q : β → Shared → Prop} (h : wpC M A (f ()) Q s) : wpC M A (point >>= f) Q s := ze (wpAny_point h)
theorem yc {x : Str} {v : Value} {Q : KU} (h : wpC M A (storeName env x v) Q s) : wpC M A (bindName env x v) Q s :=
 fun Γ p hΓ hC => by rw [Sem.wp_bindName]; exact h Γ p hΓ hC

theorem OkC.enter {Γ : Ctx} (h : OkC Γ) (c : Code) (hd : Option Value) (p : Pos) : OkS (Γ.enter c hd p).below := by
 intro x hx
 rcases List.mem_cons.mp (show x ∈ (Γ.code, p) :: Γ.below from hx) with rfl | hx
 ·exact h.1
 ·exact h.2 x hx
theorem Xo {c : Code} {Q : KV} (hc : zV M A c (fun f s' => match f with | .ret v => Q v s' | _ => False) s) : wpC M A (runValue c) Q s := fun Γ p hΓ hC => by
 rw [Sem.wp_runValue]
 refine wpCode_mono (fun r s' h => ?_) (hc _ p rfl (hΓ.enter c none p (by intro x; cases x)) (hC.enter c none p))
 cases r with
 | ok f => cases f <;> exact h
 | error e => exact h
theorem BZ {c : Code} {Q : KG} (hc : zV M A c Q s) : wpC M A (run c) Q s := fun Γ p hΓ hC => by
 rw [Sem.wp_run]
 refine wpCode_mono (fun r s' h => ?_) (hc _ p rfl (hΓ.enter c none p (by intro x; cases x)) (hC.enter c none p))
 cases r <;> exact h
theorem jg {f : Value} {as : List Value} {Q : KV} (hc : zV M A (.call f ⟨as, []⟩) (fun f s' => match f with | .ret v => Q v s' | _ => False) s) : wpC M A (call f as) Q s := Xo hc
theorem qi {c : Code} {R R' : KG} (h : zV M A c R s) (hR : ∀ r s, R r s → R' r s) : zV M A c R' s :=
 fun Γ p hc hΓ hC => wpCode_mono (fun r s' h => by cases r; exact h; exact hR _ _ h) (h Γ p hc hΓ hC)
theorem zC {c : Code} {R : KG} (hb : Ep c = false)
  (h : wpC M (A.under c) (M.den c) (fun fin s' => match fin with | .done f => R f s' | .again c' => c'.quiet = true ∧ zV M A c' R s') s) : zV M A c R s := fun Γ p hc hΓ hC => by
 rw [wpCode_iff_wp, hc]
 refine Sem.wp_mono M Γ _ (fun fin p' s' h' => ?_) (fun _ _ _ h' => h') p s (h Γ p (hc ▸ hΓ.in) ⟨by rw [hc]; exact hb, hC⟩)
 cases fin with
 | done f => exact h'
 | again c' => exact ⟨h'.1, h'.2 (Γ.goto c') p' rfl (hΓ.goto c') hC⟩
theorem qj {c : Code} {R : KG} (hb : Ep c = false) (hq : c.quiet = true) (I : Nat → Shared → Prop)
  (turn : ∀ n s, I n s → wpC M (A.under c) (M.den c) (fun fin s' => match fin with | .done f => R f s' | .again c' => (c' = c ∧ ∃ m, m < n ∧ I m s') ∨ (c'.quiet = true ∧ zV M A c' R s')) s)
  (n : Nat) (h : I n s) : zV M A c R s := by
 induction n using Nat.strongRecOn generalizing s with
 | ind n ih =>
  refine zC hb (zi (turn n s h) fun fin s' hf => ?_)
  cases fin with
  | done f => exact hf
  | again c' =>
   rcases hf with ⟨rfl, m, hm, hI⟩ | hf
   ·exact ⟨hq, ih m hm hI⟩
   ·exact hf
end

section
variable {P : Program} {w : World} {A : Around} {s : Shared} {env : Env} {Q : KV}
theorem C_Name {x : Str} {pos : Pos} (h : wpAny (model P w) A (loadName env x) Q NoE s) (hd : (x == ("__debug__" : Str)) = false) : wpC (model P w) A (eval (.Name x pos) env) Q s := .of (wpAny_Name h hd)
theorem C_BinOp {l r : Expr} {op : Operator} {pos : Pos}
  (h : wpC (model P w) A (eval l env) (fun a s₁ => wpC (model P w) A (eval r env) (fun b s₂ => wpAny (model P w) A (binaryOp op a b) Q NoE s₂) s₁) s) : wpC (model P w) A (eval (.BinOp l op r pos) env) Q s := by
 rw [arm_eval_BinOp]
 exact zb (zi h fun a s₁ h1 => zb (zg (zi h1 fun b s₂ h2 => zj (js (.of h2)))))
theorem Ey {x : Expr} {op : UnaryOp} {pos : Pos} (h : wpC (model P w) A (eval x env) (fun v s₁ => wpAny (model P w) A (unaryOp op v) Q NoE s₁) s) : wpC (model P w) A (eval (.UnaryOp op x pos) env) Q s := by
 rw [arm_eval_UnaryOp]
 exact zb (zi h fun v s₁ h1 => zj (zg (.of h1)))
theorem C_IfExp {t b o : Expr} {pos : Pos} (h : wpC (model P w) A (isTrue t env (eval t env)) (fun c s₁ => wpC (model P w) A (eval (match c with | true => b | false => o) env) Q s₁) s) : wpC (model P w) A (eval (.IfExp t b o pos) env) Q s := by
 rw [arm_eval_IfExp]
 refine zb (zi h fun c s₁ h1 => ?_)
 cases c <;> exact h1
theorem JA {x : Sem Value} {rest : List (Bool × Sem Value)} {QL : List Value → Shared → Prop} (h : wpC (model P w) A x (fun v s₁ => wpC (model P w) A (spliced rest) (fun vs s₂ => QL (v :: vs) s₂) s₁) s) : wpC (model P w) A (spliced ((false, x) :: rest)) QL s := by
 rw [spliced]
 refine zb (zi h fun v s₁ h1 => ?_)
 show wpC _ _ (pure [v] >>= fun here => holding here (spliced rest) >>= fun r => pure (here ++ r)) _ _
 exact ze (wpAny_pure (zb (zg (zi h1 fun vs s₂ h2 => zf h2))))
theorem C_Tuple {elts : List Expr} {x1 : Nat} {pos : Pos} (h : wpC (model P w) A (spliced (backTo pos (starEach elts env))) (fun vs s₁ => vs.length ≤ sizeLine ∧ Q (.ref s₁.heap.objs.size) { s₁ with heap := s₁.heap.push { cls := .type "tuple", data := .seq vs.toArray } }) s) :
  wpC (model P w) A (eval (.Tuple elts x1 pos) env) Q s := by
 rw [arm_eval_Tuple]
 exact zj (zb (zi h fun vs s₁ h1 => .of (wpAny_newTuple h1.2 h1.1)))
theorem C_List {elts : List Expr} {pos : Pos} (h : wpC (model P w) A (spliced (backTo pos (starEach elts env))) (fun vs s₁ => vs.length ≤ sizeLine ∧ Q (.ref s₁.heap.objs.size) { s₁ with heap := s₁.heap.push { cls := .type "list", data := .seq vs.toArray } }) s) :
  wpC (model P w) A (eval (.List elts pos) env) Q s := by
 rw [arm_eval_List]
 exact zj (zb (zi h fun vs s₁ h1 => .of (wpAny_newList h1.2 h1.1)))
theorem xJ {value slice : Expr} {pos : Pos} (h : wpC (model P w) A (eval value env) (fun o s₁ => wpC (model P w) A (eval slice env) (fun i s₂ => wpAny (model P w) A (subscriptTail value slice o i) Q NoE s₂) s₁) s) :
  wpC (model P w) A (eval (.Subscript value slice pos) env) Q s := by
 rw [arm_eval_Subscript]
 exact zb (zi h fun o s₁ h1 => zb (zg (zi h1 fun i s₂ h2 => zj (.of h2))))
theorem Dk {lower upper step : Option Expr} {pos : Pos}
  (h : wpC (model P w) A (evalPart lower env) (fun l s₁ => wpC (model P w) A (evalPart upper env) (fun u s₂ => wpC (model P w) A (evalPart step env) (fun st s3 =>
   Q (.ref s3.heap.objs.size) { s3 with heap := s3.heap.push { cls := .type "slice", data := .fields #[l, u, st] } }) s₂) s₁) s) :
  wpC (model P w) A (eval (.Slice lower upper step pos) env) Q s := by
 show wpC (model P w) A (do
  let l ← evalPart lower env
  let u ← holding [l] (evalPart upper env)
  let st ← holding [l, u] (evalPart step env)
  newFields "slice" [l, u, st]) Q s
 exact zb (zi h fun l s₁ h1 => zb (zg (zi h1 fun u s₂ h2 => zb (zg (zi h2 fun st s3 h3 => .of (wpAny_newObj_type h3))))))
theorem BY {l r : Expr} {op : CmpOp} {pos : Pos} (h : wpC (model P w) A (eval l env) (fun a s₁ => wpC (model P w) A (eval r env) (fun b s₂ => wpAny (model P w) A (compareOp op a b) Q NoE s₂) s₁) s)
  (hm : behindInMarks op r = false) : wpC (model P w) A (eval (.Compare l [op] [r] pos) env) Q s := by
 rw [eval_Compare1, markedBehindIn_of_false hm]
 exact zb (zi h fun a s₁ h1 => zb (zg (zi h1 fun b s₂ h2 => zj (js (.of h2)))))
variable {QB : KB}
theorem T_Not {x : Expr} {pos : Pos} {whole : Sem Value} (h : wpC (model P w) A (isTrue x env (eval x env)) (fun c s' => QB (!c) s') s) : wpC (model P w) A (isTrue (.UnaryOp .Not x pos) env whole) QB s := by
 rw [arm_isTrue_UnaryOp]
 exact zb (zi h fun c s' h' => zf h')
theorem GI {op : BoolOp} {vs : List Expr} {pos : Pos} {whole : Sem Value} (h : wpC (model P w) A (allTrue op vs env) QB s) : wpC (model P w) A (isTrue (.BoolOp op vs pos) env whole) QB s := h
theorem T_all {op : BoolOp} {x : Expr} {rest : List Expr} (h : wpC (model P w) A (isTrue x env (eval x env)) (fun b s₁ => match op, b with | .And, false => QB false s₁ | .Or, true => QB true s₁ | _, _ => wpC (model P w) A (allTrue op rest env) QB s₁) s) :
  wpC (model P w) A (allTrue op (x :: rest) env) QB s := by
 rw [arm_allTrue_cons]
 refine zb (zi h fun b s₁ h1 => ?_)
 cases op <;> cases b <;> first | exact zf h1 | exact h1
theorem T_plain {e : Expr} {whole : Sem Value} (h : wpC (model P w) A whole (fun v s₁ => wpAny (model P w) A (truthy v) QB NoE s₁) s) (he : isTrue e env whole = (do let v ← whole; standAt e.pos; holding [v] (truthy v))) : wpC (model P w) A (isTrue e env whole) QB s := by
 rw [he]
 exact zb (zi h fun v s₁ h1 => zj (zg (.of h1)))
theorem T_chain {l : Expr} {ops : List CmpOp} {rs : List Expr} {pos : Pos} {whole : Sem Value} (h : wpC (model P w) A (eval l env) (fun a s₁ => wpC (model P w) A (testChain pos a ops (evalEach rs env)) QB s₁) s)
  (hm : lastMarks ops rs = false) : wpC (model P w) A (isTrue (.Compare l ops rs pos) env whole) QB s := by
 rw [arm_isTrue_Compare, markedEach_of_false _ _ _ hm]
 exact zb h
theorem T_link {pos : Pos} {a : Value} {op op' : CmpOp} {ops : List CmpOp} {r r' : Sem Value} {rs : List (Sem Value)}
  (h : wpC (model P w) A r (fun b s₁ => wpAny (model P w) A (compareOp op a b) (fun c s₂ => wpAny (model P w) A (truthy c) (fun t s3 => match t with | true => wpC (model P w) A (testChain pos b (op' :: ops) (r' :: rs)) QB s3 | false => QB false s3) NoE s₂) NoE s₁) s) :
  wpC (model P w) A (testChain pos a (op :: op' :: ops) (r :: r' :: rs)) QB s := by
 show wpC _ A (do
  let rv ← holding [a] r
  standAt pos
  let c ← holding [a, rv] (compareOp op a rv)
  release [a, rv] [c]
  if ← holding [c, rv] (truthy c) then testChain pos rv (op' :: ops) (r' :: rs) else pure false) QB s
 refine zb (zg (zi h fun b s₁ h1 => zj (zb (zg (zi (.of h1) fun c s₂ h2 => zb (xm (zb (zg (zi (.of h2) fun t s3 h3 => ?_)))))))))
 cases t with
 | false => exact zf h3
 | true => exact h3
theorem T_last {pos : Pos} {a : Value} {op : CmpOp} {r : Sem Value} (h : wpC (model P w) A r (fun b s₁ => wpAny (model P w) A (compareOp op a b) (fun c s₂ => wpAny (model P w) A (truthy c) QB NoE s₂) NoE s₁) s) : wpC (model P w) A (testChain pos a [op] [r]) QB s := by
 show wpC _ A (do
  let rv ← holding [a] r
  standAt pos
  let c ← operate [a, rv] (compareOp op a rv)
  holding [c] (truthy c)) QB s
 exact zb (zg (zi h fun b s₁ h1 => zj (zb (js (zi (.of h1) fun c s₂ h2 => zg (.of h2))))))
end
end
section
section
variable {P : Program} {w : World} {A : Around} {s : Shared} {env : Env} {Q : KG} {R : KG}

theorem X_nil (h : Q .next s) : wpC (model P w) A (execs [] env) Q s := fun _ _ _ _ => h
theorem X_cons {st : Stmt} {rest : List Stmt} (h : wpC (model P w) A (exec st env) (fun f s' => match f with | .next => wpC (model P w) A (execs rest env) Q s' | f => Q f s') s) : wpC (model P w) A (execs (st :: rest) env) Q s := by
 rw [execs_cons]
 refine zb (zi h fun f s' h' => ?_)
 cases f <;> first | exact h' | exact zf h'
theorem X_If {test : Expr} {body orelse : List Stmt} {pos : Pos} (h : wpC (model P w) A (isTrue test env (eval test env)) (fun b s₂ => wpC (model P w) A (execs (match b with | true => body | false => orelse) env) Q s₂) s) : wpC (model P w) A (exec (.If test body orelse pos) env) Q s := by
 rw [exec_If]
 refine zj (zb (zi h fun b s₂ h2 => ?_))
 cases b <;> exact h2
theorem GH {e : Expr} {pos : Pos} (h : wpC (model P w) A (eval e env) (fun v => Q (.ret v)) s) : wpC (model P w) A (exec (.Return (some e) pos) env) Q s := by
 rw [exec_Return_some]
 exact zj (zb (zi h fun v s' h' => zf h'))
theorem JN {pos : Pos} (h : Q (.ret .none) s) : wpC (model P w) A (exec (.Return none pos) env) Q s := .of (wpAny_Return_none h)
theorem X_Pass {pos : Pos} (h : Q .next s) : wpC (model P w) A (exec (.Pass pos) env) Q s := .of (wpAny_Pass h)
theorem X_Expr {e : Expr} {pos : Pos} (h : wpC (model P w) A (eval e env) (fun _ => Q .next) s) (hi : interactive env = false) (hs : swapsWith e none pos.line env = pure false) : wpC (model P w) A (exec (.Expr e pos) env) Q s := by
 rw [exec_Expr env e pos hi hs]
 exact zj (zb (zi h fun v s' h' => .of (wpAny_dropValue h')))
theorem Ew {x : Str} {pos' pos : Pos} {op : Operator} {value : Expr} (h : wpAny (model P w) A (loadName env x) (fun old s₁ => wpC (model P w) A (eval value env) (fun v s₂ => wpC (model P w) A (inplaceOp op old v) (fun r s3 => wpAny (model P w) A (storeName env x r) (fun _ => Q .next) NoE s3) s₂) s₁) NoE s) :
  wpC (model P w) A (exec (.AugAssign (.Name x pos') op value pos) env) Q s := by
 rw [exec_AugAssign_Name]
 exact zj (ze (wpAny_mono h (fun old s₁ h1 => zb (zg (zi h1 fun v s₂ h2 => zj (zb (js (zi h2 fun r s3 h3 => zj (zb (yc (.of (wpAny_mono h3 (fun _ _ h => zf h) fun _ _ h => h)))))))))) fun _ _ h => h))

theorem Jz {targets : List Expr} {value : Expr} {pos : Pos} {sw : Option (List Str)} (h : wpC (model P w) A (eval value env) (fun v s₁ => wpC (model P w) A (assignStores env v sw ((assignEach targets env).map (·.2))) Q s₁) s)
  (hs : swapsWithSole targets value pos.line env = pure false) (hw : swappedStores targets value env = pure sw) : wpC (model P w) A (exec (.Assign targets value pos) env) Q s := by
 rw [arm_exec_Assign, hs]
 refine zj ?_
 show wpC _ _ (do
   let v ← eval value env
   assignStores env v (← swappedStores targets value env) ((assignEach targets env).map (·.2))) _ _
 rw [hw]
 exact zb (zi h fun v s₁ h1 => h1)
theorem AM {v : Value} {stores : List (Value → Sem Unit)} (h : wpC (model P w) A (assignAll v stores) (fun _ => Q .next) s) : wpC (model P w) A (assignStores env v none stores) Q s :=
 zb (zi h fun _ _ h => zf h)
theorem X_Try {body orelse : List Stmt} {hs : List ExceptHandler} {pos : Pos} (h : wpC (model P w) A (execs body env) (fun f s₁ => match f with | .next => wpC (model P w) A (execs orelse env) Q s₁ | f => Q f s₁) s) :
  wpC (model P w) A (exec (.Try body hs orelse [] pos) env) Q s := by
 rw [arm_exec_Try]
 refine zj ?_
 unfold tryStmt
 simp only [List.isEmpty_nil, if_true]
 refine zb (Yj (zi h fun f s₁ h1 => ?_))
 cases f <;> first | exact h1 | exact zf h1

theorem YP {c : Code} (h : zV (model P w) A c Q s) : wpC (model P w) A (runOwn c env) Q s := by
 unfold runOwn
 exact yl (BZ h)
theorem X_While {test : Expr} {body orelse : List Stmt} {pos : Pos} (h : zV (model P w) A (.whileLoop test body orelse env) Q s) : wpC (model P w) A (exec (.While test body orelse pos) env) Q s := by
 rw [exec_While]; exact zj (YP h)
theorem whileC {test : Expr} {body orelse : List Stmt} (I : Nat → Shared → Prop)
  (turn : ∀ n s, I n s → wpC (model P w) A (isTrue test env (eval test env)) (fun b s₂ => match b with
    | true => wpC (model P w) A (execs body env) (fun f s3 => match f with
      | .next | .cont => ∃ m, m < n ∧ I m s3
      | .brk => R .next s3
      | .ret v => R (.ret v) s3) s₂
    | false => wpC (model P w) A (execs orelse env) R s₂) s)
  (n : Nat) (h : I n s) : zV (model P w) A (.whileLoop test body orelse env) R s := by
 refine qj rfl rfl I (fun n s hI => ?_) n h
 show wpC _ A ((whileTurn test body orelse env).onRaise (fun x => do noteFrame x env; theTreesLotGoes x)) _ s
 refine yl ?_
 simp only [whileTurn]
 refine zb (zi (turn n s hI) fun b s₂ h2 => ?_)
 cases b with
 | false =>
  simp only [Bool.false_eq_true, if_false] at h2 ⊢
  exact zb (zi h2 fun f s3 h3 => zf h3)
 | true =>
  simp only [if_true] at h2 ⊢
  refine zb (zi h2 fun f s3 h3 => ?_)
  cases f with
  | next => exact zf (.inl ⟨rfl, h3⟩)
  | cont => exact zf (.inl ⟨rfl, h3⟩)
  | brk => exact zf h3
  | ret v => exact zf h3
theorem X_For {target iter : Expr} {body orelse : List Stmt} {pos : Pos}
  (h : wpC (model P w) A (eval iter env) (fun x s₁ => wpAny (model P w) A (pyIter x) (fun it s₂ => zV (model P w) A (.forLoop target it body orelse env) Q s₂) NoE s₁) s) (hs : ∀ x, foldedSetIterable iter env x = pure x) :
  wpC (model P w) A (exec (.For target iter body orelse pos) env) Q s := by
 rw [exec_For]
 exact zj (zb (zi h fun x s₁ h1 => ze (wpAny_of_eq (hs x) (zj (zb (zg (.of (wpAny_mono h1 (fun it s₂ h2 => YP h2) fun _ _ h => h))))))))
theorem blockC {stmts : List Stmt} (h : wpC (model P w) A (execs stmts env) R s) : zV (model P w) A (.block stmts env) R s := by
 refine zC rfl ?_
 show wpC _ _ (do return Fin.done (← (execs stmts env).onRaise (fun x => do noteFrame x env; theTreesLotGoes x))) _ s
 exact zb (yl (zi h fun f s' h' => zf h'))
theorem forC {target : Expr} {it : Value} {body orelse : List Stmt} (I : Nat → Shared → Prop)
  (turn : ∀ n s, I n s → wpAny (model P w) A (pyNext it) (fun r s₁ => match r with
   | none => wpC (model P w) A (execs orelse env) R s₁
   | some v => wpAny (model P w) A (letOwnedTupleGo target it v) (fun _ s1' => wpC (model P w) A (assign target env v) (fun _ s₂ => wpC (model P w) A (execs body env) (fun f s3 => match f with
      | .next | .cont => ∃ m, m < n ∧ I m s3
      | .brk => R .next s3
      | .ret v => R (.ret v) s3) s₂) s1') NoE s₁) NoE s)
  (n : Nat) (h : I n s) : zV (model P w) A (.forLoop target it body orelse env) R s := by
 refine qj rfl rfl I (fun n s hI => ?_) n h
 show wpC _ A ((forTurn target it body orelse env).onRaise (fun x => do noteFrame x env; theTreesLotGoes x)) _ s
 refine yl ?_
 simp only [forTurn]
 refine zj (zb (yl (zi (.of (turn n s hI)) fun r s₁ h1 => ?_)))
 cases r with
 | none => exact zf (.inr ⟨rfl, blockC h1⟩)
 | some v =>
  refine ze (wpAny_mono h1 (fun _ s1' h1' => ?_) fun _ _ h' => h')
  refine zb (zi h1' fun _ s₂ h2 => zb (zi h2 fun f s3 h3 => ?_))
  cases f with
  | next => exact zf (.inl ⟨rfl, h3⟩)
  | cont => exact zf (.inl ⟨rfl, h3⟩)
  | brk => exact zf h3
  | ret v => exact zf h3

theorem funcC {body : List Stmt} (h : wpC (model P w) (A.deeper env) (execs body env) (fun f s' => R (.ret (match f with | .ret v => v | _ => .none)) s') s) : zV (model P w) A (.func body env) R s := by
 refine zC rfl ?_
 show wpC _ (A.deeper env) (do point; match ← (execs body env).onRaise (leaving env) with | .ret v => ret v | _ => ret .none) _ s
 refine Dn (zb (yl (zi h fun f s' h' => ?_)))
 cases f <;> exact zf h'
theorem Jv {a : Addr} {args : Args} {o : Obj} {fd : FuncData} {body : List Stmt} (hroom : A.depth < recursionLimit)
  (ho : s.heap.get? a = some o) (hd' : o.data = .func fd) (hco : fd.scope.isCoroutine = false) (hgen : fd.scope.isGenerator = false) (hbody : fd.body = .stmts body) (hcd : s.heap.CodeRec fd.code fd.qualname)
  (h : wpAny (model P w) A.in1 (bindArgs fd args) (fun binds s₁ =>
   wpAny (model P w) A.in1 (newFunctionEnv fd.scope fd.globals fd.closure binds (fd.qualname ++ ".<locals>.") (some a) fd.code none fd.builtins)
    (fun env s₂ => s₂.heap.NoLimit ∧ zV (model P w) A (.func body env) R s₂) NoE s₁) NoE s) :
  zV (model P w) A (.call (.ref a) args) R s := by
 refine zC rfl ?_
 show wpC _ A.in1 (callAny (.ref a) args) _ s
 simp only [callAny]
 refine ze (wpAny_load ho ?_)
 obtain ⟨c, oc, vs, tq, hc, hoc, hdc, hq⟩ := hcd
 simp only [hd', callFunction, hco, hgen, hbody, hc]
 rw [hc] at h
 refine zb (m := field (.ref c) 1) (.of (wpAny_field hoc hdc hq (zb (zf ?_))))
 exact ze (wpAny_mono h (fun binds s₁ h1 => ze (wpAny_mono h1 (fun env s₂ h2 => ze (wpAny_enterFrame h2.1 hroom
  (zf (And.intro rfl h2.2)))) fun _ _ h' => h')) fun _ _ h' => h')
end
end
section
set_option maxHeartbeats 4000000
section
variable {P : Program} {w : World} {A : Around}
theorem xC {P : Program} {w : World} {id : String} {b : Builtin} (args : Args) (hb : entryFor table id = some b) : (model P w).den (.builtin id args) = b args := by
 show (match entryFor table id with | some b => b args | none => unsupported ((withoutEnding? id "#data").getD id)) = _
 rw [hb]
theorem makeC {C : Addr} {h : Heap} {g : Array GenState} {d : Drawn} {t : Nat} {os : OsState} {rest : List Value} {init : Value} {R : KG} (Y : Makes (model P w) h C) (hi : Looks (model P w) h (typeLookup (.ref C) "__init__") (some init))
  (hb : ∀ self, Looks (model P w) h (bindSpecial init self) (init, [self])) (hne : (some init != some (Value.builtin "object.__init__")) = true)
  (hq : zV (model P w) (A.under (.builtin "type.__call__" ⟨.ref C :: rest, []⟩)) (.call init ⟨.ref (h.objs.size + 1) :: rest, []⟩) (fun f s' => match f with | .ret v => v = .none ∧ R (.ret (.ref (h.objs.size + 1))) s' | _ => False) ⟨(h.push emptyDict).push (instObj C h.objs.size), g, d, t, os⟩) :
  zV (model P w) A (.call (.ref C) ⟨rest, []⟩) R ⟨h, g, d, t, os⟩ := by
 have Y' := Y
 obtain ⟨⟨oc, od, cd, sl, hC, e1, e2, e4⟩, made, base, self, top, call, typ⟩ := Y
 refine zC rfl ?_
 show wpC _ _ (callAny (.ref C) _) _ _
 unfold callAny
 refine ze (wpAny_load hC ?_)
 dsimp only
 unfold callAny.viaDunder
 refine ze (call.at ?_)
 dsimp only
 rw [tc_bind]
 refine ze (wpAny_pure (ze (wpAny_pure ?_)))
 refine zf (a := Fin.again (.call (.builtin "type.__call__") ⟨.ref C :: rest, []⟩)) ⟨rfl, ?_⟩
 refine zC rfl ?_
 show wpC _ A.in1 (do checkBuiltinCall "type.__call__" ⟨.ref C :: rest, []⟩; again (.builtin "type.__call__" ⟨.ref C :: rest, []⟩)) _ _
 refine ze (check_slot tc_kind tc_split typ (tc_args _ _ _) (zf ⟨Code.quiet_builtin _ (by decide +kernel), ?_⟩))
 refine zC (by kernel_rfl) ?_
 have eden := xC (P := P) (w := w) (id := "type.__call__") ⟨.ref C :: rest, []⟩ entry_typeCall
 rw [eden]
 have hm : Looks (model P w) h (mroOf (.ref C)) cd.mro := ((Looks.ld (part := none) hC).andThen .now).andThen .now
 show wpC _ _ (Builtin.«type.__call__» ⟨.ref C :: rest, []⟩) _ _
 have e : Builtin.«type.__call__» ⟨.ref C :: rest, []⟩ = (do
  if (← mroOf (.ref C)).isEmpty then rule "type.call.half-made"; raiseError "TypeError" s!"cannot create '{← typeName (.ref C)}' instances"
  let new ← match ← Bind.madeBy (.ref C) with
   | some id => pure (.builtin id)
   | none => getAttr (.ref C) "__new__"
  let obj ← holding [new] (PySem.call new (.ref C :: rest) [])
  if !(← isInstance obj (.ref C)) then rule "type.call.new-gave-other-type"; return ← ret obj
  match ← holding [obj] (callSpecial? obj "__init__" rest []) with
  | none => ret obj
  | some r =>
   if r != .none then
    rule "type.call.init-returned-value"
    raiseError "TypeError" s!"__init__() should return None, not '{← PySem.typeNameOf r}'"
   ret obj) := by kernel_rfl
 rw [e]
 refine ze (hm.at ?_)
 rw [if_neg (by rw [e4]; exact Bool.false_ne_true)]
 refine ze (made.at ?_)
 refine ze (wpAny_pure ?_)
 refine zb (zg (.of (wpAny_call (new_K Y' hi (.inl hne) ?_))))
 have k : ∀ b o, h.get? b = some o → ((h.push emptyDict).push (instObj C h.objs.size)).get? b = some o := fun b o e => Heap.get?_push_of_some _ (Heap.get?_push_of_some _ e)
 have hx : ((h.push emptyDict).push (instObj C h.objs.size)).get? (h.objs.size + 1) = some (instObj C h.objs.size) := by heap_get
 have t1 : Looks (model P w) ((h.push emptyDict).push (instObj C h.objs.size)) (typeOf (.ref (h.objs.size + 1))) (.ref C) := (Looks.ld hx).andThen .now
 have s1 : Looks (model P w) ((h.push emptyDict).push (instObj C h.objs.size)) (isInstance (.ref (h.objs.size + 1)) (.ref C)) true := t1.andThen (self.keeps k)
 have i1 : Looks (model P w) ((h.push emptyDict).push (instObj C h.objs.size)) (specialOf (.ref (h.objs.size + 1)) "__init__") (some init) := t1.andThen (hi.keeps k)
 have b1 := (hb (.ref (h.objs.size + 1))).keeps k
 dsimp only
 refine ze (s1.at ?_)
 rw [if_neg (by simp)]
 refine zb (zg ?_)
 unfold callSpecial?
 refine ze (i1.at ?_)
 dsimp only
 refine zg (ze (b1.at ?_))
 refine zb (jg (qi hq fun f s' z => ?_))
 cases f <;> first | exact z.elim | skip
 obtain ⟨rfl, z⟩ := z
 refine zf ?_
 show wpC _ _ (if (Value.none != Value.none) = true then _ else _) _ _
 rw [if_neg (by simp)]
 exact zf z
end
end
end
end Mine
namespace Mine
noncomputable section
open PySem PySem.W PyProof.Rows
section
noncomputable def JF : List Nat → List Nat → Bool
 | [], [] => true
 | a :: x, b :: y => match Nat.beq a b with | true => JF x y | false => false
 | _, _ => false
theorem Jc : ∀ {x y : List Nat}, JF x y = true ↔ x = y
 | [], [] => by simp [JF]
 | [], _ :: _ => by simp [JF]
 | _ :: _, [] => by simp [JF]
 | a :: x, b :: y => by
  unfold JF
  cases h : Nat.beq a b with
  | true => have := Nat.eq_of_beq_eq_true h; subst this; simp [Jc]
  | false => have := Nat.ne_of_beq_eq_false h; simp [this]
def sq (a b : Str) : Bool := JF a.cps.toList b.cps.toList
theorem yR {a b : Str} : sq a b = true ↔ a = b := by
 unfold sq
 rw [Jc]
 constructor
 ·intro h; cases a; cases b; simp only [Str.mk.injEq]; exact Array.toList_inj.mp h
 ·rintro rfl; rfl
theorem AU (a b : Str) : sq a b = (b == a) := by
 cases h : sq a b with
 | true => rw [yR.mp h]; simp
 | false =>
  cases q : (b == a) with
  | false => rfl
  | true => rw [yR.mpr (beq_iff_eq.mp q).symm] at h; cases h
def lk {α : Type} : List (Str × α) → Str → Option α
 | [], _ => none
 | (y, v) :: r, x => match sq y x with | true => some v | false => lk r x
theorem jf {α : Type} : ∀ (l : List (Str × α)) (x : Str), lk l x = l.lookup x
 | [], _ => rfl
 | (y, v) :: r, x => by
  unfold lk
  rw [AU, List.lookup_cons]
  cases x == y with
  | true => rfl
  | false => exact jf r x

abbrev zc := List (Str × PV)

structure Fr0 where
 kd : List (Str × NameKind)
 dp : Nat

structure z3 (env : Env) (f : Fr0) : Prop where
 kind : env.scope.kind = .function
 glob : env.globals = mainGlobals
 blt : env.builtins = builtinsNs
 kd : env.scope.names = f.kd
 dbg : lk f.kd "__debug__" = none
 cel : ∀ x, lk f.kd x = some .cell → (env.cells.lookup x).isSome = true
theorem z3.kindOf {env : Env} {f : Fr0} (k : z3 env f) (x : Str) : env.kindOf x = lk f.kd x := by rw [jf, ← k.kd]; rfl
theorem z3.nd {env : Env} {f : Fr0} (k : z3 env f) {x : Str} {q : NameKind} (h : env.kindOf x = some q) : (x == ("__debug__" : Str)) = false := by
 cases e : (x == ("__debug__" : Str)) with
 | false => rfl
 | true => rw [beq_iff_eq.mp e, k.kindOf, k.dbg] at h; cases h

def put : zc → Str → PV → zc
 | [], x, v => [(x, v)]
 | (y, u) :: r, x, v => match sq y x with | true => (y, v) :: r | false => (y, u) :: put r x v
theorem Fv : ∀ (ρ : zc) (x : Str) (v : PV) (y : Str), lk (put ρ x v) y = if y = x then some v else lk ρ y
 | [], x, v, y => by
  simp only [put, lk]
  by_cases h : y = x
  ·rw [yR.mpr h.symm, if_pos h]
  ·cases q : sq x y with
   | true => exact absurd (yR.mp q).symm h
   | false => rw [if_neg h]
 | (z, u) :: r, x, v, y => by
  have ih := Fv r x v y
  simp only [put]
  by_cases hz : sq z x = true
  ·have e := yR.mp hz
   subst e
   rw [hz]
   simp only [lk]
   by_cases h : y = z
   ·rw [yR.mpr h.symm, if_pos h]
   ·cases q : sq z y with
    | true => exact absurd (yR.mp q).symm h
    | false => rw [if_neg h]
  ·rw [Bool.not_eq_true] at hz
   rw [hz]
   simp only [lk]
   cases q : sq z y with
   | true =>
    have e := yR.mp q
    subst e
    rw [if_neg (fun e => by rw [yR.mpr e] at hz; cases hz)]
   | false => exact ih

structure Amb (A : Around) (dp : Nat) : Prop where
 hd : A.handled = none
 depth : A.depth + 4 * dp + 4 < recursionLimit
 units : A.units + 40 * dp + 80 < cLine
section
variable (w : World) (Z : AP) (μ : LA)
def qT (h : Heap) (env : Env) (m : Str → Option Value) (x : Str) (v : PV) : Prop :=
 (env.kindOf x = some .local ∧ ∃ a, m x = some a ∧ RV w Z μ h v a) ∨ (env.kindOf x = some .cell ∧ ∃ c a, env.cells.lookup x = some c ∧ h.IsCell c (some a) ∧ RV w Z μ h v a)

structure LR (base : AP) (s : Shared) (env : Env) (ρ : zc) : Prop where
 ns : ∃ m, s.heap.Ns env.locals m ∧ ∀ x v, lk ρ x = some v → qT w Z μ s.heap env m x v
 priv : ∀ b, FS env b → b ∉ μ ∧ ¬ Z b ∧ ¬ base b
 cel : ∀ x c, env.cells.lookup x = some c → c ≠ env.locals ∧ ∃ v, s.heap.IsCell c v
 inj : ∀ x y c, env.cells.lookup x = some c → env.cells.lookup y = some c → x = y
end

section
variable {w : World} {K : Heap} {base : AP} {Z Z' : AP} {μ μ' : LA} {σ : za} {s s' : Shared} {env : Env} {ρ : zc}
theorem LR.has (L : LR w Z μ base s env ρ) : ∀ b, FS env b → ∃ o, s.heap.get? b = some o := by
 rintro b (rfl | ⟨x, e⟩)
 ·obtain ⟨m, ⟨o, _, _, ho, _⟩, _⟩ := L.ns; exact ⟨o, ho⟩
 ·obtain ⟨_, v, o, ho, _⟩ := L.cel x b e; exact ⟨o, ho⟩
theorem qT.lift {h h' : Heap} {m : Str → Option Value} {x : Str} {v : PV} (T : jd Z μ h Z' μ' h') (hc : ∀ x c o, env.cells.lookup x = some c → h.get? c = some o → h'.get? c = some o) (H : qT w Z μ h env m x v) : qT w Z' μ' h' env m x v := by
 rcases H with ⟨k, a, e, r⟩ | ⟨k, c, a, e, ⟨o, ho, hd⟩, r⟩
 ·exact .inl ⟨k, a, e, r.lift T⟩
 ·exact .inr ⟨k, c, a, e, ⟨o, hc x c o e ho, hd⟩, r.lift T⟩
theorem LR.turn (L : LR w Z μ base s env ρ) (T : jd Z μ s.heap Z' μ' s'.heap) (pr : ∀ b o, FS env b → s.heap.get? b = some o → s'.heap.get? b = some o) (hp : ∀ b, FS env b → b ∉ μ' ∧ ¬ Z' b ∧ ¬ base b) : LR w Z' μ' base s' env ρ := by
 obtain ⟨m, ⟨o, es, ep, ho, r⟩, hv⟩ := L.ns
 refine ⟨⟨m, ⟨o, es, ep, pr _ _ (.inl rfl) ho, r⟩, fun x v e => (hv x v e).lift T fun y c o e => pr c o (.inr ⟨y, e⟩)⟩, hp, fun x c e => ?_, L.inj⟩
 obtain ⟨hn, v, o, ho, hd⟩ := L.cel x c e
 exact ⟨hn, v, o, pr _ _ (.inr ⟨x, e⟩) ho, hd⟩
theorem LR.ext (S : St w K base Z μ σ s) (X : Ext NoW Z μ s Z' μ' s') (L : LR w Z μ base s env ρ) : LR w Z' μ' base s' env ρ := by
 have fr : ∀ b, FS env b → ¬ s.heap.get? b = none := fun b hb q => by
  obtain ⟨o, ho⟩ := L.has b hb
  exact zn ho q
 exact L.turn (X.lift S fun _ _ q => q) (fun b o hb e => X.pres b o e (L.priv b hb).1 fun q => q) fun b hb => ⟨fun q => (X.newM b q).elim (L.priv b hb).1 (fr b hb), fun q => (X.newZ b q).elim (L.priv b hb).2.1 (fr b hb), (L.priv b hb).2.2⟩
theorem LR.lifts (S : St w K base Z μ σ s) (L : LR w Z μ base s env ρ) (X : Ext (FS env) Z μ s Z' μ' s') : jd Z μ s.heap Z' μ' s'.heap := X.lift S fun b z q => (L.priv b q).2.1 z
end

inductive Fl where
 | next | brk | cont | ret (v : PV)
def Fl.R (w : World) (Z : AP) (μ : LA) (h : Heap) : Fl → Flow → Prop
 | .next, .next => True
 | .brk, .brk => True
 | .cont, .cont => True
 | .ret v, .ret a => RV w Z μ h v a
 | _, _ => False

inductive Src where
 | list (v : PV) | tup (vs : List PV) | rng (n : Int) | bts (b : BA) | enm (v : PV)
abbrev KF := Fl → zc → za → Prop
structure Ans (R : Type) where
 bad : R
 I : R → Prop
 nb : I bad → False
 ck : Bool → R → R
 hck : ∀ {b p}, I (ck b p) ↔ b = true ∧ I p
 opV : Option PV → (PV → R) → R
 hV : ∀ {o k}, I (opV o k) → ∃ v, o = some v ∧ I (k v)
 opN : Option Nat → (Nat → R) → R
 hN : ∀ {o k}, I (opN o k) → ∃ v, o = some v ∧ I (k v)
 opB : Option Bool → (Bool → R) → R
 hB : ∀ {o k}, I (opB o k) → ∃ v, o = some v ∧ I (k v)
noncomputable def zr {α R : Type} (bad : R) (o : Option α) (k : α → R) : R := match o with | some v => k v | none => bad
theorem Ans.no {R : Type} (an : Ans R) {G : Prop} (c : an.I an.bad) : G := (an.nb c).elim
noncomputable def Ans.gd {R : Type} (an : Ans R) (b : Bool) (p : R) : R := match b with | true => p | false => an.bad
theorem Ans.gdI {R : Type} (an : Ans R) {b : Bool} {p : R} (c : an.I (an.gd b p)) : b = true ∧ an.I p := by
 cases b with
 | true => exact ⟨rfl, c⟩
 | false => exact an.no c
theorem Ans.om {R α : Type} (an : Ans R) {o : Option α} {k : α → R} (c : an.I (zr an.bad o k)) : ∃ v, o = some v ∧ an.I (k v) := by
 cases o with
 | none => exact an.no c
 | some v => exact ⟨v, rfl, c⟩
def BV : Ans Prop := ⟨False, id, id, fun b p => (match b with | true => p | false => False), fun {b p} => by cases b <;> simp,
 zr False, fun {o k} h => by cases o with | none => exact h.elim | some v => exact ⟨v, rfl, h⟩,
 zr False, fun {o k} h => by cases o with | none => exact h.elim | some v => exact ⟨v, rfl, h⟩,
 zr False, fun {o k} h => by cases o with | none => exact h.elim | some v => exact ⟨v, rfl, h⟩⟩
inductive yg (R : Type) where
 | ex (f : Fr0) (e : Expr) (ρ : zc) (σ : za) (C : PV → za → R)
 | exs (f : Fr0) (es : List Expr) (ρ : zc) (σ : za) (C : List PV → za → R)
 | tst (f : Fr0) (e : Expr) (ρ : zc) (σ : za) (C : Bool → za → R)
 | sts (f : Fr0) (ss : List Stmt) (ρ : zc) (σ : za) (C : Fl → zc → za → R)
 | whl (f : Fr0) (test : Expr) (body orelse : List Stmt) (ρ : zc) (σ : za) (C : Fl → zc → za → R)
 | forL (f : Fr0) (target : Expr) (src : Src) (i : Nat) (body orelse : List Stmt) (ρ : zc) (σ : za) (C : Fl → zc → za → R)
 | comp (f : Fr0) (elt target : Expr) (ifs : List Expr) (src : Src) (i l : Nat) (ρ : zc) (σ : za) (C : za → R)
 | callV (dp : Nat) (v : PV) (args : List PV) (σ : za) (C : PV → za → R)

section
variable (P : Program) (w : World) (K : Heap) (base : AP)

def y4 (f : Fr0) (e : Expr) (ρ : zc) (σ : za) (C : KD) : Prop :=
 ∀ (A : Around) (env : Env) (s : Shared) (Z : AP) (μ : LA) (Q : KV), Amb A f.dp → z3 env f → St w K base Z μ σ s → LR w Z μ base s env ρ →
  (∀ v σ' s' Z' μ' a, C v σ' → St w K base Z' μ' σ' s' → Ext NoW Z μ s Z' μ' s' → RV w Z' μ' s'.heap v a → Q a s') → wpC (model P w) A (eval e env) Q s
def Di (f : Fr0) (es : List Expr) (ρ : zc) (σ : za) (C : List PV → za → Prop) : Prop :=
 ∀ (A : Around) (env : Env) (s : Shared) (Z : AP) (μ : LA) (Q : List Value → Shared → Prop), Amb A f.dp → z3 env f → St w K base Z μ σ s → LR w Z μ base s env ρ →
  (∀ v σ' s' Z' μ' a, C v σ' → St w K base Z' μ' σ' s' → Ext NoW Z μ s Z' μ' s' → RVs w Z' μ' s'.heap v a → Q a s') → ∀ pos, wpC (model P w) A (spliced (backTo pos (starEach es env))) Q s
def GL (f : Fr0) (e : Expr) (ρ : zc) (σ : za) (C : Bool → za → Prop) : Prop :=
 ∀ (A : Around) (env : Env) (s : Shared) (Z : AP) (μ : LA) (Q : KB), Amb A f.dp → z3 env f → St w K base Z μ σ s → LR w Z μ base s env ρ →
  (∀ b σ' s' Z' μ', C b σ' → St w K base Z' μ' σ' s' → Ext NoW Z μ s Z' μ' s' → Q b s') → wpC (model P w) A (isTrue e env (eval e env)) Q s
def xH (f : Fr0) (ss : List Stmt) (ρ : zc) (σ : za) (C : KF) : Prop :=
 ∀ (A : Around) (env : Env) (s : Shared) (Z : AP) (μ : LA) (Q : KG), Amb A f.dp → z3 env f → St w K base Z μ σ s → LR w Z μ base s env ρ →
  (∀ v ρ' σ' s' Z' μ' a, C v ρ' σ' → St w K base Z' μ' σ' s' → LR w Z' μ' base s' env ρ' → Ext (FS env) Z μ s Z' μ' s' → v.R w Z' μ' s'.heap a → Q a s') → wpC (model P w) A (execs ss env) Q s
def yr (dp : Nat) (v : PV) (args : List PV) (σ : za) (C : KD) : Prop :=
 ∀ (A : Around) (s : Shared) (Z : AP) (μ : LA) (va : Value) (as : List Value) (Q : KV), Amb A dp → St w K base Z μ σ s → RV w Z μ s.heap v va → RVs w Z μ s.heap args as →
  (∀ v σ' s' Z' μ' a, C v σ' → St w K base Z' μ' σ' s' → Ext NoW Z μ s Z' μ' s' → RV w Z' μ' s'.heap v a → Q a s') → wpC (model P w) A (call va as) Q s
end
end
end
end Mine
namespace Mine
noncomputable section
open PySem PySem.W PyProof.Rows PySem.Calls
section
section
variable {R : Type} (an : Ans R)
noncomputable def chk (b : Bool) (p : R) : R := an.ck b p
theorem zk {b : Bool} {p : R} : an.I (chk an b p) ↔ b = true ∧ an.I p := an.hck
end

section
variable (w : World) (K : Heap) (base : AP) (Z : AP) (μ : LA) (s : Shared)
def Ret (C : KD) (Q : KV) : Prop := ∀ v σ' s' Z' μ' a, C v σ' → St w K base Z' μ' σ' s' → Ext NoW Z μ s Z' μ' s' → RV w Z' μ' s'.heap v a → Q a s'
def AN (C : Bool → za → Prop) (Q : KB) : Prop := ∀ v σ' s' Z' μ', C v σ' → St w K base Z' μ' σ' s' → Ext NoW Z μ s Z' μ' s' → Q v s'
def Low (K : Heap) (base : AP) : Prop := ∀ a o, K.get? a = some o → base a
end

section
variable {w : World} {K : Heap} {base : AP} {Z Z1 : AP} {μ μ1 : LA} {σ : za} {s s₁ : Shared} {C : KD} {CB : Bool → za → Prop} {Q : KV} {QB : KB} {v : PV} {a : Value} {k : Nat}
theorem St.toks (S : St w K base Z μ σ s) (k : Nat) : St w K base Z μ σ { s with toks := k } := ⟨S.kin, S.lim, S.big, S.zok, S.len, S.nd, S.low, S.cells, S.stat, S.smod, S.nsm, S.kz⟩
theorem Ext.toks (W Z : AP) (μ : LA) (s : Shared) (k : Nat) : Ext W Z μ s Z μ { s with toks := k } := ⟨fun _ _ e => e, fun _ e => e, fun _ e => .inl e, fun _ e => .inl e, fun _ _ e _ _ => e, fun _ o e => ⟨o, e⟩, rfl, rfl⟩
theorem Ret.here (H : Ret w K base Z μ s C Q) (S : St w K base Z μ σ s) (c : C v σ) (r : RV w Z μ s.heap v a) : Q a s := H _ _ _ _ _ _ c S (Ext.refl ..) r
theorem Ret.tok (H : Ret w K base Z μ s C Q) (S : St w K base Z μ σ s) (c : C v σ) (r : RV w Z μ s.heap v a) : Q a { s with toks := k } := H _ _ _ _ _ _ c (S.toks k) (Ext.toks ..) r
theorem Ret.later (H : Ret w K base Z μ s C Q) (X : Ext NoW Z μ s Z1 μ1 s₁) : Ret w K base Z1 μ1 s₁ C Q := fun _ _ _ _ _ _ c S' X' r => H _ _ _ _ _ _ c S' (X.trans X') r
theorem AN.here (H : AN w K base Z μ s CB QB) (S : St w K base Z μ σ s) {b : Bool} (c : CB b σ) : QB b s := H _ _ _ _ _ c S (Ext.refl ..)
theorem AN.later (H : AN w K base Z μ s CB QB) (X : Ext NoW Z μ s Z1 μ1 s₁) : AN w K base Z1 μ1 s₁ CB QB := fun _ _ _ _ _ c S' X' => H _ _ _ _ _ c S' (X.trans X')

def yz (h h' : Heap) : Prop := ∀ b o, h.get? b = some o → h'.get? b = some o
theorem yz.push (h : Heap) (o : Obj) : yz h (h.push o) := fun _ _ e => Heap.get?_push_of_some _ e
theorem yz.refl (h : Heap) : yz h h := fun _ _ e => e
theorem yz.trans {h₁ h₂ h3 : Heap} (x : yz h₁ h₂) (y : yz h₂ h3) : yz h₁ h3 := fun b o e => y b o (x b o e)
theorem St.grow (hk : Low K base) (S : St w K base Z μ σ s) {h' : Heap} {k : Nat} (hp : yz s.heap h') : St w K base Z μ σ { s with heap := h', toks := k } ∧ ∀ W, Ext W Z μ s Z μ { s with heap := h', toks := k } :=
 ⟨(S.turn (s' := { s with heap := h', toks := k }) hk (C := NoW) (fun _ q => q.elim) (fun b x e _ => hp b x e)),
  fun W => ⟨fun _ _ e => e, fun _ e => e, fun _ e => .inl e, fun _ e => .inl e, fun b x e _ _ => hp b x e, fun b x e => ⟨x, hp b x e⟩, rfl, rfl⟩⟩
theorem RV.later (S : St w K base Z μ σ s) (X : Ext NoW Z μ s Z1 μ1 s₁) (r : RV w Z μ s.heap v a) : RV w Z1 μ1 s₁.heap v a := r.lift (X.lift S fun _ _ q => q)
theorem RVs.later {vs : List PV} {as : List Value} (S : St w K base Z μ σ s) (X : Ext NoW Z μ s Z1 μ1 s₁) (r : RVs w Z μ s.heap vs as) : RVs w Z1 μ1 s₁.heap vs as := r.lift (X.lift S fun _ _ q => q)

theorem Ret.tup (hk : Low K base) (H : Ret w K base Z μ s C Q) (S : St w K base Z μ σ s) {vs : List PV} {as : List Value} (r : RVs w Z μ s.heap vs as) (c : C (.tup vs) σ) {k : Nat} : Q (.ref s.heap.objs.size) { s with heap := s.heap.push { cls := .type "tuple", data := .seq as.toArray }, toks := k } := by
 obtain ⟨S', X, e⟩ := S.freeze (s' := { s with heap := s.heap.push { cls := .type "tuple", data := .seq as.toArray }, toks := k }) hk { cls := .type "tuple", data := .seq as.toArray } rfl rfl rfl rfl
 exact H _ _ _ _ _ _ c S' (X _) (.tup (.inr rfl) e (r.later S (X _)))
theorem Ret.list (hk : Low K base) (H : Ret w K base Z μ s C Q) (S : St w K base Z μ σ s) {vs : List PV} {as : List Value} (r : RVs w Z μ s.heap vs as) (c : C (.list vs) σ) {k : Nat} : Q (.ref s.heap.objs.size) { s with heap := s.heap.push { cls := .type "list", data := .seq as.toArray }, toks := k } := by
 obtain ⟨S', X, e⟩ := S.freeze (s' := { s with heap := s.heap.push { cls := .type "list", data := .seq as.toArray }, toks := k }) hk { cls := .type "list", data := .seq as.toArray } rfl rfl rfl rfl
 exact H _ _ _ _ _ _ c S' (X _) (.list (.inr rfl) e (r.later S (X _)))
end

noncomputable def PV.i? : PV → Option Int
 | .int i => some i
 | _ => .none
noncomputable def PV.o? : PV → Option Bool
 | .bool b => some b
 | _ => .none
noncomputable def PV.y? : PV → Option (Array UInt8)
 | .bytes b => some b
 | _ => .none
noncomputable def PV.t? : PV → Option (List PV)
 | .tup vs => some vs
 | _ => .none
noncomputable def PV.l? : PV → Option Nat
 | .loc l => some l
 | _ => .none
theorem PV.i?_eq {v : PV} {i : Int} (e : v.i? = some i) : v = .int i := by rcases v <;> first | exact no e | exact congrArg _ (Option.some.inj e)
theorem PV.o?_eq {v : PV} {i : Bool} (e : v.o? = some i) : v = .bool i := by rcases v <;> first | exact no e | exact congrArg _ (Option.some.inj e)
theorem PV.y?_eq {v : PV} {i : BA} (e : v.y? = some i) : v = .bytes i := by rcases v <;> first | exact no e | exact congrArg _ (Option.some.inj e)
theorem PV.t?_eq {v : PV} {i : List PV} (e : v.t? = some i) : v = .tup i := by rcases v <;> first | exact no e | exact congrArg _ (Option.some.inj e)
theorem PV.l?_eq {v : PV} {i : Nat} (e : v.l? = some i) : v = .loc i := by rcases v <;> first | exact no e | exact congrArg _ (Option.some.inj e)
noncomputable def Ji : zU → Option (List PV)
 | .list vs => some vs
 | _ => .none
theorem lstC_eq {c : zU} {vs : List PV} (e : Ji c = some vs) : c = .list vs := by rcases c <;> first | exact no e | exact congrArg _ (Option.some.inj e)
def ym (σ : za) : PV → Option (List PV)
 | .list vs => some vs
 | .loc l => σ[l]?.bind Ji
 | _ => .none
noncomputable abbrev yv (its : Array Value) (n : Nat) : Obj := { cls := .type "list", data := .seq its n }
noncomputable abbrev qb (its : Array Value) (n : Nat) : Obj := { cls := .type "tuple", data := .seq its n }
section
variable {w : World} {K : Heap} {base : AP} {Z Z1 : AP} {μ μ1 : LA} {σ : za} {s s₁ : Shared}
theorem zp {α β : Type} {o : Option α} {f : α → Option β} {b : β} (e : o.bind f = some b) : ∃ a, o = some a ∧ f a = some b := by
 cases o with
 | none => exact no e
 | some a => exact ⟨a, rfl, e⟩
theorem RV.i {h : Heap} {v : PV} {a : Value} {i : Int} (r : RV w Z μ h v a) (e : v.i? = some i) : ∃ t, a = .int i t := by rw [PV.i?_eq e] at r; exact r.inv
theorem RV.y {h : Heap} {v : PV} {a : Value} {i : BA} (r : RV w Z μ h v a) (e : v.y? = some i) : ∃ t, a = .bytes i t := by rw [PV.y?_eq e] at r; exact r.inv
theorem RV.l {h : Heap} {v : PV} {a : Value} {l : Nat} (r : RV w Z μ h v a) (e : v.l? = some l) : ∃ a', μ[l]? = some a' ∧ a = .ref a' := by rw [PV.l?_eq e] at r; exact r.inv
theorem St.listAt (S : St w K base Z μ σ s) {l : Nat} {a : Addr} {vs : List PV} (hc : σ[l]?.bind Ji = some vs) (hm : μ[l]? = some a) : ∃ its n, s.heap.get? a = some (yv its n) ∧ RVs w Z μ s.heap vs its.toList := by
 obtain ⟨c, hc, e⟩ := zp hc
 rw [lstC_eq e] at hc
 exact (S.cells l _ a hc hm).inv
theorem z4 (S : St w K base Z μ σ s) {v : PV} {a : Value} {vs : List PV} (r : RV w Z μ s.heap v a) (e : ym σ v = some vs) : ∃ b its n, a = .ref b ∧ s.heap.get? b = some (yv its n) ∧ RVs w Z μ s.heap vs its.toList := by
 have r := r.inv
 rcases v <;> first | exact no e | skip
 ·obtain ⟨b, its, n, _, g, q, f⟩ := r; exact ⟨b, its, n, f, g, Option.some.inj e ▸ q⟩
 ·obtain ⟨b, hm, f⟩ := r; obtain ⟨its, n, g, q⟩ := S.listAt e hm; exact ⟨b, its, n, f, g, q⟩
theorem zE {h : Heap} {b : Addr} {its : Array Value} {n : Nat} (g : h.get? b = some (yv its n)) : h.IsList b its := ⟨_, g, rfl, n, rfl⟩
theorem z8 {h : Heap} {b : Addr} {its : Array Value} {n : Nat} (g : h.get? b = some (qb its n)) : IsTup h b its := ⟨_, g, rfl, n, rfl⟩
end

section
variable {R : Type} (an : Ans R)
def Gu (σ : za) (op : Operator) (x y : PV) (C : PV → R) : R := zr an.bad (ym σ x) fun vs => match op with
  | .Add => zr an.bad (ym σ y) fun ws => chk an (decide (vs.length + ws.length ≤ 16777216)) (C (.list (vs ++ ws)))
  | .Mult => zr an.bad y.i? fun n => chk an (decide (0 ≤ n) && decide (n ≤ 1000) && decide (vs.length ≤ 1000)) (C (.list (List.replicate n.toNat vs).flatten))
  | _ => an.bad
def Gv (op : Operator) (a b : Int) (C : PV → R) : R := match op with
  | .Add => C (.int (a + b)) | .Sub => C (.int (a - b))
  | .Mult => chk an (decide (a.natAbs < 2 ^ 40) && decide (b.natAbs < 2 ^ 40)) (C (.int (a * b)))
  | .FloorDiv => chk an (decide (0 < b) && decide (a.natAbs < 2 ^ 60) && decide (b < 2 ^ 20)) (C (.int (Int.fdiv a b)))
  | .Mod => chk an (decide (0 < b)) (C (.int (Int.fmod a b)))
  | .BitAnd => C (.int (Builtin.bitAnd a b)) | .BitOr => C (.int (Builtin.bitOr a b))
  | .LShift => chk an (decide (0 ≤ b) && decide (b ≤ 1000) && decide (a.natAbs < 2 ^ 60)) (C (.int (a * 2 ^ b.toNat)))
  | _ => an.bad
def Gw (op : Operator) (a : BA) (y : PV) (C : PV → R) : R := match op with
  | .Add => zr an.bad y.y? fun b => chk an (decide (a.size + b.size ≤ 16777216)) (C (.bytes (a ++ b)))
  | .Mult => zr an.bad y.i? fun n => chk an (decide (0 < a.size) && decide (a.size ≤ 16) && decide (0 ≤ n) && decide (n ≤ 1000)) (C (.bytes (List.replicate n.toNat a.toList).flatten.toArray))
  | _ => an.bad
def binop (σ : za) (op : Operator) (x y : PV) (C : PV → R) : R :=
 match x with
 | .int a => zr an.bad y.i? fun b => Gv an op a b C
 | .bytes a => Gw an op a y C
 | .tup a => zr an.bad y.t? fun b => (match op with | .Add => chk an (decide (a.length + b.length ≤ 1000)) (C (.tup (a ++ b))) | _ => an.bad)
 | x => Gu an σ op x y C

end

section
variable {P : Program} {w : World} {K : Heap} {base : AP} {Z Z1 : AP} {μ μ1 : LA} {σ : za} {s s₁ : Shared} {Q : KV} {E : KV} {A : Around}

theorem addTups {t b : Addr} {vs ws : Array Value} {n n2 : Nat} (ho : s.heap.get? t = some (qb vs n)) (ho2 : s.heap.get? b = some (qb ws n2))
  (h0 : vs.toList = [] → Q (.ref b) s) (h1 : ws.toList = [] → Q (.ref t) s) (h2 : Q (.ref s.heap.objs.size) { s with heap := s.heap.push { cls := .type "tuple", data := .seq (vs.toList ++ ws.toList).toArray }, toks := s.toks })
  (hsz : vs.size + ws.size ≤ sizeLine) : wpAny (model P w) A (binaryOp .Add (.ref t) (.ref b)) Q E s := by
 have e : vs ++ ws = (vs.toList ++ ws.toList).toArray := by simp
 by_cases hv : vs.isEmpty = true
 ·exact concat_meets ⟨_, ho, rfl⟩ ⟨_, ho2, rfl⟩ noFill_tuple_add seq_tuple_add PySem.F.slot_tuple_add PySem.F.entry_tuple_add (PySem.F.args_tuple_add_2 _ _) (tuple_addW0 t b vs ws n n2 none none #[] #[] hv) ⟨ho, ho2, h0 (by simpa using hv)⟩
 ·by_cases hw : ws.isEmpty = true
  ·exact concat_meets ⟨_, ho, rfl⟩ ⟨_, ho2, rfl⟩ noFill_tuple_add seq_tuple_add PySem.F.slot_tuple_add PySem.F.entry_tuple_add (PySem.F.args_tuple_add_2 _ _) (tuple_addW1 t b vs ws n n2 none none #[] #[] hv hw) ⟨ho, ho2, h1 (by simpa using hw)⟩
  ·exact concat_meets ⟨_, ho, rfl⟩ ⟨_, ho2, rfl⟩ noFill_tuple_add seq_tuple_add PySem.F.slot_tuple_add PySem.F.entry_tuple_add (PySem.F.args_tuple_add_2 _ _) (tuple_addW2 t b vs ws n n2 none none #[] #[] hv hw hsz) ⟨ho, ho2, by rw [e]; exact h2⟩

theorem GF {l b : Addr} {vs ws : Array Value} {n n2 : Nat} (ho : s.heap.get? l = some (yv vs n)) (ho2 : s.heap.get? b = some (yv ws n2))
  (h : Q (.ref s.heap.objs.size) { s with heap := s.heap.push { cls := .type "list", data := .seq (vs.toList ++ ws.toList).toArray }, toks := s.toks }) (hsz : vs.size + ws.size ≤ sizeLine) : wpAny (model P w) A (binaryOp .Add (.ref l) (.ref b)) Q E s := by
 have e : vs ++ ws = (vs.toList ++ ws.toList).toArray := by simp
 exact concat_meets ⟨_, ho, rfl⟩ ⟨_, ho2, rfl⟩ noFill_list_add seq_list_add PySem.F.slot_list_add PySem.F.entry_list_add (PySem.F.args_list_add_2 _ _) (list_addW l b vs ws n n2 none none #[] #[] hsz) ⟨ho, ho2, by rw [e]; exact h⟩

theorem CY (its : Array Value) : ∀ (n : Nat) (acc : List Value), (List.replicate n its).foldl (fun x y => x ++ y) acc.toArray = (acc ++ (List.replicate n its.toList).flatten).toArray
 | 0, acc => by simp
 | n + 1, acc => by
  rw [List.replicate_succ, List.foldl_cons, show acc.toArray ++ its = (acc ++ its.toList).toArray from by simp, CY its n, List.replicate_succ, List.flatten_cons, List.append_assoc]
theorem mulList {l : Addr} {its : Array Value} {k : Nat} {x : Int} {u : Tok} (ho : s.heap.get? l = some (yv its k)) (h0 : 0 ≤ x) (hx : x ≤ 1000) (hs : its.size ≤ 1000)
  (h : Q (.ref s.heap.objs.size) { s with heap := s.heap.push { cls := .type "list", data := .seq (List.replicate x.toNat its.toList).flatten.toArray }, toks := s.toks }) : wpAny (model P w) A (binaryOp .Mult (.ref l) (.int x u)) Q E s := by
 have hm : its.size * x.toNat ≤ 1000 * 1000 := Nat.mul_le_mul hs (by omega)
 refine wpAny_binaryOp_repeat_ref (T := "list") (U := "int") (by decide) ⟨_, ho, rfl⟩ (fun s' => typeIs_int s' x u) noFill_list_mul F.fills_int_mul F.slot_int_rmul repeat_list F.slot_int_index.lookup
  (call_meets F.slot_int_rmul (typeIs_int s x u) F.entry_int_rmul (F.args_int_rmul_2 _ _) (int___rmul___int_list x u l its k)
   ⟨ho, rfl, ⟨_, ho, rfl⟩, call_meets F.slot_list_mul ⟨_, ho, rfl⟩ F.entry_list_mul (F.args_list_mul_2 _ _)
    (AutoListH.list___mul___list_int_3 l its k x u (by simp [Builtin.List.listFitsIndex]; omega) (by omega) (by simp [Builtin.List.listTooLong, sizeLine]; omega)) ⟨ho, ?_⟩⟩)
 have e : List.foldl (fun x1 x2 => x1 ++ x2) #[] (List.replicate (if its.isEmpty = true then 0 else x.toNat) its) = (List.replicate x.toNat its.toList).flatten.toArray := by
  by_cases hi : its.isEmpty = true
  ·have : its.toList = [] := by simpa using hi
   rw [if_pos hi, this]; simp
  ·rw [if_neg hi]; have := CY its x.toNat []; simpa using this
 rw [e]; exact h

theorem RVs.rep {vs : List PV} {as : List Value} {h : Heap} (r : RVs w Z μ h vs as) : ∀ n, RVs w Z μ h (List.replicate n vs).flatten (List.replicate n as).flatten
 | 0 => .nil
 | n + 1 => by rw [List.replicate_succ, List.flatten_cons, List.replicate_succ, List.flatten_cons]; exact r.append (RVs.rep r n)
theorem DV {a b : Int} (ha : a.natAbs < 2 ^ 40) : IntMulOk a b := IntMulOk.of_left (intBits_le_64 (by omega) (by omega))
theorem DD {a b : Int} (ha : a.natAbs < 2 ^ 60) : Builtin.divisionGoesByPylong a b = false := by
 have h1 : a.natAbs.log2 < 60 := by
  by_cases z : a.natAbs = 0
  ·rw [z]; decide
  ·exact (Nat.log2_lt z).mpr ha
 have h2 : (if a == 0 then 0 else a.natAbs.log2 / 30 + 1) ≤ 2 := by split <;> omega
 simp only [Builtin.divisionGoesByPylong, Bool.and_eq_false_iff, decide_eq_false_iff_not]
 omega

section
variable {R : Type} (an : Ans R) {C : PV → za → R} (hk : Low K base) {op : Operator} {x y : PV} {a b : Value} (S : St w K base Z μ σ s)
include hk S
theorem Qf (ra : RV w Z μ s.heap x a) (rb : RV w Z μ s.heap y b) (c : an.I (Gu an σ op x y fun v => C v σ)) (H : Ret w K base Z μ s (fun v σ => an.I (C v σ)) Q) : wpAny (model P w) A (binaryOp op a b) Q E s := by
 obtain ⟨vs, hx, c⟩ := an.om c
 obtain ⟨l, its, n, rfl, g, r⟩ := z4 S ra hx
 rcases op <;> first | exact an.no c | skip
 ·obtain ⟨ws, hy, c⟩ := an.om c
  obtain ⟨l2, its2, n2, rfl, g2, r2⟩ := z4 S rb hy
  have c := (zk an).mp c
  exact GF g g2 (H.list hk S (r.append r2) c.2) (by rw [r.size, r2.size, sizeLine_eq]; exact dt c.1)
 ·obtain ⟨n, hn, c⟩ := an.om c
  obtain ⟨t, rfl⟩ := rb.i hn
  have c := (zk an).mp c
  exact mulList g (dt (bl (bl c.1))) (dt (br (bl c.1))) (by rw [r.size]; exact dt (br c.1)) (H.list hk S (r.rep _) c.2)
omit hk in
theorem Qg {i j : Int} {t u : Tok} (c : an.I (Gv an op i j fun v => C v σ)) (H : Ret w K base Z μ s (fun v σ => an.I (C v σ)) Q) : wpAny (model P w) A (binaryOp op (.int i t) (.int j u)) Q E s := by
 rcases op <;> first | exact an.no c | skip
 ·exact add_int (H.tok S c .int)
 ·exact sub_int (H.tok S c .int)
 ·have c := (zk an).mp c
  exact mul_int (H.tok S c.2 .int) (DV (dt (bl c.1)))
 ·have c := (zk an).mp c
  exact mod_int' (Int.ne_of_gt (dt c.1)) (H.tok S c.2 .int)
 ·have c := (zk an).mp c
  exact lshift_int_small (dt (bl (bl c.1))) (Int.le_trans (dt (br (bl c.1))) (by decide)) (Nat.lt_trans (dt (br c.1)) (by decide)) (H.tok S c.2 .int)
 ·exact or_int (H.tok S c .int)
 ·exact and_int (H.tok S c .int)
 ·have c := (zk an).mp c
  exact floordiv_int (Int.ne_of_gt (dt (bl (bl c.1)))) (H.tok S c.2 .int) (.inl (DD (dt (br (bl c.1)))))
omit hk in
theorem Qh {i : BA} {t : Tok} (rb : RV w Z μ s.heap y b) (c : an.I (Gw an op i y fun v => C v σ)) (H : Ret w K base Z μ s (fun v σ => an.I (C v σ)) Q) : wpAny (model P w) A (binaryOp op (.bytes i t) b) Q E s := by
 rcases op <;> first | exact an.no c | skip
 ·obtain ⟨j, hj, c⟩ := an.om c
  obtain ⟨u, rfl⟩ := rb.y hj
  have c := (zk an).mp c
  exact KBy.add_bytes (dt c.1) fun t' k => H.tok S c.2 .bytes
 ·obtain ⟨n, hn, c⟩ := an.om c
  obtain ⟨u, rfl⟩ := rb.i hn
  have c := (zk an).mp c
  obtain ⟨l⟩ := i
  exact bytes_mul_any (fun q => by rw [q] at c; exact Nat.lt_irrefl 0 (dt (bl (bl (bl c.1))))) (Int.le_trans (by decide) (dt (br (bl c.1)))) (Int.le_trans (dt (br c.1)) (by decide)) (dt (br (bl (bl c.1)))) fun t' k => H.tok S c.2 .bytes
theorem Qe {vs ws : List PV} (ra : RV w Z μ s.heap (.tup vs) a) (rb : RV w Z μ s.heap (.tup ws) b) (c : an.I (chk an (decide (vs.length + ws.length ≤ 1000)) (C (.tup (vs ++ ws)) σ))) (H : Ret w K base Z μ s (fun v σ => an.I (C v σ)) Q) : wpAny (model P w) A (binaryOp .Add a b) Q E s := by
 obtain ⟨l, its, n, z, g, r, rfl⟩ := ra.inv
 obtain ⟨l2, its2, n2, z2, g2, r2, rfl⟩ := rb.inv
 obtain ⟨h1, c⟩ := (zk an).mp c
 refine addTups g g2 (fun e => H.here S (v := .tup ws) ?_ (.tup z2 g2 r2)) (fun e => H.here S (v := .tup vs) ?_ (.tup z g r)) (H.tup hk S (r.append r2) c) (by rw [r.size, r2.size, sizeLine_eq]; exact Nat.le_trans (dt h1) (by decide))
 ·rw [List.eq_nil_of_length_eq_zero (l := vs) (by rw [r.length, e]; rfl)] at c
  exact c
 ·rw [List.eq_nil_of_length_eq_zero (l := ws) (by rw [r2.length, e]; rfl), List.append_nil] at c
  exact c
theorem AC (ra : RV w Z μ s.heap x a) (rb : RV w Z μ s.heap y b) (c : an.I (binop an σ op x y fun v => C v σ)) (H : Ret w K base Z μ s (fun v σ => an.I (C v σ)) Q) : wpAny (model P w) A (binaryOp op a b) Q E s := by
 cases x with
 | int i =>
  obtain ⟨t, rfl⟩ := ra.inv
  obtain ⟨j, hj, c⟩ := an.om c
  obtain ⟨u, rfl⟩ := rb.i hj
  exact Qg an S c H
 | bytes i =>
  obtain ⟨t, rfl⟩ := ra.inv
  exact Qh an S rb c H
 | tup vs =>
  obtain ⟨ws, hw, c⟩ := an.om c
  rw [PV.t?_eq hw] at rb
  rcases op <;> first | exact an.no c | skip
  exact Qe an hk S ra rb c H
 | _ => exact Qf an hk S ra rb c H
end
end
end
end
end Mine
namespace Mine
noncomputable section
open PySem PySem.W PyProof.Rows PySem.Calls PySem.SeqAt
variable {P : Program} {w : World} {K : Heap} {base : AP} {Z Z1 : AP} {μ μ1 : LA} {σ : za}
section
noncomputable def eqN : PV → Option Bool
 | .none => some true
 | .int _ => some false
 | _ => .none
noncomputable def eqI (a : Int) : PV → Option Bool
 | .none => some false
 | .int b => some (a == b)
 | _ => .none
mutual
def peq : PV → PV → Option Bool
 | .none, y => eqN y
 | .int a, y => eqI a y
 | .bool a, y => y.o?.bind fun b => some (a == b)
 | .tup vs, y => y.t?.bind fun ws => qt vs ws
 | _, _ => .none
def qt : List PV → List PV → Option Bool
 | [], ws => some ws.isEmpty
 | v :: vs, ws => match ws with
  | [] => some false
  | w :: ws => (peq v w).bind fun a => (qt vs ws).bind fun b => some (a && b)
end
mutual
noncomputable def dep : PV → Nat
 | .tup vs => j5 vs + 1
 | _ => 0
noncomputable def j5 : List PV → Nat
 | [] => 0
 | v :: vs => max (dep v) (j5 vs)
end
theorem X9 {v : PV} {vs : List PV} (h : v ∈ vs) : dep v ≤ j5 vs := by
 induction h with
 | head => exact Nat.le_max_left _ _
 | tail _ _ ih => exact Nat.le_trans ih (Nat.le_max_right _ _)
theorem F7 {y : PV} {b : Bool} (e : eqN y = some b) : (y = .none ∧ b = true) ∨ ∃ j, y = .int j ∧ b = false := by
 rcases y <;> first | exact no e | skip
 ·exact .inl ⟨rfl, (Option.some.inj e).symm⟩
 ·exact .inr ⟨_, rfl, (Option.some.inj e).symm⟩
theorem F8 {a : Int} {y : PV} {b : Bool} (e : eqI a y = some b) : (y = .none ∧ b = false) ∨ ∃ j, y = .int j ∧ b = (a == j) := by
 rcases y <;> first | exact no e | skip
 ·exact .inl ⟨rfl, (Option.some.inj e).symm⟩
 ·exact .inr ⟨_, rfl, (Option.some.inj e).symm⟩
theorem JZ {v w : PV} {vs ws : List PV} {b : Bool} (e : qt (v :: vs) (w :: ws) = some b) : ∃ x y, peq v w = some x ∧ qt vs ws = some y ∧ b = (x && y) := by
 obtain ⟨x, h, e⟩ := zp e
 obtain ⟨y, k, e⟩ := zp e
 exact ⟨x, y, h, k, (Option.some.inj e).symm⟩
theorem Gy (a b : Nat) : (a + 1 == b + 1) = (a == b) := by rw [Bool.eq_iff_iff, beq_iff_eq, beq_iff_eq]; exact Nat.succ_inj
theorem GE (e : Nat → Bool) (n : Nat) : (List.range (n + 1)).all e = (e 0 && (List.range n).all fun j => e (j + 1)) := by
 rw [List.range_succ_eq_map, List.all_cons, List.all_map]; rfl

section
variable {w : World} {Z : AP} {μ : LA} {s : Shared}
theorem RV.tupAt {h : Heap} {vs : List PV} {a : Value} (r : RV w Z μ h (.tup vs) a) : ∃ b its n, a = .ref b ∧ h.get? b = some (qb its n) ∧ RVs w Z μ h vs its.toList :=
 let ⟨b, its, n, _, g, q, e⟩ := r.inv; ⟨b, its, n, e, g, q⟩
theorem DG {h : Heap} {vs : List PV} (IH : ∀ v ∈ vs, ∀ v' b a, RV w Z μ h v a → RV w Z μ h v' a → peq v v' = some b → b = true) : ∀ {ws : List PV} {as : List Value} {b : Bool}, RVs w Z μ h vs as → RVs w Z μ h ws as → qt vs ws = some b → b = true := by
 induction vs with
 | nil =>
  intro ws as b r q e
  rw [r.nil_of] at q
  cases ws with
  | nil => exact (Option.some.inj e).symm
  | cons v ws => obtain ⟨_, _, _, _, f⟩ := q.inv; exact nomatch f
 | cons v vs ih =>
  intro ws as b r q e
  obtain ⟨a, as, x, r1, rfl⟩ := r.inv
  cases ws with
  | nil => exact nomatch q.nil_of
  | cons v' ws =>
   obtain ⟨a', as', y, q1, f⟩ := q.inv
   obtain ⟨rfl, rfl⟩ := List.cons.inj f
   obtain ⟨b1, b2, e1, e2, rfl⟩ := JZ e
   rw [IH v (.head _) _ _ _ x y e1, ih (fun v hv => IH v (.tail _ hv)) r1 q1 e2]; rfl
theorem E6 {h : Heap} (n : Nat) : ∀ {v v' : PV} {a : Value} {b : Bool}, dep v < n → RV w Z μ h v a → RV w Z μ h v' a → peq v v' = some b → b = true := by
 induction n with
 | zero => exact fun hs => absurd hs (Nat.not_lt_zero _)
 | succ n ih =>
  intro v v' a b hs r r' e
  have r := r.inv
  rcases v <;> first | exact no e | skip
  ·rcases F7 e with ⟨_, q⟩ | ⟨j, rfl, _⟩
   ·exact q
   ·obtain ⟨t, f⟩ := r'.inv; exact nomatch f.symm.trans r
  ·obtain ⟨c, hc, e⟩ := zp e
   rw [PV.o?_eq hc] at r'
   have f : Value.bool _ = Value.bool _ := (Eq.symm r).trans r'.inv
   rw [Value.bool.inj f, beq_self_eq_true] at e
   exact (Option.some.inj e).symm
  ·obtain ⟨t, r⟩ := r
   rcases F8 e with ⟨rfl, _⟩ | ⟨j, rfl, q⟩
   ·exact nomatch r.symm.trans r'.inv
   ·obtain ⟨u, f⟩ := r'.inv
    rw [q, (Value.int.inj (r.symm.trans f)).1, beq_self_eq_true]
  ·obtain ⟨ws, hw, e⟩ := zp e
   rw [PV.t?_eq hw] at r'
   obtain ⟨l, its, k, _, g, q, rfl⟩ := r
   obtain ⟨l', its', k', f, g', q'⟩ := r'.tupAt
   cases f
   cases g.symm.trans g'
   exact DG (fun v hv v' b a x y e => ih (Nat.lt_of_le_of_lt (X9 hv) (Nat.lt_of_succ_lt_succ hs)) x y e) q q' e

theorem F6 {vs : List PV} : ∀ {ws : List PV} {as bs : List Value} {b : Bool} (A : Around), (∀ v ∈ vs, ∀ (v' : PV) (a c : Value) (b : Bool) (A : Around), A.units + dep v < cLine → RV w Z μ s.heap v a → RV w Z μ s.heap v' c → peq v v' = some b → EqAt A s a c b) →
   A.units + j5 vs < cLine → RVs w Z μ s.heap vs as → RVs w Z μ s.heap ws bs → qt vs ws = some b →
   ∃ e : Nat → Bool, (∀ (j : Nat) (a c : Value), as[j]? = some a → bs[j]? = some c → EqAt A s a c (e j)) ∧ b = ((List.range (min as.length bs.length)).all e && as.length == bs.length) := by
 induction vs with
 | nil =>
  intro ws as bs b A _ _ r q e
  rw [r.nil_of]
  refine ⟨fun _ => true, fun j a c e => no e, ?_⟩
  rw [← Option.some.inj e, ← q.length]
  cases ws <;> simp
 | cons v vs ih =>
  intro ws as bs b A IH hu r q h
  obtain ⟨a, as, x, r1, rfl⟩ := r.inv
  cases ws with
  | nil => rw [q.nil_of, ← Option.some.inj h]; exact ⟨fun _ => true, fun j a c _ e => no e, by simp⟩
  | cons v' ws =>
   obtain ⟨c, bs, y, q1, rfl⟩ := q.inv
   obtain ⟨b1, b2, e1, e2, rfl⟩ := JZ h
   have hl := Nat.lt_of_le_of_lt (Nat.add_le_add_left (Nat.le_max_left _ _) _) hu
   have hr := Nat.lt_of_le_of_lt (Nat.add_le_add_left (Nat.le_max_right _ _) _) hu
   obtain ⟨e, h1, h2⟩ := ih A (fun v hv => IH v (.tail _ hv)) hr r1 q1 e2
   refine ⟨fun j => match j with | 0 => b1 | j + 1 => e j, fun j a c ea ec => ?_, ?_⟩
   ·cases j with
    | zero => cases ea; cases ec; exact IH _ (.head _) _ _ _ _ _ hl x y e1
    | succ j => exact h1 j a c ea ec
   ·rw [List.length_cons, List.length_cons, Nat.succ_min_succ, GE, h2, Bool.and_assoc, Gy]

theorem eq_tup {vs ws : List PV} {a c : Value} {b : Bool} {A : Around} (ih : ∀ v ∈ vs, ∀ (v' : PV) (a c : Value) (b : Bool) (A : Around), A.units + dep v < cLine → RV w Z μ s.heap v a → RV w Z μ s.heap v' c → peq v v' = some b → EqAt A s a c b)
  (hu : A.units + (j5 vs + 1) < cLine) (r : RV w Z μ s.heap (.tup vs) a) (r' : RV w Z μ s.heap (.tup ws) c) (e : qt vs ws = some b) : EqAt A s a c b ∧ RcAt A s a c b ∧ RcNeAt A s a c (!b) := by
 have hd : b = true ∨ a ≠ c := by
  by_cases h : a = c
  ·rw [← h] at r'; exact .inl (E6 _ (Nat.lt_succ_self _) r r' e)
  ·exact .inr h
 obtain ⟨l, its, k, rfl, g, q⟩ := r.tupAt
 obtain ⟨l', its', k', rfl, g', q'⟩ := r'.tupAt
 have T : RcAt A s (.ref l) (.ref l') b ∧ RcNeAt A s (.ref l) (.ref l') (!b) := by
  obtain ⟨f, h1, h2⟩ := F6 A.in1 ih (by rw [Around.in1_units, Nat.add_assoc, Nat.add_comm 1]; exact hu) q q' e
  have hit : ∀ j (h1' : j < its.size) (h2' : j < its'.size), EqAt A.in1 s its[j] its'[j] (f j) := fun j a c => h1 j _ _ (by simp [a]) (by simp [c])
  have hc : A.units < cLine := Nat.lt_of_le_of_lt (Nat.add_le_add_left (Nat.zero_le _) _) hu
  rw [Array.length_toList, Array.length_toList] at h2
  rw [h2]
  exact ⟨RcAt.tuples ⟨_, g, rfl, _, rfl⟩ ⟨_, g', rfl, _, rfl⟩ hc hit, RcNeAt.tuples ⟨_, g, rfl, _, rfl⟩ ⟨_, g', rfl, _, rfl⟩ hc hit⟩
 refine ⟨?_, T⟩
 by_cases hl : l = l'
 ·subst hl
  rw [hd.resolve_right fun h => h rfl]
  exact EqAt.same _
 ·exact EqAt.of_refs hl T.1
theorem eq_at (n : Nat) : ∀ {v v' : PV} {a c : Value} {b : Bool} {A : Around}, dep v < n → A.units + dep v < cLine → RV w Z μ s.heap v a → RV w Z μ s.heap v' c → peq v v' = some b → EqAt A s a c b ∧ RcAt A s a c b ∧ RcNeAt A s a c (!b) := by
 induction n with
 | zero => exact fun hs => absurd hs (Nat.not_lt_zero _)
 | succ n ih =>
  intro v v' a c b A hs hu r r' e
  rcases v <;> first | exact no e | skip
  ·rw [show a = _ from r.inv]
   rcases F7 e with ⟨rfl, rfl⟩ | ⟨j, rfl, rfl⟩
   ·rw [show c = _ from r'.inv]; exact ⟨EqAt.same _, RcAt.none_none, RcNeAt.none_none⟩
   ·obtain ⟨t, rfl⟩ := r'.inv; exact ⟨EqAt.none_int _ _, RcAt.none_int _ _, RcNeAt.none_int _ _⟩
  ·rw [show a = _ from r.inv]
   obtain ⟨d, hd, e⟩ := zp e
   rw [PV.o?_eq hd] at r'
   rw [show c = _ from r'.inv, ← Option.some.inj e]
   exact ⟨EqAt.bool_bool _ _, RcAt.bool_bool _ _, RcNeAt.bool_bool _ _⟩
  ·obtain ⟨t, rfl⟩ := r.inv
   rcases F8 e with ⟨rfl, rfl⟩ | ⟨j, rfl, rfl⟩
   ·rw [show c = _ from r'.inv]; exact ⟨EqAt.int_none _ _, RcAt.int_none _ _, RcNeAt.int_none _ _⟩
   ·obtain ⟨u, rfl⟩ := r'.inv; exact ⟨EqAt.int_int _ _ _ _, RcAt.int_int _ _ _ _, RcNeAt.int_int _ _ _ _⟩
  ·obtain ⟨ws, hw, e⟩ := zp e
   rw [PV.t?_eq hw] at r'
   exact eq_tup (fun v hv v' a c b A hu x y e => (ih (Nat.lt_of_le_of_lt (X9 hv) (Nat.lt_of_succ_lt_succ hs)) hu x y e).1) hu r r' e
end
end
section
def xq (a b : BA) : Bool := JF (a.toList.map (·.toNat)) (b.toList.map (·.toNat))
theorem JV {a b : BA} : xq a b = true ↔ a.toList = b.toList := by
 unfold xq
 rw [Jc]
 exact ⟨fun h => List.map_inj_right (fun x y e => UInt8.toNat_inj.mp e) |>.mp h, fun h => by rw [h]⟩
theorem qW (a b : BA) : (a.toList == b.toList) = xq a b := by
 cases h : xq a b with
 | true => rw [JV.mp h]; simp
 | false =>
  cases q : (a.toList == b.toList) with
  | false => rfl
  | true => rw [JV.mpr (beq_iff_eq.mp q)] at h; cases h
theorem qV (a b : BA) : decide (a.toList = b.toList) = xq a b := by
 rw [← qW]; rw [Bool.eq_iff_iff]; simp

noncomputable def bOf {α : Type} (c : Bool) (o : Option α) : Option α := match c with | true => o | false => none
theorem zQ {α : Type} {c : Bool} {o : Option α} {v : α} (e : bOf c o = some v) : c = true ∧ o = some v := by
 cases c with
 | true => exact ⟨rfl, e⟩
 | false => exact no e
def eqL (vs ws : List PV) : Option Bool := bOf (Nat.ble (j5 vs) 20) (qt vs ws)
def eqS (x y : PV) : Option Bool := bOf (Nat.ble (dep x) 20) (peq x y)
def eqV (σ : za) (x y : PV) : Option Bool := match x with
 | .bytes a => y.y?.bind fun b => some (xq a b)
 | .list vs => (ym σ y).bind fun ws => eqL vs ws
 | .loc l => (ym σ (.loc l)).bind fun vs => (ym σ y).bind fun ws => eqL vs ws
 | x => eqS x y

mutual
noncomputable def plain : PV → Bool
 | .none => true | .bool _ => true | .int _ => true
 | .tup vs => Y5 vs
 | _ => false
noncomputable def Y5 : List PV → Bool
 | [] => true
 | v :: vs => plain v && Y5 vs
end
def memB (b : BA) : List PV → Option Bool
 | [] => some false
 | v :: r => v.y?.bind fun c => (memB b r).bind fun q => some (xq c b || q)
def memP (x : PV) : List PV → Option Bool
 | [] => some false
 | v :: r => bOf (plain v) ((eqS v x).bind fun a => (memP x r).bind fun q => some (a || q))
noncomputable def isNone : PV → Option Bool
 | .none => some true | .bool _ => some false | .int _ => some false | .bytes _ => some false | .str _ => some false | .tup _ => some false | .list _ => some false | .inst _ _ => some false | .loc _ => some false
 | _ => .none

section
variable {s s₁ : Shared} {Q : KV} {E : KV} {A : Around}

theorem lt_c {a b c : Nat} (h : b ≤ 20) (hu : a + 40 < c) : a + b < c := Nat.lt_of_le_of_lt (Nat.add_le_add_left (Nat.le_trans h (by decide)) _) hu
theorem D9 {vs ws : List PV} {l l' : Addr} {its its' : Array Value} {b : Bool} (hu : A.units + 40 < cLine) (g : s.heap.IsList l its) (g' : s.heap.IsList l' its') (r : RVs w Z μ s.heap vs its.toList) (r' : RVs w Z μ s.heap ws its'.toList) (e : eqL vs ws = some b) :
  RcAt A s (.ref l) (.ref l') b ∧ RcNeAt A s (.ref l) (.ref l') (!b) := by
 obtain ⟨hd, e⟩ := zQ e
 have hd := zu hd
 have hc : A.units < cLine := Nat.lt_of_le_of_lt (Nat.le_add_right _ _) hu
 obtain ⟨f, h1, h2⟩ := F6 (s := s) A.in1 (fun v hv v' a c b A hu x y e => (eq_at _ (Nat.lt_succ_self _) hu x y e).1) (by rw [Around.in1_units, Nat.add_assoc]; exact Nat.lt_of_le_of_lt (Nat.add_le_add_left (Nat.add_le_add_left hd 1) _) (Nat.lt_of_le_of_lt (Nat.add_le_add_left (by decide) _) hu)) r r' e
 have hit : ∀ j (h1' : j < its.size) (h2' : j < its'.size), EqAt A.in1 s its[j] its'[j] (f j) := fun j a c => h1 j _ _ (by simp [a]) (by simp [c])
 rw [Array.length_toList, Array.length_toList] at h2
 by_cases hs : its.size = its'.size
 ·rw [h2, ← hs, Nat.min_self, beq_self_eq_true, Bool.and_true]
  exact ⟨RcAt.lists g g' hs hc hit, RcNeAt.lists g g' hs hc hit⟩
 ·have hs' := beq_eq_false_iff_ne.mpr hs
  rw [h2, hs', Bool.and_false]
  exact ⟨RcAt.lists_lengths g g' (bne_iff_ne.mpr hs) hc, RcNeAt.lists_lengths g g' (bne_iff_ne.mpr hs) hc⟩
theorem Xe {x y : PV} {a c : Value} {b : Bool} (hu : A.units + 40 < cLine) (r : RV w Z μ s.heap x a) (r' : RV w Z μ s.heap y c) (e : eqS x y = some b) : EqAt A s a c b ∧ RcAt A s a c b ∧ RcNeAt A s a c (!b) :=
 eq_at _ (Nat.lt_succ_self _) (lt_c (zu (zQ e).1) hu) r r' (zQ e).2
section
variable (hu : A.units + 40 < cLine) (S : St w K base Z μ σ s) {x y : PV} {a c : Value} {b : Bool} (ra : RV w Z μ s.heap x a) (rb : RV w Z μ s.heap y c)
theorem C5 (h : RcAt A s a c b ∧ RcNeAt A s a c (!b)) : (Q (.bool b) s → wpAny (model P w) A (compareOp .Eq a c) Q E s) ∧ (Q (.bool (!b)) s → wpAny (model P w) A (compareOp .NotEq a c) Q E s) :=
 ⟨fun q => cmp_ofEq (h.1 P w E Q q), fun q => cmp_ofNotEq (h.2 P w E Q q)⟩
include hu S ra rb
theorem Xd {vs : List PV} (hv : ym σ x = some vs) (e : ((ym σ y).bind fun ws => eqL vs ws) = some b) : (Q (.bool b) s → wpAny (model P w) A (compareOp .Eq a c) Q E s) ∧ (Q (.bool (!b)) s → wpAny (model P w) A (compareOp .NotEq a c) Q E s) := by
 obtain ⟨ws, hw, e⟩ := zp e
 obtain ⟨l, its, n, rfl, g, q⟩ := z4 S ra hv
 obtain ⟨l', its', n', rfl, g', q'⟩ := z4 S rb hw
 exact C5 (D9 hu (zE g) (zE g') q q' e)
theorem Xc (e : eqV σ x y = some b) : (Q (.bool b) s → wpAny (model P w) A (compareOp .Eq a c) Q E s) ∧ (Q (.bool (!b)) s → wpAny (model P w) A (compareOp .NotEq a c) Q E s) := by
 cases x with
 | bytes i =>
  obtain ⟨j, hj, e⟩ := zp e
  obtain ⟨t, rfl⟩ := ra.inv
  obtain ⟨u, rfl⟩ := rb.y hj
  rw [← Option.some.inj e]
  exact ⟨fun q => eq_bytes (by rw [qW]; exact q), fun q => ne_bytes (by rw [bne, qW]; exact q)⟩
 | list vs => exact Xd hu S ra rb rfl e
 | loc l =>
  obtain ⟨vs, hv, e⟩ := zp e
  exact Xd hu S ra rb hv e
 | _ => exact C5 (Xe hu ra rb e).2
end

noncomputable def pv? : Value → Option PV
 | .none => some .none
 | .bool b => some (.bool b)
 | .int i _ => some (.int i)
 | _ => .none
theorem Y6 {h : Heap} {v : PV} {a : Value} (p : plain v = true) (r : RV w Z μ h v a) : pv? a = some v ∨ ∃ vs b its n, v = .tup vs ∧ Y5 vs = true ∧ a = .ref b ∧ h.get? b = some (qb its n) ∧ RVs w Z μ h vs its.toList := by
 rcases v <;> first | exact nf p | skip
 ·rw [show a = _ from r.inv]; exact .inl rfl
 ·rw [show a = _ from r.inv]; exact .inl rfl
 ·obtain ⟨t, rfl⟩ := r.inv; exact .inl rfl
 ·obtain ⟨b, its, n, f, g, q⟩ := r.tupAt; exact .inr ⟨_, b, its, n, rfl, p, f, g, q⟩
theorem QO {h : Heap} {vs : List PV} (ih : ∀ v ∈ vs, ∀ {v' : PV} {a : Value}, plain v = true → plain v' = true → RV w Z μ h v a → RV w Z μ h v' a → v = v') : ∀ {ws : List PV} {as : List Value}, Y5 vs = true → Y5 ws = true → RVs w Z μ h vs as → RVs w Z μ h ws as → vs = ws := by
 induction vs with
 | nil =>
  intro ws as _ _ r q
  rw [r.nil_of] at q
  exact (List.eq_nil_of_length_eq_zero q.length).symm
 | cons v vs ih2 =>
  intro ws as p p' r q
  obtain ⟨a, as, x, r1, rfl⟩ := r.inv
  cases ws with
  | nil => exact nomatch q.nil_of
  | cons v' ws =>
   obtain ⟨c, bs, y, q1, f⟩ := q.inv
   obtain ⟨rfl, rfl⟩ := List.cons.inj f
   rw [ih v (.head _) (bl p) (bl p') x y, ih2 (fun v hv => ih v (.tail _ hv)) (br p) (br p') r1 q1]
theorem A5 {h : Heap} (n : Nat) : ∀ {v v' : PV} {a : Value}, dep v < n → plain v = true → plain v' = true → RV w Z μ h v a → RV w Z μ h v' a → v = v' := by
 induction n with
 | zero => exact fun hs => absurd hs (Nat.not_lt_zero _)
 | succ n ih =>
  intro v v' a hs p p' r r'
  rcases Y6 p r with e | ⟨vs, b, its, k, rfl, pv, rfl, g, q⟩
  ·rcases Y6 p' r' with e' | ⟨ws, b', its', k', rfl, pw, rfl, g', q'⟩
   ·exact Option.some.inj (e.symm.trans e')
   ·exact no e
  ·rcases Y6 p' r' with e' | ⟨ws, b', its', k', rfl, pw, f, g', q'⟩
   ·exact no e'
   ·cases f
    cases g.symm.trans g'
    rw [QO (fun v hv => ih (Nat.lt_of_le_of_lt (X9 hv) (Nat.lt_of_succ_lt_succ hs))) pv pw q q']

def sameY (b : BA) : Value → Bool
 | .bytes c _ => xq c b
 | _ => false
theorem memB_at {b : BA} {t : Tok} {vs : List PV} : ∀ {as : List Value} {q : Bool}, RVs w Z μ s.heap vs as → memB b vs = some q → (∀ y ∈ as, EqAt A s y (.bytes b t) (sameY b y)) ∧ as.any (sameY b) = q := by
 induction vs with
 | nil => intro as q r e; rw [r.nil_of]; exact ⟨fun y hy => (nomatch hy), Option.some.inj e⟩
 | cons v vs ih =>
  intro as q r e
  obtain ⟨c, hc, e⟩ := zp e
  obtain ⟨q', e', e⟩ := zp e
  obtain ⟨a, as, x, r1, rfl⟩ := r.inv
  obtain ⟨u, rfl⟩ := x.y hc
  obtain ⟨h1, h2⟩ := ih r1 e'
  refine ⟨fun y hy => ?_, by rw [List.any_cons, h2]; exact Option.some.inj e⟩
  rcases List.mem_cons.mp hy with rfl | hy
  ·exact fun prog w E Q hq => PySem.W.eqBool_bytes (by rw [qV]; exact hq)
  ·exact h1 y hy

open Classical in
noncomputable def eqOf (w : World) (Z : AP) (μ : LA) (h : Heap) (x : PV) (y : Value) : Bool := if ∃ v, plain v = true ∧ RV w Z μ h v y ∧ eqS v x = some true then true else false
theorem memP_at {x : PV} {a : Value} (hu : A.units + 40 < cLine) (rx : RV w Z μ s.heap x a) {vs : List PV} : ∀ {as : List Value} {q : Bool}, RVs w Z μ s.heap vs as → memP x vs = some q →
  (∀ y ∈ as, EqAt A s y a (eqOf w Z μ s.heap x y)) ∧ as.any (eqOf w Z μ s.heap x) = q := by
 induction vs with
 | nil => intro as q r e; rw [r.nil_of]; exact ⟨fun y hy => (nomatch hy), Option.some.inj e⟩
 | cons v vs ih =>
  intro as q r e
  obtain ⟨hp, e⟩ := zQ e
  obtain ⟨b, he, e⟩ := zp e
  obtain ⟨q', e', e⟩ := zp e
  obtain ⟨a0, as, r0, r1, rfl⟩ := r.inv
  obtain ⟨h1, h2⟩ := ih r1 e'
  have key : eqOf w Z μ s.heap x a0 = b := by
   unfold eqOf
   cases b with
   | true => rw [if_pos ⟨v, hp, r0, he⟩]
   | false =>
    rw [if_neg]
    rintro ⟨v', hp', r', he'⟩
    rw [A5 _ (Nat.lt_succ_self _) hp' hp r' r0, he] at he'
    exact nf (Option.some.inj he')
  refine ⟨fun y hy => ?_, by rw [List.any_cons, h2, key]; exact Option.some.inj e⟩
  rcases List.mem_cons.mp hy with rfl | hy
  ·rw [key]; exact (Xe hu r0 rx he).1
  ·exact h1 y hy

theorem qA {x : PV} {a : Value} {b : Bool} (r : RV w Z μ s.heap x a) (e : isNone x = some b) : PySem.plainIs a .none = true ∧ (a == Value.none) = b := by
 have r := r.inv
 rcases x <;> first | exact no e | skip
 ·rw [show a = _ from r]; exact ⟨rfl, Option.some.inj e⟩
 ·rw [show a = _ from r]; exact ⟨rfl, Option.some.inj e⟩
 ·obtain ⟨t, rfl⟩ := r; exact ⟨rfl, Option.some.inj e⟩
 ·obtain ⟨t, rfl⟩ := r; exact ⟨rfl, Option.some.inj e⟩
 ·obtain ⟨t, rfl⟩ := r; exact ⟨rfl, Option.some.inj e⟩
 ·obtain ⟨_, _, _, _, _, _, rfl⟩ := r; exact ⟨rfl, Option.some.inj e⟩
 ·obtain ⟨_, _, _, _, _, _, rfl⟩ := r; exact ⟨rfl, Option.some.inj e⟩
 ·obtain ⟨_, _, _, _, _, _, _, _, _, rfl⟩ := r; exact ⟨rfl, Option.some.inj e⟩
 ·obtain ⟨_, _, rfl⟩ := r; exact ⟨rfl, Option.some.inj e⟩
end
end
section
noncomputable def PV.s? : PV → Option Str
 | .str b => some b
 | _ => .none
theorem PV.s?_eq {v : PV} {i : Str} (e : v.s? = some i) : v = .str i := by rcases v <;> first | exact no e | exact congrArg _ (Option.some.inj e)
def keq : PV → PV → Bool
 | .bytes a, y => (y.y?.bind fun b => some (xq a b)).getD false
 | .str a, y => (y.s?.bind fun b => some (sq a b)).getD false
 | .int a, y => (y.i?.bind fun b => some (a == b)).getD false
 | _, _ => false
noncomputable def xe : PV → Nat
 | .bytes _ => 1 | .str _ => 2 | .int _ => 3 | _ => 0
def xu (n : Nat) : List (PV × PV) → Bool
 | [] => true
 | e :: es => Nat.beq (xe e.1) n && xu n es
def Am : List (PV × PV) → PV → Option PV
 | [], _ => none
 | e :: es, x => match keq e.1 x with | true => some e.2 | false => Am es x
def hasK : List (PV × PV) → PV → Bool
 | [], _ => false
 | e :: es, x => keq e.1 x || hasK es x
def dput : List (PV × PV) → PV → PV → List (PV × PV)
 | [], _, _ => []
 | e :: es, x, u => (e.1, match keq e.1 x with | true => u | false => e.2) :: dput es x u
def dset (es : List (PV × PV)) (x u : PV) : List (PV × PV) := match hasK es x with | true => dput es x u | false => es ++ [(x, u)]
def Bc : List (PV × PV) → Bool
 | [] => true
 | e :: es => !hasK es e.1 && Bc es
noncomputable def dctC : zU → Option (List (PV × PV))
 | .dict es => some es
 | _ => none
theorem dctC_eq {c : zU} {vs : List (PV × PV)} (e : dctC c = some vs) : c = .dict vs := by rcases c <;> first | exact no e | exact congrArg _ (Option.some.inj e)
def B1 (σ : za) : PV → Option (List (PV × PV))
 | .dict es => some es
 | .loc l => σ[l]?.bind dctC
 | _ => .none

noncomputable abbrev zZ (ds : Array DictEntry) (n : Nat) : Obj := { cls := .type "dict", data := .dict ds n }

set_option genInjectivity false in
structure KK (P : Program) (w : World) {T : Type} [DecidableEq T] (knd : KeyKind P w T) (n : Nat) where
 un : PV → Option T
 is : ∀ p, xe p = n → ∃ k, un p = some k
 key : ∀ {p k a Z μ h}, un p = some k → RV w Z μ h p a → knd.is k a = true
 ent : ∀ {p k d}, un p = some k → xl w p d → knd.is k d.key = true ∧ d.hash = knd.hash k
 back : ∀ {p k d}, un p = some k → knd.is k d.key = true → d.hash = knd.hash k → xl w p d
 eq : ∀ {p q a b}, un p = some a → un q = some b → keq p q = decide (a = b)

theorem zL {α β : Type} {o : Option α} {f : α → β} {b : β} (e : (o.bind fun a => some (f a)) = some b) : ∃ a, o = some a ∧ f a = b := let ⟨a, h, k⟩ := zp e; ⟨a, h, Option.some.inj k⟩
theorem kind1 {p : PV} (h : xe p = 1) : ∃ b, p.y? = some b := by
 have h : Nat.beq (xe p) 1 = true := by { rw [h]; rfl }
 rcases p <;> first | exact ⟨_, rfl⟩ | exact nf h
theorem kind2 {p : PV} (h : xe p = 2) : ∃ b, p.s? = some b := by
 have h : Nat.beq (xe p) 2 = true := by { rw [h]; rfl }
 rcases p <;> first | exact ⟨_, rfl⟩ | exact nf h
theorem kind3 {p : PV} (h : xe p = 3) : ∃ b, p.i? = some b := by
 have h : Nat.beq (xe p) 3 = true := by { rw [h]; rfl }
 rcases p <;> first | exact ⟨_, rfl⟩ | exact nf h
def KeyI (w : World) : PV → DictEntry → Prop
 | .bytes b, d => ∃ t, d.hash = xN w b ∧ d.key = .bytes b t
 | .str x, d => ∃ t, d.hash = hashStr w x ∧ d.key = .str x t
 | .int i, d => ∃ t, d.hash = hashInt i ∧ d.key = .int i t
 | _, _ => False
theorem xl.inv {w : World} {v : PV} {d : DictEntry} (r : xl w v d) : KeyI w v d := by
 cases r with
 | bytes => exact ⟨_, rfl, rfl⟩
 | str => exact ⟨_, rfl, rfl⟩
 | int => exact ⟨_, rfl, rfl⟩
theorem xl.b {w : World} {b : BA} {t : Tok} {d : DictEntry} (e1 : d.key = .bytes b t) (e2 : d.hash = xN w b) : xl w (.bytes b) d := by
 have h : xl w (.bytes b) ⟨xN w b, .bytes b t, d.val⟩ := .bytes
 rw [← e1, ← e2] at h; exact h
theorem xl.s {w : World} {b : Str} {t : Tok} {d : DictEntry} (e1 : d.key = .str b t) (e2 : d.hash = hashStr w b) : xl w (.str b) d := by
 have h : xl w (.str b) ⟨hashStr w b, .str b t, d.val⟩ := .str
 rw [← e1, ← e2] at h; exact h
theorem xl.i {w : World} {b : Int} {t : Tok} {d : DictEntry} (e1 : d.key = .int b t) (e2 : d.hash = hashInt b) : xl w (.int b) d := by
 have h : xl w (.int b) ⟨hashInt b, .int b t, d.val⟩ := .int
 rw [← e1, ← e2] at h; exact h
theorem isB (P : Program) (w : World) (b : BA) (t : Tok) : (bytesKind P w).is b.toList (.bytes b t) = true := beq_self_eq_true b.toList
def kkB (P : Program) (w : World) : KK P w (bytesKind P w) 1 where
 un := fun p => p.y?.bind fun b => some b.toList
 is p h := let ⟨b, e⟩ := kind1 h; ⟨b.toList, by rw [e]; rfl⟩
 key := fun {p k a Z μ h} e r => by
  obtain ⟨b, e1, rfl⟩ := zL e
  obtain ⟨t, rfl⟩ := r.y e1
  exact isB P w b t
 ent := fun {p k d} e r => by
  obtain ⟨b, e1, rfl⟩ := zL e
  rw [PV.y?_eq e1] at r
  obtain ⟨t, h1, h2⟩ := r.inv
  rw [h1, h2]
  exact ⟨isB P w b t, rfl⟩
 back := fun {p k d} e h1 h2 => by
  obtain ⟨b, e1, rfl⟩ := zL e
  rw [PV.y?_eq e1]
  obtain ⟨t, h⟩ := isBytes_shape h1
  exact .b h h2
 eq := fun {p q a b} e f => by
  obtain ⟨x, e1, rfl⟩ := zL e
  obtain ⟨y, f1, rfl⟩ := zL f
  rw [PV.y?_eq e1, PV.y?_eq f1, qV]
  rfl
def kkS (P : Program) (w : World) : KK P w (PySem.strKind P w) 2 where
 un := PV.s?
 is p h := kind2 h
 key := fun {p k a Z μ h} e r => by
  rw [PV.s?_eq e] at r
  obtain ⟨t, rfl⟩ := r.inv
  exact strKind_is ..
 ent := fun {p k d} e r => by
  rw [PV.s?_eq e] at r
  obtain ⟨t, h1, h2⟩ := r.inv
  rw [h1, h2]
  exact ⟨strKind_is .., rfl⟩
 back := fun {p k d} e h1 h2 => by
  rw [PV.s?_eq e]
  obtain ⟨t, h⟩ := Value.isStrOf_shape h1
  exact .s h h2
 eq := fun {p q a b} e f => by
  rw [PV.s?_eq e, PV.s?_eq f]
  show sq a b = _
  rw [Bool.eq_iff_iff, yR, decide_eq_true_iff]
def kkI (P : Program) (w : World) : KK P w (PySem.intKind P w) 3 where
 un := PV.i?
 is p h := kind3 h
 key := fun {p k a Z μ h} e r => by
  obtain ⟨t, rfl⟩ := r.i e
  exact intKind_is ..
 ent := fun {p k d} e r => by
  rw [PV.i?_eq e] at r
  obtain ⟨t, h1, h2⟩ := r.inv
  rw [h1, h2]
  exact ⟨intKind_is .., rfl⟩
 back := fun {p k d} e h1 h2 => by
  rw [PV.i?_eq e]
  obtain ⟨t, h⟩ := Value.isInt_shape h1
  exact .i h h2
 eq := fun {p q a b} e f => by
  rw [PV.i?_eq e, PV.i?_eq f]
  show (a == b) = _
  rw [Bool.eq_iff_iff, beq_iff_eq, decide_eq_true_iff]

section
variable {s s₁ : Shared} {Q : KV} {E : KV} {A : Around}

theorem St.dictAt (S : St w K base Z μ σ s) {l : Nat} {a : Addr} {es : List (PV × PV)} (hc : σ[l]?.bind dctC = some es) (hm : μ[l]? = some a) : ∃ ds n, s.heap.get? a = some (zZ ds n) ∧ REs w Z μ s.heap es ds.toList := by
 obtain ⟨c, hc, e⟩ := zp hc
 rw [dctC_eq e] at hc
 exact (S.cells l _ a hc hm).inv
theorem YR (S : St w K base Z μ σ s) {v : PV} {a : Value} {es : List (PV × PV)} (r : RV w Z μ s.heap v a) (e : B1 σ v = some es) : ∃ b ds n, a = .ref b ∧ s.heap.get? b = some (zZ ds n) ∧ REs w Z μ s.heap es ds.toList ∧ b ≠ sysModules := by
 have r := r.inv
 rcases v <;> first | exact no e | skip
 ·obtain ⟨b, ds, n, z, g, q, f⟩ := r; exact ⟨b, ds, n, f, g, Option.some.inj e ▸ q, S.nsm _ z⟩
 ·obtain ⟨b, hm, f⟩ := r; obtain ⟨ds, n, g, q⟩ := S.dictAt e hm; exact ⟨b, ds, n, f, g, q, fun x => S.low b (List.mem_of_getElem? hm) (x ▸ S.smod)⟩

section
variable {T : Type} [DecidableEq T] {knd : KeyKind P w T} {n : Nat} (kk : KK P w knd n)
include kk
theorem KK.at {es : List (PV × PV)} {e : PV × PV} (ok : xu n (e :: es) = true) : (∃ y, kk.un e.1 = some y) ∧ xu n es = true := ⟨kk.is e.1 (Nat.eq_of_beq_eq_true (bl ok)), br ok⟩
theorem REs.keysOf {h : Heap} {es : List (PV × PV)} : ∀ {ds : List DictEntry}, xu n es = true → REs w Z μ h es ds → ∀ e ∈ ds, ∃ k, knd.is k e.key = true ∧ e.hash = knd.hash k := by
 induction es with
 | nil => intro ds _ r; rw [show ds = [] from r.inv]; exact fun e h => nomatch h
 | cons e es ih =>
  intro ds ok r x hx
  obtain ⟨d, ds, k, _, q, rfl⟩ := r.inv
  obtain ⟨⟨y, hy⟩, ok⟩ := kk.at ok
  rcases List.mem_cons.mp hx with rfl | hx
  ·exact ⟨y, kk.ent hy k⟩
  ·exact ih ok q x hx
theorem REs.find {h : Heap} {x : PV} {k : T} (hx : kk.un x = some k) {es : List (PV × PV)} : ∀ {ds : List DictEntry}, xu n es = true → REs w Z μ h es ds →
  (Am es x = none → (ds.find? fun e => knd.is k e.key) = none) ∧ ∀ v, Am es x = some v → ∃ e, (ds.find? fun e => knd.is k e.key) = some e ∧ RV w Z μ h v e.val := by
 induction es with
 | nil => intro ds _ r; rw [show ds = [] from r.inv]; exact ⟨fun _ => rfl, fun v e => no e⟩
 | cons e es ih =>
  intro ds ok r
  obtain ⟨d, ds, kr, r1, q, rfl⟩ := r.inv
  obtain ⟨⟨y, hy⟩, ok⟩ := kk.at ok
  have hq : keq e.1 x = knd.is k d.key := by rw [kk.eq hy hx, KeyKind.is_eq_decide (kk.ent hy kr).1 k, Bool.eq_iff_iff, decide_eq_true_iff, decide_eq_true_iff]; exact eq_comm
  unfold Am
  rw [List.find?_cons, ← hq]
  cases keq e.1 x with
  | true => exact ⟨fun e => (nomatch e), fun v e => ⟨d, rfl, Option.some.inj e ▸ r1⟩⟩
  | false => exact ih ok q
def RK (w : World) (Z : AP) (μ : LA) (h : Heap) (un : PV → Option T) : List (PV × PV) → List (T × Value) → Prop
 | [], kvs => kvs = []
 | e :: es, kvs => ∃ k a r, un e.1 = some k ∧ RV w Z μ h e.2 a ∧ RK w Z μ h un es r ∧ kvs = (k, a) :: r
theorem REs.pairs {h : Heap} {es : List (PV × PV)} : ∀ {ds : List DictEntry}, xu n es = true → REs w Z μ h es ds → ∃ kvs, Pairs knd ds kvs ∧ RK w Z μ h kk.un es kvs := by
 induction es with
 | nil => intro ds _ r; rw [show ds = [] from r.inv]; exact ⟨[], .nil, rfl⟩
 | cons e es ih =>
  intro ds ok r
  obtain ⟨d, ds, kr, r1, q, rfl⟩ := r.inv
  obtain ⟨⟨y, hy⟩, ok⟩ := kk.at ok
  obtain ⟨kvs, h1, h2⟩ := ih ok q
  exact ⟨(y, d.val) :: kvs, .cons (kk.ent hy kr).1 rfl h1, y, d.val, kvs, hy, r1, h2, rfl⟩
theorem REs.ofPairs {h : Heap} {ds : List DictEntry} {kvs : List (T × Value)} (hp : Pairs knd ds kvs) : ∀ {es : List (PV × PV)}, (∀ e ∈ ds, ∃ k, knd.is k e.key = true ∧ e.hash = knd.hash k) → RK w Z μ h kk.un es kvs → REs w Z μ h es ds := by
 induction hp with
 | nil =>
  intro es _ r
  cases es with
  | nil => exact .nil
  | cons _ _ => obtain ⟨_, _, _, _, _, _, f⟩ := r; exact nomatch f
 | @cons e kv ds kvs h1 h2 h3 ih =>
  intro es hk r
  cases es with
  | nil => exact nomatch (show _ = [] from r)
  | cons pv es =>
   obtain ⟨k, a, _, hu, hr, ht, f⟩ := r
   obtain ⟨rfl, rfl⟩ := List.cons.inj f
   obtain ⟨k', g1, g2⟩ := hk e (.head _)
   rw [knd.inj _ _ _ g1 h1] at g2
   exact .cons (kk.back hu h1 g2) (h2 ▸ hr) (ih (fun e he => hk e (.tail _ he)) ht)
theorem RK.has {h : Heap} {x : PV} {k : T} (hx : kk.un x = some k) {es : List (PV × PV)} : ∀ {kvs : List (T × Value)}, RK w Z μ h kk.un es kvs → hasK es x = kvs.any fun kv => decide (kv.1 = k) := by
 induction es with
 | nil => intro kvs r; rw [show kvs = [] from r]; rfl
 | cons e es ih =>
  intro kvs r
  obtain ⟨k', a, r, hu, _, ht, rfl⟩ := r
  rw [List.any_cons, ← kk.eq hu hx, ← ih ht]; rfl
theorem RK.put {h : Heap} {x u : PV} {k : T} {b : Value} (hx : kk.un x = some k) (hb : RV w Z μ h u b) {es : List (PV × PV)} : ∀ {kvs : List (T × Value)}, RK w Z μ h kk.un es kvs → RK w Z μ h kk.un (dput es x u) (kvs.map fun kv => if kv.1 = k then (kv.1, b) else kv) := by
 induction es with
 | nil => intro kvs r; rw [show kvs = [] from r]; rfl
 | cons e es ih =>
  intro kvs r
  obtain ⟨k', a, r, hu, hr, ht, rfl⟩ := r
  have hq := kk.eq hu hx
  unfold dput
  rw [List.map_cons]
  by_cases e : k' = k
  ·rw [hq, decide_eq_true e, if_pos e]; exact ⟨_, _, _, hu, hb, ih ht, rfl⟩
  ·rw [hq, decide_eq_false e, if_neg e]; exact ⟨_, _, _, hu, hr, ih ht, rfl⟩
theorem RK.snoc {h : Heap} {x u : PV} {k : T} {b : Value} (hx : kk.un x = some k) (hb : RV w Z μ h u b) {es : List (PV × PV)} : ∀ {kvs : List (T × Value)}, RK w Z μ h kk.un es kvs → RK w Z μ h kk.un (es ++ [(x, u)]) (kvs ++ [(k, b)]) := by
 induction es with
 | nil => intro kvs r; rw [show kvs = [] from r]; exact ⟨k, b, [], hx, hb, rfl, rfl⟩
 | cons e es ih =>
  intro kvs r
  obtain ⟨k', a, r, hu, hr, ht, rfl⟩ := r
  exact ⟨_, _, _, hu, hr, ih ht, rfl⟩
theorem RK.set {h : Heap} {x u : PV} {k : T} {b : Value} (hx : kk.un x = some k) (hb : RV w Z μ h u b) {es : List (PV × PV)} {kvs : List (T × Value)} (r : RK w Z μ h kk.un es kvs) : RK w Z μ h kk.un (dset es x u) (stored kvs k b) := by
 unfold dset stored
 rw [r.has kk hx]
 cases (kvs.any fun kv => decide (kv.1 = k)) with
 | true => exact r.put kk hx hb
 | false => exact r.snoc kk hx hb
theorem RK.nodup {h : Heap} {es : List (PV × PV)} : ∀ {kvs : List (T × Value)}, RK w Z μ h kk.un es kvs → Bc es = true → (kvs.map (·.1)).Nodup := by
 induction es with
 | nil => intro kvs r _; rw [show kvs = [] from r]; exact List.nodup_nil
 | cons e es ih =>
  intro kvs r hn
  obtain ⟨k, a, r, hu, hr, ht, rfl⟩ := r
  rw [List.map_cons, List.nodup_cons]
  refine ⟨fun hm => ?_, ih ht (br hn)⟩
  have hf := (Bool.not_eq_true' _).mp (bl hn)
  rw [ht.has kk hu] at hf
  obtain ⟨kv, h1, h2⟩ := List.mem_map.mp hm
  exact List.any_eq_false.mp hf kv h1 (decide_eq_true h2)
omit kk [DecidableEq T] in
theorem RK.length {h : Heap} {un : PV → Option T} {es : List (PV × PV)} : ∀ {kvs : List (T × Value)}, RK w Z μ h un es kvs → kvs.length = es.length := by
 induction es with
 | nil => intro kvs r; rw [show kvs = [] from r]; rfl
 | cons e es ih => intro kvs r; obtain ⟨k, a, r, hu, hr, ht, rfl⟩ := r; exact congrArg (· + 1) (ih ht)
omit kk [DecidableEq T] in
theorem RK.lift {h : Heap} {un : PV → Option T} {h₁ : Heap} (L : jd Z μ h Z1 μ1 h₁) {es : List (PV × PV)} : ∀ {kvs : List (T × Value)}, RK w Z μ h un es kvs → RK w Z1 μ1 h₁ un es kvs := by
 induction es with
 | nil => exact fun r => r
 | cons e es ih => exact fun ⟨k, a, r, hu, hr, ht, f⟩ => ⟨k, a, r, hu, hr.lift L, ih ht, f⟩

omit kk in
theorem Jh {h : Heap} {b : Addr} {ds : Array DictEntry} {m : Nat} (g : h.get? b = some (zZ ds m)) (hk : ∀ e ∈ ds.toList, ∃ k, knd.is k e.key = true ∧ e.hash = knd.hash k) : h.MapOf knd b (findBy knd.is ds) :=
 ⟨_, ds, m, g, ⟨rfl, rfl, rfl⟩, rfl, fun e he => hk e (Array.mem_toList_iff.mpr he), fun _ => rfl⟩
omit kk in
theorem Xg {h : Heap} {b : Addr} {ds : Array DictEntry} {m : Nat} {kvs : List (T × Value)} (g : h.get? b = some (zZ ds m)) (hk : ∀ e ∈ ds.toList, ∃ k, knd.is k e.key = true ∧ e.hash = knd.hash k) (hp : Pairs knd ds.toList kvs) (hn : (kvs.map (·.1)).Nodup) : h.DictOf knd b kvs :=
 ⟨_, ds, m, g, ⟨rfl, rfl, rfl⟩, rfl, fun e he => hk e (Array.mem_toList_iff.mpr he), hp, hn⟩
theorem Jp {h : Heap} {b : Addr} {kvs : List (T × Value)} {es : List (PV × PV)} (d : h.DictOf knd b kvs) (r : RK w Z μ h kk.un es kvs) : ∃ ds m, h.get? b = some (zZ ds m) ∧ REs w Z μ h es ds.toList := by
 obtain ⟨⟨c, dd, dt, sl⟩, ds, m, g, ⟨h1, h2, h3⟩, hd, hk, hp, _⟩ := d
 simp only at h1 h2 h3 hd
 subst h1 h2 h3 hd
 exact ⟨ds, m, g, REs.ofPairs kk hp (fun e he => hk e (Array.mem_toList_iff.mp he)) r⟩
omit kk in
theorem Yb (ds : Array DictEntry) (k : T) : findBy knd.is ds k = (ds.toList.find? fun e => knd.is k e.key).map (·.val) := by
 obtain ⟨l⟩ := ds; simp [findBy]
end
end
end
section
section
variable {s s' s₁ : Shared} {Q : KV} {E : KV} {A : Around}

theorem yG.lift {h h' : Heap} {c : zU} {a : Addr} (L : jd Z μ h Z1 μ1 h') (ha : ∀ o, h.get? a = some o → h'.get? a = some o) (r : yG w Z μ h c a) : yG w Z1 μ1 h' c a := by
 cases r with
 | list e r => exact .list (ha _ e) (r.lift L)
 | dict e r => exact .dict (ha _ e) (r.lift L)
 | inst e f => exact .inst (ha _ e) (L.pre _ _ f)
 | fields e r => exact .fields (ha _ e) (r.lift L)
 | barr e => exact .barr (ha _ e)
theorem St.liftBut (S : St w K base Z μ σ s) {l : Nat} {a : Addr} {h' : Heap} (hm : μ[l]? = some a) (hs : Heap.SameBut a s.heap h') : jd Z μ s.heap Z μ h' :=
 ⟨fun _ _ e => e, fun _ e => e, fun b o z e => (hs.2 b (fun q => (S.zok b z).2 (q ▸ List.mem_of_getElem? hm))).trans e⟩
theorem St.put (hk : Low K base) (S : St w K base Z μ σ s) {l : Nat} {a : Addr} {c : zU} {h' : Heap} {k : Nat} (hm : μ[l]? = some a) (hs : Heap.SameBut a s.heap h') (hc : yG w Z μ h' c a) :
  St w K base Z μ (σ.set l c) { s with heap := h', toks := k } ∧ ∀ W, Ext W Z μ s Z μ { s with heap := h', toks := k } := by
 have L := S.liftBut hm hs
 have hl : l < μ.length := (List.getElem?_eq_some_iff.mp hm).1
 have low : ∀ b o, base b → s.heap.get? b = some o → h'.get? b = some o := fun b o hb e => (hs.2 b (fun q => S.low a (List.mem_of_getElem? hm) (q ▸ hb))).trans e
 refine ⟨⟨fun b o e => low b o (hk b o e) (S.kin b o e), ?_, fun b hb => let ⟨o, e⟩ := S.big b hb; ⟨o, low b o hb e⟩, fun b z => ⟨?_, (S.zok b z).2⟩, by rw [List.length_set]; exact S.len, S.nd, S.low, fun j d b e1 e2 => ?_, S.stat, S.smod, S.nsm, S.kz⟩, fun W => ⟨fun _ _ e => e, fun _ e => e, fun _ e => .inl e, fun _ e => .inl e, fun b o e hn _ => (hs.2 b fun q => hn (q ▸ List.mem_of_getElem? hm)).trans e, fun b o e => ?_, rfl, rfl⟩⟩
 ·obtain ⟨mc, ⟨o, es, ep, ho, r⟩, hm'⟩ := S.lim
  exact ⟨mc, ⟨o, es, ep, low _ _ S.stat ho, r⟩, hm'⟩
 ·obtain ⟨o, ho⟩ := (S.zok b z).1
  exact ⟨o, L.frz b o z ho⟩
 ·by_cases q : j = l
  ·subst q
   rw [List.getElem?_set_self (by rw [← S.len]; exact hl)] at e1
   cases e1
   rw [hm] at e2; cases e2
   exact hc
  ·rw [List.getElem?_set_ne (fun x => q x.symm)] at e1
   refine (S.cells j d b e1 e2).lift L fun o e => (hs.2 b fun x => q ?_).trans e
   subst x
   exact (List.getElem?_inj (List.getElem?_eq_some_iff.mp e2).1 S.nd).mp (e2.trans hm.symm)
 ·by_cases q : b = a
  ·subst q; exact hc.has
  ·exact ⟨o, (hs.2 b q).trans e⟩
theorem St.new (hk : Low K base) (S : St w K base Z μ σ s) {a : Addr} {c : zU} {h' : Heap} {k : Nat} (hp : yz s.heap h') (ha : s.heap.get? a = none) (hc : yG w Z (μ ++ [a]) h' c a) :
  St w K base Z (μ ++ [a]) (σ ++ [c]) { s with heap := h', toks := k } ∧ (∀ W, Ext W Z μ s Z (μ ++ [a]) { s with heap := h', toks := k }) := by
 have L : jd Z μ s.heap Z (μ ++ [a]) h' := ⟨fun l b e => by rw [List.getElem?_append_left (List.getElem?_eq_some_iff.mp e).1]; exact e, fun _ e => e, fun b o _ e => hp b o e⟩
 have T := S.grow (k := k) hk hp
 refine ⟨⟨T.1.kin, T.1.lim, T.1.big, fun b z => ⟨(T.1.zok b z).1, fun q => ?_⟩, by simp [S.len], ?_, fun b hb => ?_, fun j d b e1 e2 => ?_, S.stat, S.smod, S.nsm, S.kz⟩, fun W => ⟨L.pre, fun _ e => e, fun _ e => .inl e, fun b hb => ?_, fun b o e _ _ => hp b o e, fun b o e => ⟨o, hp b o e⟩, rfl, rfl⟩⟩
 ·rcases List.mem_append.mp q with q | q
  ·exact (S.zok b z).2 q
  ·rw [List.mem_singleton] at q; subst q; obtain ⟨o, ho⟩ := (S.zok b z).1; exact zn ho ha
 ·rw [List.nodup_append]
  refine ⟨S.nd, by simp, fun x hx y hy => ?_⟩
  rw [List.mem_singleton] at hy; subst hy
  rintro rfl
  obtain ⟨o, ho⟩ := S.hasM hx
  exact zn ho ha
 ·rcases List.mem_append.mp hb with q | q
  ·exact S.low b q
  ·rw [List.mem_singleton] at q; subst q; exact fun hb => by obtain ⟨o, ho⟩ := S.big b hb; exact zn ho ha
 ·by_cases q : j < μ.length
  ·rw [List.getElem?_append_left q] at e2
   rw [List.getElem?_append_left (S.len ▸ q)] at e1
   exact (S.cells j d b e1 e2).lift L (hp b)
  ·have hj : j < (μ ++ [a]).length := (List.getElem?_eq_some_iff.mp e2).1
   rw [List.length_append, List.length_singleton] at hj
   have : j = μ.length := by omega
   subst this
   rw [List.getElem?_append_right (Nat.le_refl _), Nat.sub_self] at e2
   rw [S.len, List.getElem?_append_right (Nat.le_refl _), Nat.sub_self] at e1
   cases e1; cases e2
   exact hc
 ·rcases List.mem_append.mp hb with q | q
  ·exact .inl q
  ·rw [List.mem_singleton] at q; subst q; exact .inr ha
theorem CG (S : St w K base Z μ σ s) {h' : Heap} (hp : ∀ b o, s.heap.get? b = some o → h'.get? b = some o) (a : Addr) : jd Z μ s.heap Z (μ ++ [a]) h' :=
 ⟨fun l b e => by rw [List.getElem?_append_left (List.getElem?_eq_some_iff.mp e).1]; exact e, fun _ e => e, fun b o _ e => hp b o e⟩
theorem St.at_end (S : St w K base Z μ σ s) (a : Addr) : (μ ++ [a])[σ.length]? = some a := by rw [← S.len, List.getElem?_append_right (Nat.le_refl _), Nat.sub_self]; rfl

theorem Ret.newList (hk : Low K base) {C : KD} (H : Ret w K base Z μ s C Q) (S : St w K base Z μ σ s) {vs : List PV} {as : List Value} (r : RVs w Z μ s.heap vs as) {k : Nat} (c : C (.loc σ.length) (σ ++ [.list vs])) :
  Q (.ref s.heap.objs.size) { s with heap := s.heap.push { cls := .type "list", data := .seq as.toArray }, toks := k } := by
 have hp : ∀ b o, s.heap.get? b = some o → (s.heap.push { cls := .type "list", data := .seq as.toArray }).get? b = some o := fun b o e => Heap.get?_push_of_some _ e
 have L := CG S hp s.heap.objs.size
 obtain ⟨S', X⟩ := S.new (k := k) (c := .list vs) (a := s.heap.objs.size) hk hp (zS _) (.list (Heap.get?_push_size _ rfl) (r.lift L))
 exact H _ _ _ _ _ _ c S' (X _) (.loc (S.at_end _))
end

def memU8 (i : Int) (b : BA) : Option Bool := bOf (decide (0 ≤ i) && decide (i < 256)) (some (b.toList.any fun c => Nat.beq c.toNat i.toNat))
def keysOf (x : PV) (es : List (PV × PV)) : Bool := !(Nat.beq (xe x) 0) && xu (xe x) es
def inD (σ : za) (x y : PV) : Option Bool := (B1 σ y).bind fun es => bOf (keysOf x es) (some (Am es x).isSome)
def inV (σ : za) (x y : PV) : Option Bool := match y with
 | .tup vs => (match x with | .bytes b => memB b vs | x => memP x vs)
 | .bytes b => x.i?.bind fun i => memU8 i b
 | y => inD σ x y

section
variable {s s' s₁ : Shared} {Q : KV} {E : KV} {A : Around}

theorem jN {α : Prop} {x : PV} (hn : (!(Nat.beq (xe x) 0)) = true) (h : ∀ {T : Type} [DecidableEq T] {knd : KeyKind P w T}, KK P w knd (xe x) → α) : α := by
 rcases x <;> first | exact nf hn | skip
 ·exact h (kkI P w)
 ·exact h (kkS P w)
 ·exact h (kkB P w)

theorem DY (S : St w K base Z μ σ s) {x y : PV} {a c : Value} {b : Bool} (ra : RV w Z μ s.heap x a) (rb : RV w Z μ s.heap y c) (e : inD σ x y = some b) :
  (Q (.bool b) { s with toks := s.toks + 1 } → wpAny (model P w) A (compareOp .In a c) Q E s) ∧ (Q (.bool (!b)) { s with toks := s.toks + 1 } → wpAny (model P w) A (compareOp .NotIn a c) Q E s) := by
 obtain ⟨es, hv, e⟩ := zp e
 obtain ⟨hc, e⟩ := zQ e
 obtain ⟨d, ds, n, rfl, g, q, hsm⟩ := YR S rb hv
 refine jN (P := P) (w := w) (bl hc) fun {T} _ {knd} kk => ?_
 obtain ⟨k, hk⟩ := kk.is x rfl
 have f := REs.find kk hk (br hc) q
 have M := Jh g (REs.keysOf kk (br hc) q)
 have hf : (findBy knd.is ds k).isSome = b := by
  rw [Yb, ← Option.some.inj e]
  cases hd : Am es x with
  | none => rw [f.1 hd]; rfl
  | some v => obtain ⟨e, he, _⟩ := f.2 v hd; rw [he]; rfl
 have hd : (d == sysModules) = false := beq_eq_false_iff_ne.mpr hsm
 exact ⟨fun h => wpAny_in_of (knd := knd) (kk.key hk ra) hd M (by rw [hf]; exact h), fun h => wpAny_notIn_of (knd := knd) (kk.key hk ra) hd M (by rw [hf]; exact h)⟩
end
end
section
open PySem.Builtin
section
variable {P : Program} {w : World} {A : Around} {E : KV} {s : Shared} {Q : KV}

theorem jo {T : String} {name : Str} {id : String} {B : Builtin} {self : Value} {rest : List Value} (slot : Slot T name id) (hT : s.TypeIs self T)
  (entry : entryFor table id = some B) (args : argsOk id ⟨self :: rest, []⟩) (g : wpAny (model P w) A.in1 (B ⟨self :: rest, []⟩) (fun fin s' => ∃ v, fin = .done (.ret v) ∧ Q v s') E s) :
  wpAny (model P w) A (call (.builtin id) (self :: rest)) Q E s :=
 wpAny_call (codeAny_call_builtin slot.plain entry (slot.check _ _ _ _ _ _ _ _ hT args (wpAny_mono g (fun fin s' h => by obtain ⟨v, rfl, q⟩ := h; exact q) fun _ _ e => e)))
theorem FH {T id : String} {B : Builtin} {c x : Value} (hT : s.TypeIs c T) (slot : Slot T "__contains__" id)
  (entry : entryFor table id = some B) (args : argsOk id ⟨[c, x], []⟩) (g : wpAny (model P w) A.in1 (B ⟨[c, x], []⟩) (fun fin s' => ∃ v, fin = .done (.ret v) ∧ ∃ b, v = .bool b ∧ Q (.bool b) s') E s) : wpAny (model P w) A (compareOp .In x c) Q E s := by
 show wpAny _ A (do return .bool (← contains c x)) Q E s
 refine wpAny_bind (wpAny_contains_slot hT slot (wpAny_mono (jo slot hT entry args g) (fun v s' hv => ?_) fun _ _ e => e))
 obtain ⟨b, rfl, hq⟩ := hv
 exact wpAny_truthy_bool (wpAny_pure hq)
theorem J1 {T id : String} {B : Builtin} {c x : Value} (hT : s.TypeIs c T) (slot : Slot T "__contains__" id)
  (entry : entryFor table id = some B) (args : argsOk id ⟨[c, x], []⟩) (g : wpAny (model P w) A.in1 (B ⟨[c, x], []⟩) (fun fin s' => ∃ v, fin = .done (.ret v) ∧ ∃ b, v = .bool b ∧ Q (.bool (!b)) s') E s) : wpAny (model P w) A (compareOp .NotIn x c) Q E s := by
 show wpAny _ A (do return .bool (!(← contains c x))) Q E s
 refine wpAny_bind (wpAny_contains_slot hT slot (wpAny_mono (jo slot hT entry args g) (fun v s' hv => ?_) fun _ _ e => e))
 obtain ⟨b, rfl, hq⟩ := hv
 exact wpAny_truthy_bool (wpAny_pure hq)

theorem yL : typeLookup (.type "bytes") "__buffer__" = pure (some (.builtin "bytes.__buffer__")) := by rw [typeLookup_type, builtinLookup_eq_fast]; kernel_rfl
theorem XN : typeLookup (.type "bytes") "__release_buffer__" = pure none := by rw [typeLookup_type, builtinLookup_eq_fast]; kernel_rfl
theorem jZ : typeLookup (.type "bytearray") "__buffer__" = pure (some (.builtin "bytearray.__buffer__")) := by rw [typeLookup_type, builtinLookup_eq_fast]; kernel_rfl
theorem JH : typeLookup (.type "bytearray") "__release_buffer__" = pure (some (.builtin "bytearray.__release_buffer__")) := by rw [typeLookup_type, builtinLookup_eq_fast]; kernel_rfl
theorem Bl : typeLookup (.type "bytes") "__index__" = pure none := by rw [typeLookup_type, builtinLookup_eq_fast]; kernel_rfl

theorem ye {id : String} {full : Bool} {b : BA} {t : Tok} {R : Option (Array UInt8) → Shared → Prop} (h : R (some b) s) : wpAny (model P w) A (Bytes.buffer? id (.bytes b t) full) R E s := by
 unfold Bytes.buffer?
 refine wpAny_bind (wpAny_specialOf (typeIs_bytes s b t) yL ?_)
 have own : ∀ {R : KB}, R true s → wpAny (model P w) A (Bytes.slotIsOwn (.bytes b t) "__buffer__") R E s := fun {R} h => by
  unfold Bytes.slotIsOwn
  refine wpAny_bind (wpAny_specialOf (typeIs_bytes s b t) yL ?_)
  show wpAny _ _ (if (!("bytes.__buffer__".endsWith ("." ++ "__buffer__"))) = true then _ else _) _ _ _
  rw [show "bytes.__buffer__".endsWith ("." ++ "__buffer__") = true from by decide +kernel]
  show wpAny _ _ (isInstance _ (.type ("bytes.__buffer__".dropRight ("__buffer__".length + 1)))) _ _ _
  rw [show "bytes.__buffer__".dropRight ("__buffer__".length + 1) = "bytes" from by decide +kernel]
  exact wpAny_isInstance (typeIs_bytes s b t) PySem.F.sub_bytes_bytes h
 dsimp only
 refine wpAny_bind (own ?_)
 rw [if_neg (by simp)]
 refine wpAny_bind (wpAny_specialOf (typeIs_bytes s b t) yL ?_)
 show wpAny _ _ (Bytes.ownRelease (.bytes b t) >>= fun r => if r = true then _ else Bytes.payload _ >>= fun x => pure (some x)) _ _ _
 unfold Bytes.ownRelease
 refine wpAny_bind (wpAny_bind (m := Bytes.slotIsOwn _ _) ?_)
 unfold Bytes.slotIsOwn
 refine wpAny_bind (wpAny_specialOf (typeIs_bytes s b t) XN ?_)
 refine wpAny_pure (wpAny_pure ?_)
 rw [if_neg (by simp)]
 exact wpAny_bind (wpAny_bind (wpAny_pure (wpAny_pure (wpAny_pure h))))

def xi (Q : KV) : PySem.Fin → Shared → Prop := fun fin s' => ∃ v, fin = .done (.ret v) ∧ Q v s'
theorem j3 {v : Value} (h : Q v s) : wpAny (model P w) A (ret v) (xi Q) E s := wpAny_pure ⟨v, rfl, h⟩

theorem qP {b : BA} {t u : Tok} {i : Int} (h0 : 0 ≤ i) (h1 : i < 256) (h : Q (.bool (b.contains i.toNat.toUInt8)) s) : wpAny (model P w) A («bytes.__contains__» ⟨[.bytes b t, .int i u], []⟩) (xi Q) E s := by
 unfold «bytes.__contains__»
 refine wpAny_bind (m := slotArgs _ _ _) (wpAny_of_eq (a := (.bytes b t, [.int i u])) rfl ?_)
 refine wpAny_bind (m := Bytes.containsIn _ _ _) ?_
 unfold Bytes.containsIn
 refine wpAny_bind (wpAny_attempt ?_)
 unfold asIndex
 refine wpAny_bind (m := asInt? _) (wpAny_of_eq (a := some i) rfl (wpAny_pure (wpAny_bind (ye ?_))))
 have e : (decide (i < 0) || decide (i ≥ 256)) = false := by simp; omega
 show wpAny _ _ (if (decide (i < 0) || decide (i ≥ 256)) = true then _ else pure (b.contains i.toNat.toUInt8)) _ _ _
 rw [if_neg (by rw [e]; simp)]
 exact wpAny_pure (j3 h)

theorem A0 {α : Type} {M : Model} {msg : String} {Q : α → Shared → Prop} (hh : A.handled = none)
  (h : ∀ h' k e, yz s.heap h' → E e { s with heap := h', toks := k }) (hm : (msg : Str).length ≤ sizeLine) : wpAny M A (raiseErrorMade "TypeError" msg : Sem α) Q E s := by
 unfold raiseErrorMade
 refine wpAny_bind (wpAny_mkStr (wpAny_bind ?_) hm)
 unfold newExc newTuple
 refine wpAny_bind (wpAny_newObj_type ?_)
 refine wpAny_bind (m := firstArgMember _ _) (wpAny_of_eq (a := Value.none) (by simp only [firstArgMember, typeError_no_first]; rfl) ?_)
 rw [ownMembersOf_TypeError]
 refine wpAny_newObj_type ?_
 unfold raiseNew
 refine wpAny_bind (wpAny_handled ?_)
 rw [hh]
 first
  | refine wpAny_throw ?_
  | refine wpAny_bind (wpAny_pure (wpAny_throw ?_))
 exact h _ _ _ ((yz.push _ _).trans (yz.push _ _))

theorem xD (hh : A.handled = none) {b c : BA} {t u : Tok} (h : ∀ h' k, yz s.heap h' → Q (.bool (Bytes.find? b c 0 b.size).isSome) { s with heap := h', toks := k }) : wpAny (model P w) A («bytes.__contains__» ⟨[.bytes b t, .bytes c u], []⟩) (xi Q) E s := by
 unfold «bytes.__contains__»
 refine wpAny_bind (m := slotArgs _ _ _) (wpAny_of_eq (a := (.bytes b t, [.bytes c u])) rfl ?_)
 refine wpAny_bind (m := Bytes.containsIn _ _ _) ?_
 unfold Bytes.containsIn
 refine wpAny_bind (wpAny_attempt ?_)
 unfold asIndex
 refine wpAny_bind (m := asInt? _) (wpAny_of_eq (a := none) rfl ?_)
 refine wpAny_bind (wpAny_callSpecial?_none (typeIs_bytes s c u) Bl ?_)
 have nm : ∀ {R : String → Shared → Prop} {E : KV}, R "bytes" s → wpAny (model P w) A (typeNameOfCut 200 (.bytes c u)) R E s := fun {R E} h => by
  unfold typeNameOfCut shownTypeOf
  refine wpAny_bind (wpAny_bind (wpAny_typeOf (typeIs_bytes s c u) ?_))
  rw [if_neg (by decide)]
  refine wpAny_pure (wpAny_of_eq (a := "bytes") (by with_unfolding_all rfl) h)
 refine wpAny_bind (nm ?_)
 refine A0 hh (fun h' k e g => ?_) (by rw [sizeLine_eq]; decide +kernel)
 refine wpAny_bind (ye ?_)
 refine wpAny_bind (ye ?_)
 exact wpAny_bind (wpAny_rule (wpAny_pure (j3 (h h' k g))))
end
end
section
open PySem.Builtin
theorem xt : Manifest.owners.lookup (String.ofList ['s', 'e', 't', 'y', 'b'].reverse) = some Manifest.sig_bytes := by kernel_rfl
theorem xc : Slot "bytes" "find" "bytes.find" :=
 .of (owner := "bytes") (n := "find") (by rw [typeLookup_type, builtinLookup_eq_fast]; kernel_rfl) (by decide +kernel) (by decide +kernel) (by decide +kernel)
  (by first | exact .inl (by decide +kernel) | exact .inr (by decide +kernel)) (by rw [isSubtype_type]; kernel_rfl)
theorem Yd : entryFor table "bytes.find" = some Builtin.«bytes.find» := entryFor_of_tree (by kernel_rfl)
theorem qR (a b : Value) : argsOk "bytes.find" ⟨[a, b], []⟩ := by
 unfold argsOk; rw [signature?_of (id := "bytes.find") (n := ['d', 'n', 'i', 'f']) (o := ['s', 'e', 't', 'y', 'b']) (by kernel_rfl) xt]; kernel_rfl
theorem ji : Slot "bytes" "replace" "bytes.replace" :=
 .of (owner := "bytes") (n := "replace") (by rw [typeLookup_type, builtinLookup_eq_fast]; kernel_rfl) (by decide +kernel) (by decide +kernel) (by decide +kernel)
  (by first | exact .inl (by decide +kernel) | exact .inr (by decide +kernel)) (by rw [isSubtype_type]; kernel_rfl)
theorem xV : entryFor table "bytes.replace" = some Builtin.«bytes.replace» := entryFor_of_tree (by kernel_rfl)
theorem xF (a b c : Value) : argsOk "bytes.replace" ⟨[a, b, c], []⟩ := by
 unfold argsOk; rw [signature?_of (id := "bytes.replace") (n := ['e', 'c', 'a', 'l', 'p', 'e', 'r']) (o := ['s', 'e', 't', 'y', 'b']) (by kernel_rfl) xt]; kernel_rfl
theorem jI : Slot "bytes" "split" "bytes.split" :=
 .of (owner := "bytes") (n := "split") (by rw [typeLookup_type, builtinLookup_eq_fast]; kernel_rfl) (by decide +kernel) (by decide +kernel) (by decide +kernel)
  (by first | exact .inl (by decide +kernel) | exact .inr (by decide +kernel)) (by rw [isSubtype_type]; kernel_rfl)
theorem qL : entryFor table "bytes.split" = some Builtin.«bytes.split» := entryFor_of_tree (by kernel_rfl)
theorem qm (a b : Value) : argsOk "bytes.split" ⟨[a, b], []⟩ := by
 unfold argsOk; rw [signature?_of (id := "bytes.split") (n := ['t', 'i', 'l', 'p', 's']) (o := ['s', 'e', 't', 'y', 'b']) (by kernel_rfl) xt]; kernel_rfl
theorem jc : Manifest.owners.lookup (String.ofList ['y', 'a', 'r', 'r', 'a', 'e', 't', 'y', 'b'].reverse) = some Manifest.sig_bytearray := by kernel_rfl
theorem yX : Slot "bytearray" "append" "bytearray.append" :=
 .of (owner := "bytearray") (n := "append") (by rw [typeLookup_type, builtinLookup_eq_fast]; kernel_rfl) (by decide +kernel) (by decide +kernel) (by decide +kernel)
  (by first | exact .inl (by decide +kernel) | exact .inr (by decide +kernel)) (by rw [isSubtype_type]; kernel_rfl)
theorem j4 : entryFor table "bytearray.append" = some Builtin.«bytearray.append» := entryFor_of_tree (by kernel_rfl)
theorem jU (a b : Value) : argsOk "bytearray.append" ⟨[a, b], []⟩ := by
 unfold argsOk; rw [signature?_of (id := "bytearray.append") (n := ['d', 'n', 'e', 'p', 'p', 'a']) (o := ['y', 'a', 'r', 'r', 'a', 'e', 't', 'y', 'b']) (by kernel_rfl) jc]; kernel_rfl
theorem xS : Slot "bytearray" "__iadd__" "bytearray.__iadd__" :=
 .of (owner := "bytearray") (n := "__iadd__") (by rw [typeLookup_type, builtinLookup_eq_fast]; kernel_rfl) (by decide +kernel) (by decide +kernel) (by decide +kernel)
  (by first | exact .inl (by decide +kernel) | exact .inr (by decide +kernel)) (by rw [isSubtype_type]; kernel_rfl)
theorem xB : entryFor table "bytearray.__iadd__" = some Builtin.«bytearray.__iadd__» := entryFor_of_tree (by kernel_rfl)
theorem xk (a b : Value) : argsOk "bytearray.__iadd__" ⟨[a, b], []⟩ := by
 unfold argsOk; rw [signature?_of (id := "bytearray.__iadd__") (n := ['_', '_', 'd', 'd', 'a', 'i', '_', '_']) (o := ['y', 'a', 'r', 'r', 'a', 'e', 't', 'y', 'b']) (by kernel_rfl) jc]; kernel_rfl


section
variable {P : Program} {w : World} {A : Around} {E : KV} {s : Shared} {Q : KV}
theorem YI {α : Type} {id short : String} {l m : Nat} {self : Value} {rest : List Value} {f : Value × List Value → Sem α} {R : α → Shared → Prop} (h0 : (Nat.beq l m && !Nat.beq rest.length l) = false) (h1 : l ≤ rest.length) (h2 : rest.length ≤ m)
  (h : wpAny (model P w) A (f (self, rest)) R E s) : wpAny (model P w) A (selfAndSome id short l m ⟨self :: rest, []⟩ >>= f) R E s := by
 refine wpAny_bind (wpAny_of_eq (a := (self, rest)) ?_ h)
 unfold selfAndSome noKeywords checkCount
 have e1 : ((l == m && rest.length != l) = true) = False := by simp at h0 ⊢; intro e; have := h0 e; simpa using this
 simp only [List.isEmpty_nil, if_true, e1, if_false, show ¬ rest.length < l from by omega, show ¬ rest.length > m from by omega]
 rfl

noncomputable def bWin (b c : BA) : Option (Nat × Nat) := let p := Bytes.window b.size none none; if p.2 - p.1 < c.size then none else some (p.1.toNat, p.2.toNat)
def bFind (b c : BA) : Int := match (bWin b c).bind fun p => Bytes.find? b c p.1 p.2 with | some i => (i : Int) | none => -1
theorem BD {b c : BA} {t u : Tok} (h : Q (.int (bFind b c) s.toks) { s with toks := s.toks + 1 }) : wpAny (model P w) A («bytes.find» ⟨[.bytes b t, .bytes c u], []⟩) (xi Q) E s := by
 unfold «bytes.find» Bytes.searchM
 refine wpAny_bind (m := Bytes.searchArgs _ _ _) ?_
 unfold Bytes.searchArgs
 refine YI rfl (by simp) (by simp) ?_
 refine wpAny_bind (m := Bytes.bound? _) (wpAny_of_eq (a := none) rfl ?_)
 refine wpAny_bind (m := Bytes.bound? _) (wpAny_of_eq (a := none) rfl ?_)
 refine wpAny_bind (m := Bytes.buffer? _ _ _) (ye ?_)
 dsimp only
 refine wpAny_bind (m := Bytes.payload _) (wpAny_of_eq (a := b) rfl (wpAny_pure ?_))
 show wpAny _ _ (match (bWin b c).bind fun p => Bytes.find? b c p.1 p.2 with | some i => retInt i | none => _) _ _ _
 unfold bFind at h
 cases hf : (bWin b c).bind fun p => Bytes.find? b c p.1 p.2 with
 | some i =>
  rw [hf] at h
  exact wpAny_bind (wpAny_mkInt (wpAny_pure ⟨_, rfl, h⟩))
 | none =>
  rw [hf] at h
  exact wpAny_bind (wpAny_rule (wpAny_bind (wpAny_mkInt (wpAny_pure ⟨_, rfl, h⟩))))
noncomputable def bStarts (b c : BA) : Bool := let p := Bytes.window b.size none none; if p.2 - p.1 < c.size then false else b.extract p.1.toNat (p.1.toNat + c.size) == c
theorem Xw {b c : BA} {t u : Tok} (h : Q (.bool (bStarts b c)) s) : wpAny (model P w) A («bytes.startswith» ⟨[.bytes b t, .bytes c u], []⟩) (xi Q) E s := by
 unfold «bytes.startswith» Bytes.tailMatchM
 refine YI rfl (by simp) (by simp) ?_
 refine wpAny_bind (m := Bytes.bound? _) (wpAny_of_eq (a := none) rfl ?_)
 refine wpAny_bind (m := Bytes.bound? _) (wpAny_of_eq (a := none) rfl ?_)
 refine wpAny_bind (m := Bytes.payload _) (wpAny_of_eq (a := b) rfl ?_)
 refine wpAny_bind (wpAny_isInstance (typeIs_bytes s c u) PySem.F.sub_bytes_tuple ?_)
 rw [if_neg (by simp)]
 refine wpAny_bind (ye ?_)
 exact j3 h
noncomputable def AJ (b c : BA) : List Nat := if c.isEmpty then List.range (b.size + 1) else Bytes.occurrences b c 0 b.size
def bRepl (b c d : BA) : Array UInt8 := if (AJ b c).isEmpty || (c.isEmpty && d.isEmpty) then b else Bytes.joined d (Bytes.between b c.size (AJ b c))
theorem JE {b c d : BA} {t u v : Tok} (hsz : b.size + (AJ b c).length * d.size ≤ 10000) (hz : (bRepl b c d).size ≤ 10000) (h : ∀ t' k, Q (.bytes (bRepl b c d) t') { s with toks := k }) : wpAny (model P w) A («bytes.replace» ⟨[.bytes b t, .bytes c u, .bytes d v], []⟩) (xi Q) E s := by
 unfold «bytes.replace» Bytes.replaceM
 refine YI rfl (by simp) (by simp) ?_
 have lk : ∀ {id : String} {x : BA} {t : Tok} {R : Array UInt8 → Shared → Prop} {s : Shared}, R x s → wpAny (model P w) A (Bytes.bytesLike id (.bytes x t)) R E s := fun {id x t R s} h => by
  unfold Bytes.bytesLike
  exact wpAny_bind (ye (wpAny_pure h))
 refine wpAny_bind (lk ?_)
 refine wpAny_bind (lk ?_)
 refine wpAny_bind (wpAny_pure ?_)
 refine wpAny_bind (lk ?_)
 refine wpAny_bind (lk ?_)
 refine wpAny_bind (m := Bytes.payload _) (wpAny_of_eq (a := b) rfl ?_)
 show wpAny _ _ (if ((AJ b c).isEmpty || (c.isEmpty && d.isEmpty)) = true then _ else _) _ _ _
 unfold bRepl at h hz
 by_cases q : ((AJ b c).isEmpty || (c.isEmpty && d.isEmpty)) = true
 ·rw [if_pos q] at h ⊢
  refine wpAny_bind (wpAny_rule (wpAny_bind (m := Bytes.Kind.same _ _) ?_))
  unfold Bytes.Kind.same
  rw [if_pos (by decide)]
  refine wpAny_bind (wpAny_typeOf (typeIs_bytes s b t) ?_)
  rw [if_pos (by decide)]
  exact wpAny_pure (j3 (h t s.toks))
 ·rw [if_neg q] at h hz ⊢
  have hl : Bytes.tooLong (b.size + (AJ b c).length * d.size) = false := by
   simp [Bytes.tooLong, sizeLine_eq]; omega
  show wpAny _ _ (if Bytes.tooLong (b.size + (AJ b c).length * d.size) = true then _ else _) _ _ _
  rw [hl, if_neg (by simp)]
  refine wpAny_bind (m := Bytes.Kind.new _ _) ?_
  show wpAny _ _ (mkBytes _) _ _ _
  refine wpAny_mkBytes (j3 (h _ _)) ?_
  have := hz
  rw [sizeLine_eq]
  exact Nat.le_trans this (by decide)

theorem BO (v : Value) : Bytes.bindOptional "bytes.split" "split" ["sep", "maxsplit"] [v] [] = pure [some v, none] := by kernel_rfl
noncomputable def bSplit (b c : BA) : List (Array UInt8) := let p := (Bytes.occurrences b c 0 b.size).take (b.size + 1); if p.isEmpty then [b] else Bytes.between b c.size p
theorem QY {Z : AP} {μ : LA} {R : List Value → Shared → Prop} : ∀ (xs : List (Array UInt8)) (s : Shared), (∀ x ∈ xs, x.size ≤ 10000) → (∀ as k, (∀ h, RVs w Z μ h (xs.map PV.bytes) as) → R as { s with toks := k }) → wpAny (model P w) A (xs.mapM (Bytes.Kind.new .bytes)) R E s
 | [], s, _, h => by rw [List.mapM_nil]; exact wpAny_pure (h [] s.toks fun _ => .nil)
 | x :: xs, s, hz, h => by
  rw [List.mapM_cons]
  refine wpAny_bind (m := Bytes.Kind.new _ _) ?_
  refine wpAny_mkBytes (wpAny_bind ?_) (by rw [sizeLine_eq]; exact Nat.le_trans (hz x (.head _)) (by decide))
  refine QY (Z := Z) (μ := μ) xs _ (fun y hy => hz y (.tail _ hy)) fun as k r => wpAny_pure ?_
  exact h _ k fun h' => .cons .bytes (r h')
theorem QA {Z : AP} {μ : LA} {b c : BA} {t u : Tok} (hc : c.isEmpty = false) (hl : (bSplit b c).length ≤ 10000) (hz : ∀ x ∈ bSplit b c, x.size ≤ 10000)
  (h : ∀ as k, (∀ h, RVs w Z μ h ((bSplit b c).map PV.bytes) as) → Q (.ref s.heap.objs.size) { s with heap := s.heap.push { cls := .type "list", data := .seq as.toArray }, toks := k }) : wpAny (model P w) A («bytes.split» ⟨[.bytes b t, .bytes c u], []⟩) (xi Q) E s := by
 unfold «bytes.split» Bytes.splitM
 refine wpAny_bind (m := Bytes.bindOptional _ _ _ _ _) (wpAny_of_eq (BO _) ?_)
 refine wpAny_bind (wpAny_pure ?_)
 refine wpAny_bind (m := Bytes.payload _) (wpAny_of_eq (a := b) rfl ?_)
 have lk : ∀ {id : String} {x : BA} {t : Tok} {R : Array UInt8 → Shared → Prop} {s : Shared}, R x s → wpAny (model P w) A (Bytes.bytesLike id (.bytes x t)) R E s := fun {id x t R s} h => by
  unfold Bytes.bytesLike
  exact wpAny_bind (ye (wpAny_pure h))
 refine wpAny_bind (lk ?_)
 rw [if_neg (by rw [hc]; simp)]
 show wpAny _ _ (if ((Bytes.occurrences b c 0 b.size).take (b.size + 1)).isEmpty = true then _ else _) _ _ _
 unfold bSplit at h hl hz
 dsimp only at h hl hz
 by_cases q : ((Bytes.occurrences b c 0 b.size).take (b.size + 1)).isEmpty = true
 ·rw [if_pos q] at h ⊢
  refine wpAny_bind (wpAny_rule (wpAny_bind (m := Bytes.Kind.same _ _) ?_))
  unfold Bytes.Kind.same
  rw [if_pos (by decide)]
  refine wpAny_bind (wpAny_typeOf (typeIs_bytes s b t) ?_)
  rw [if_pos (by decide)]
  exact wpAny_pure (wpAny_bind (m := newList _) (wpAny_newList (j3 (h [.bytes b t] s.toks fun _ => .cons .bytes .nil))))
 ·rw [if_neg q] at h hl hz ⊢
  show wpAny _ _ ((Bytes.between b c.size _).mapM (Bytes.Kind.new .bytes) >>= _) _ _ _
  refine wpAny_bind (QY (Z := Z) (μ := μ) _ _ hz fun as k r => wpAny_bind (m := newList _) (wpAny_newList (j3 (h as k r)) ?_))
  have := (r s.heap).length
  rw [List.length_map] at this
  rw [sizeLine_eq, ← this]; exact Nat.le_trans hl (by decide)
end
end
section
noncomputable def ordI (op : CmpOp) (a b : Int) : Option Bool := match op with
 | .Lt => some (decide (a < b)) | .LtE => some (decide (a ≤ b)) | .Gt => some (decide (b < a)) | .GtE => some (decide (b ≤ a))
 | _ => none
def ordV (op : CmpOp) (x y : PV) : Option Bool := x.i?.bind fun a => y.i?.bind fun b => ordI op a b
def inV2 (σ : za) (x y : PV) : Option Bool := match y with
 | .bytes b => (match x with | .bytes c => some (Builtin.Bytes.find? b c 0 b.size).isSome | x => inV σ x (.bytes b))
 | y => inV σ x y
noncomputable def isN : PV → Bool
 | .none => true
 | _ => false
theorem Bq {v : PV} (e : isN v = true) : v = .none := by rcases v <;> first | exact nf e | rfl
def z0 (σ : za) (op : CmpOp) (x y : PV) : Option Bool := match op with
 | .Eq => eqV σ x y
 | .NotEq => (eqV σ x y).bind fun b => some (!b)
 | .Is => bOf (isN y) (isNone x)
 | .IsNot => bOf (isN y) ((isNone x).bind fun b => some (!b))
 | .In => inV2 σ x y
 | .NotIn => (inV2 σ x y).bind fun b => some (!b)
 | op => ordV op x y

section
variable {s s' s₁ : Shared} {Q : KV} {E : KV} {A : Around}

theorem ED {n : Nat} (h : n < 256) : n.toUInt8.toNat = n := by simp [Nat.toUInt8]; omega
theorem u8_any (b : BA) (i : Int) (h0 : 0 ≤ i) (h1 : i < 256) : b.contains i.toNat.toUInt8 = (b.toList.any fun c => Nat.beq c.toNat i.toNat) := by
 rw [Bool.eq_iff_iff, Array.contains_iff_mem, List.any_eq_true]
 have hi : i.toNat < 256 := (Int.toNat_lt h0).mpr h1
 constructor
 ·exact fun h => ⟨_, Array.mem_toList_iff.mpr h, by rw [ED hi]; exact Nat.beq_refl _⟩
 ·rintro ⟨c, hc, e⟩
  rw [← Nat.eq_of_beq_eq_true e, show c.toNat.toUInt8 = c from UInt8.toNat_inj.mp (ED c.toNat_lt)]
  exact Array.mem_toList_iff.mp hc
section
variable {x y : PV} {a c : Value} {b : Bool}
theorem inTup {l : Addr} {its : Array Value} {f : Value → Bool} (g : IsTup s.heap l its) (h : (∀ y ∈ its.toList, EqAt A.in1 s y a (f y)) ∧ its.toList.any f = b) :
  ((∀ k, Q (.bool b) { s with toks := k }) → wpAny (model P w) A (compareOp .In a (.ref l)) Q E s) ∧ ((∀ k, Q (.bool (!b)) { s with toks := k }) → wpAny (model P w) A (compareOp .NotIn a (.ref l)) Q E s) := by
 obtain ⟨h1, h2⟩ := h
 rw [Array.any_toList] at h2
 have h1 : ∀ y ∈ its, EqAt A.in1 s y a (f y) := fun y hy => h1 y (Array.mem_toList_iff.mpr hy)
 exact ⟨fun h => in_tupleAt _ g h1 (by rw [h2]; exact h s.toks), fun h => notIn_tupleAt _ g h1 (by rw [h2]; exact h s.toks)⟩
theorem DX (hu : A.units + 60 < cLine) (S : St w K base Z μ σ s) (ra : RV w Z μ s.heap x a) (rb : RV w Z μ s.heap y c) (e : inV σ x y = some b) :
  ((∀ k, Q (.bool b) { s with toks := k }) → wpAny (model P w) A (compareOp .In a c) Q E s) ∧ ((∀ k, Q (.bool (!b)) { s with toks := k }) → wpAny (model P w) A (compareOp .NotIn a c) Q E s) := by
 have old : inD σ x y = some b → _ := fun e => DY (P := P) (A := A) (Q := Q) (E := E) S ra rb e
 have hu' : A.in1.units + 40 < cLine := by rw [Around.in1_units, Nat.add_assoc]; exact Nat.lt_of_le_of_lt (Nat.add_le_add_left (by decide) _) hu
 rcases y <;> first | exact ⟨fun h => (old e).1 (h _), fun h => (old e).2 (h _)⟩ | skip
 ·rename_i d
  obtain ⟨i, hi, e⟩ := zp e
  obtain ⟨t, rfl⟩ := rb.inv
  obtain ⟨u, rfl⟩ := ra.i hi
  obtain ⟨hc, e⟩ := zQ (c := decide (0 ≤ i) && decide (i < 256)) (o := some (d.toList.any fun c => Nat.beq c.toNat i.toNat)) e
  have h0 := dt (bl hc)
  have h1 := dt (br hc)
  have e := (u8_any d i h0 h1).trans (Option.some.inj e)
  exact ⟨fun h => FH (typeIs_bytes s _ _) FB.slot_bytes_contains FB.entry_bytes_contains (FB.args_bytes_contains_2 _ _) (qP h0 h1 ⟨_, rfl, by rw [e]; exact h s.toks⟩),
   fun h => J1 (typeIs_bytes s _ _) FB.slot_bytes_contains FB.entry_bytes_contains (FB.args_bytes_contains_2 _ _) (qP h0 h1 ⟨_, rfl, by rw [e]; exact h s.toks⟩)⟩
 ·obtain ⟨l, its, n, rfl, g, q⟩ := rb.tupAt
  rcases x <;> first | exact inTup (z8 g) (memP_at hu' ra q e) | skip
  obtain ⟨t, rfl⟩ := ra.inv
  exact inTup (z8 g) (memB_at q e)
theorem Jm (hh : A.handled = none) (hu : A.units + 60 < cLine) (S : St w K base Z μ σ s) (ra : RV w Z μ s.heap x a) (rb : RV w Z μ s.heap y c) (e : inV2 σ x y = some b) :
  ((∀ h' k, yz s.heap h' → Q (.bool b) { s with heap := h', toks := k }) → wpAny (model P w) A (compareOp .In a c) Q E s) ∧ ((∀ h' k, yz s.heap h' → Q (.bool (!b)) { s with heap := h', toks := k }) → wpAny (model P w) A (compareOp .NotIn a c) Q E s) := by
 have old : inV σ x y = some b → _ := fun e =>
  have o := DX (P := P) (Q := Q) (E := E) hu S ra rb e
  And.intro (fun h : ∀ h' k, yz s.heap h' → Q (.bool b) { s with heap := h', toks := k } => o.1 fun k => h _ k (yz.refl _)) (fun h : ∀ h' k, yz s.heap h' → Q (.bool (!b)) { s with heap := h', toks := k } => o.2 fun k => h _ k (yz.refl _))
 rcases y <;> first | exact old e | skip
 rcases x <;> first | exact old e | skip
 obtain ⟨t, rfl⟩ := ra.inv
 obtain ⟨u, rfl⟩ := rb.inv
 rw [← Option.some.inj e]
 exact ⟨fun h => FH (typeIs_bytes s _ _) FB.slot_bytes_contains FB.entry_bytes_contains (FB.args_bytes_contains_2 _ _) (xD (A := A.in1) hh fun h' k g => ⟨_, rfl, h h' k g⟩),
  fun h => J1 (typeIs_bytes s _ _) FB.slot_bytes_contains FB.entry_bytes_contains (FB.args_bytes_contains_2 _ _) (xD (A := A.in1) hh fun h' k g => ⟨_, rfl, h h' k g⟩)⟩
theorem Ba {op : CmpOp} (ra : RV w Z μ s.heap x a) (rb : RV w Z μ s.heap y c) (e : ordV op x y = some b) (h : Q (.bool b) s) : wpAny (model P w) A (compareOp op a c) Q E s := by
 obtain ⟨i, hi, e⟩ := zp e
 obtain ⟨j, hj, e⟩ := zp e
 obtain ⟨t, rfl⟩ := ra.i hi
 obtain ⟨u, rfl⟩ := rb.i hj
 rcases op <;> first | exact no e | rw [← Option.some.inj e] at h
 ·exact lt_int h
 ·exact le_int h
 ·exact gt_int h
 ·exact ge_int h
theorem Ju (hh : A.handled = none) (hu : A.units + 60 < cLine) (S : St w K base Z μ σ s) {op : CmpOp} (ra : RV w Z μ s.heap x a) (rb : RV w Z μ s.heap y c) (e : z0 σ op x y = some b)
  (h : ∀ h' k, yz s.heap h' → Q (.bool b) { s with heap := h', toks := k }) : wpAny (model P w) A (compareOp op a c) Q E s := by
 have h0 : Q (.bool b) s := h s.heap s.toks (yz.refl _)
 have hu' : A.units + 40 < cLine := Nat.lt_of_le_of_lt (Nat.add_le_add_left (by decide) _) hu
 rcases op <;> first | exact Ba ra rb e h0 | skip
 ·exact (Xc hu' S ra rb e).1 h0
 ·obtain ⟨d, e1, rfl⟩ := zL e
  exact (Xc hu' S ra rb e1).2 h0
 ·obtain ⟨hy, e⟩ := zQ e
  rw [Bq hy] at rb
  obtain ⟨h1, h2⟩ := qA ra e
  rw [show c = _ from rb.inv]
  exact wpAny_is_plain h1 (by rw [h2]; exact h0)
 ·obtain ⟨hy, e⟩ := zQ e
  obtain ⟨d, e1, rfl⟩ := zL e
  rw [Bq hy] at rb
  obtain ⟨h1, h2⟩ := qA ra e1
  rw [show c = _ from rb.inv]
  exact wpAny_isNot_plain h1 (by rw [h2]; exact h0)
 ·exact (Jm hh hu S ra rb e).1 h
 ·obtain ⟨d, e1, rfl⟩ := zL e
  exact (Jm hh hu S ra rb e1).2 h
end
end
end
section
def idx (n : Nat) (k : Int) : Option Nat := match decide (0 ≤ k) with
 | true => bOf (decide (k < n) && decide (k < 1099511627776)) (some k.toNat)
 | false => bOf (decide (-(n : Int) ≤ k) && decide (-1099511627776 ≤ k)) (some (k + n).toNat)
def getD (σ : za) (x i : PV) : Option PV := (B1 σ x).bind fun es => bOf (keysOf i es) (Am es i)
def D0 (vs : List PV) (i : PV) : Option PV := i.i?.bind fun k => (idx vs.length k).bind fun j => vs[j]?
def idxB (b : BA) (i : PV) : Option PV := i.i?.bind fun k => bOf (decide (0 ≤ k) && decide (k < (b.toList.length : Int)) && decide (b.toList.length ≤ 1099511627776)) (some (.int (b.toList.getD k.toNat 0).toNat))
def getO (σ : za) (x i : PV) : Option PV := match ym σ x with
 | some vs => D0 vs i
 | none => getD σ x i
def yI (σ : za) (x i : PV) : Option PV := match x with
 | .tup vs => D0 vs i
 | .bytes b => idxB b i
 | x => getO σ x i

section
variable {s s' s₁ : Shared} {Q : KV} {E : KV} {A : Around}

theorem qB {n j : Nat} {k : Int} (h : idx n k = some j) : -(2 ^ 63) ≤ k ∧ k < 2 ^ 63 ∧ seqIndex? k n = some j ∧ ((0 ≤ k ∧ j = k.toNat) ∨ (k < 0 ∧ -(n : Int) ≤ k ∧ j = (k + n).toNat)) := by
 unfold idx at h
 by_cases h0 : 0 ≤ k
 ·rw [decide_eq_true h0] at h
  obtain ⟨h1, h⟩ := zQ h
  have h2 := dt (bl h1)
  rw [← Option.some.inj h]
  refine ⟨Int.le_trans (by decide) h0, Int.lt_trans (dt (br h1)) (by decide), ?_, .inl ⟨h0, rfl⟩⟩
  simp [seqIndex?, Int.not_lt.mpr h0, h0, h2]
 ·rw [decide_eq_false h0] at h
  obtain ⟨h1, h⟩ := zQ h
  have h2 := dt (bl h1)
  have h3 := Int.not_le.mp h0
  rw [← Option.some.inj h]
  refine ⟨Int.le_trans (by decide) (dt (br h1)), Int.lt_trans h3 (by decide), ?_, .inr ⟨h3, h2, rfl⟩⟩
  have h4 : 0 ≤ k + (n : Int) := by omega
  have h5 : k + (n : Int) < n := by omega
  simp [seqIndex?, h3, h4, h5]

section
variable {x i v : PV} {a c : Value}
theorem CQ {vs : List PV} {its : Array Value} (q : RVs w Z μ s.heap vs its.toList) (rc : RV w Z μ s.heap i c) (e : D0 vs i = some v) : ∃ k t j b, c = .int k t ∧ idx its.size k = some j ∧ its[j]? = some b ∧ RV w Z μ s.heap v b := by
 obtain ⟨k, hk, e⟩ := zp e
 obtain ⟨j, hj, e⟩ := zp e
 obtain ⟨t, hc⟩ := rc.i hk
 obtain ⟨b, hb, rb⟩ := q.get e
 exact ⟨k, t, j, b, hc, by rw [q.size]; exact hj, by rw [← Array.getElem?_toList]; exact hb, rb⟩
def Xn (P : Program) (w : World) (A : Around) (Q : KV) (E : KV) (a c : Value) (s : Shared) : Prop :=
 ∃ T id, s.TypeIs a T ∧ typeLookup (.type T) "__getitem__" = pure (some (.builtin id)) ∧ wpAny (model P w) A (getItem a c) Q E s
theorem Bu (S : St w K base Z μ σ s) (ra : RV w Z μ s.heap x a) (rc : RV w Z μ s.heap i c) (e : yI σ x i = some v)
  (h : ∀ b k, RV w Z μ s.heap v b → Q b { s with toks := k }) : Xn P w A Q E a c s := by
 have other : getO σ x i = some v → Xn P w A Q E a c s := fun e => by
  unfold getO at e
  cases hv : ym σ x with
  | some vs =>
   rw [hv] at e
   obtain ⟨l, its, n, rfl, g, q⟩ := z4 S ra hv
   obtain ⟨k, t, j, b, rfl, hj, hb, rb⟩ := CQ q rc e
   obtain ⟨h1, h2, h3, h4⟩ := qB hj
   refine ⟨_, _, (zE g).typeIs, slot_list_getitem.lookup, ?_⟩
   rcases h4 with ⟨h5, rfl⟩ | ⟨h5, h6, rfl⟩
   ·exact wpAny_getItem_list (zE g) h5 h2 hb (h b s.toks rb)
   ·exact wpAny_getItem_list_neg (zE g) h5 h6 h1 hb (h b s.toks rb)
  | none =>
   rw [hv] at e
   obtain ⟨es, hv, e⟩ := zp e
   obtain ⟨hc, e⟩ := zQ e
   obtain ⟨d, ds, n, rfl, g, q, hsm⟩ := YR S ra hv
   refine jN (P := P) (w := w) (bl hc) fun {T} _ {knd} kk => ?_
   obtain ⟨k, hk⟩ := kk.is i rfl
   obtain ⟨en, he, rv⟩ := (REs.find kk hk (br hc) q).2 v e
   exact ⟨_, _, ⟨_, g, rfl⟩, slot_dict_getitem.lookup, wpAny_getItem_of (knd := knd) (kk.key hk rc) (Jh g (REs.keysOf kk (br hc) q)) (by rw [Yb, he]; rfl) (h _ _ rv)⟩
 rcases x <;> first | exact other e | skip
 ·rename_i b
  obtain ⟨k, hk, e⟩ := zp e
  obtain ⟨hc, e⟩ := zQ e
  obtain ⟨t, rfl⟩ := ra.inv
  obtain ⟨u, rfl⟩ := rc.i hk
  rw [← Option.some.inj e] at h
  obtain ⟨l⟩ := b
  exact ⟨_, _, typeIs_bytes s _ _, FB.slot_bytes_getitem.lookup, PySem.W.getItem_bytes (dt (br hc)) (dt (bl (bl hc))) (dt (br (bl hc))) (h _ _ .int)⟩
 ·obtain ⟨l, its, n, rfl, g, q⟩ := ra.tupAt
  obtain ⟨k, t, j, b, rfl, hj, hb, rb⟩ := CQ q rc e
  obtain ⟨h1, h2, h3, _⟩ := qB hj
  exact ⟨_, _, (z8 g).typeIs, slot_tuple_getitem.lookup, getItem_tuple (z8 g) h1 h2 h3 hb (h b s.toks rb)⟩
end

noncomputable def Cu (e : Expr) : Bool := !Nat.beq e.ctorIdx 26
theorem qp {e : Expr} (h : Cu e = true) (a c : Value) : subscripted e false a c = operate [a, c] (getItem a c) := by
 rcases e <;> first | rfl | exact nf h
theorem EI {value slice : Expr} {o i : Value} {ops : List Value} {T id : String} (hT : s.TypeIs o T) (hl : typeLookup (.type T) "__getitem__" = pure (some (.builtin id)))
  (h : wpAny (model P w) A (getItem o i) Q E s) (hs : subscripted slice false o i = operate ops (getItem o i)) : wpAny (model P w) A (subscriptTail value slice o i) Q E s := by
 unfold subscriptTail
 refine wpAny_bind ?_
 rw [getitemInPython_of_ne hT.not_modules]
 refine wpAny_bind (wpAny_specialOf hT hl ?_)
 have fin : wpAny (model P w) A (subscripted slice false o i) (fun r s3 => wpAny (model P w) A (letTemporaryGo value o r >>= fun _ => pure r) Q E s3) E s := by
  rw [hs]
  exact wpAny_operating (wpAny_mono h (fun r s3 h₃ => wpAny_bind (wpAny_letTemporaryGo (wpAny_pure h₃))) fun _ _ x => x)
 first
  | exact wpAny_pure (wpAny_bind fin)
  | exact wpAny_bind (wpAny_pure (wpAny_bind fin))
  | exact wpAny_bind fin
end
end
section
noncomputable def yt {α : Type} (l : List α) (lo hi : Option Int) : List α := (l.drop (lo.elim 0 (clipAt l.length))).take (hi.elim l.length (clipAt l.length) - lo.elim 0 (clipAt l.length))
noncomputable def QR : PV → Option (Option Int)
 | .none => some none
 | .int i => some (some i)
 | _ => none
def cutO (σ : za) (x : PV) (lo hi : Option Int) : Option PV := (ym σ x).bind fun vs => bOf (Nat.ble vs.length 16777216) (some (.list (yt vs lo hi)))
def qM (σ : za) (x : PV) (lo hi : Option Int) : Option PV := match x with
 | .tup vs => bOf (Nat.ble vs.length 16777216) (some (.tup (yt vs lo hi)))
 | .bytes b => bOf (Nat.ble b.toList.length 16777216) (some (.bytes (yt b.toList lo hi).toArray))
 | x => cutO σ x lo hi
def revV (σ : za) (x : PV) : Option PV := (ym σ x).bind fun vs => bOf vs.isEmpty (some (.list []))

section
variable {s s' s₁ : Shared} {Q : KV} {E : KV} {A : Around}

theorem BW (lo hi : Option Int) (n : Nat) : Builtin.Slice.sliceAdjust lo hi 1 (n : Int) = (((lo.elim 0 (clipAt n) : Nat) : Int), ((hi.elim n (clipAt n) : Nat) : Int)) := by
 have c : ∀ v : Int, (if v < 0 then max (v + n) 0 else min v (n : Int)) = ((clipAt n v : Nat) : Int) := fun v => by
  rw [clipAt_cast]
  by_cases h : v < 0
  ·have := Int.add_le_add_right (Int.le_of_lt h) (n : Int)
   rw [Int.zero_add] at this
   rw [if_pos h, if_pos h, Int.min_eq_left this, Int.max_comm]
  ·rw [if_neg h, if_neg h, Int.max_eq_right (Int.le_min.mpr ⟨Int.not_lt.mp h, Int.natCast_nonneg n⟩)]
 unfold Builtin.Slice.sliceAdjust
 have h1 : ¬ ((1 : Int) < 0) := by decide
 simp only [h1, if_false]
 cases lo <;> cases hi <;> simp only [Option.elim, c] <;> rfl
theorem A7 (a b : Nat) : Builtin.Slice.slicePlaces (a : Int) (b : Int) 1 = b - a := by
 unfold Builtin.Slice.slicePlaces
 rw [if_pos (by decide)]
 by_cases h : (a : Int) < (b : Int)
 ·rw [if_pos h, Int.ediv_one, Int.sub_add_cancel, Int.toNat_sub]
 ·rw [if_neg h, Nat.sub_eq_zero_of_le (Int.ofNat_le.mp (Int.not_lt.mp h))]; rfl
theorem E4 (xs : Array Value) (a n : Nat) : ((List.range n).filterMap fun (k : Nat) => xs[((a : Int) + (k : Int) * 1).toNat]?).toArray = ((xs.toList.drop a).take n).toArray := by
 have e : (fun (k : Nat) => xs[((a : Int) + (k : Int) * 1).toNat]?) = fun k => xs[a + k]? := by
  funext k
  rw [Int.mul_one]; rfl
 rw [e]
 have := pick_run xs a n
 rw [List.filterMap_map] at this
 have e2 : ((fun x => xs[x]?) ∘ fun x => a + x) = fun k => xs[a + k]? := rfl
 rw [e2] at this
 rw [this]
theorem QQ {v : Value} {lo : Option Int} (h : IsPart v lo) {R : Option Int → Shared → Prop} (q : R lo s) : wpAny (model P w) A (Builtin.Slice.slicePartIndex v) R E s := by
 cases h with
 | none => exact slicePart_none q
 | int i t => exact slicePart_int q
theorem AL {sl : Addr} {l u : Value} {lo hi : Option Int} {n : Nat} {R : Int × Int × Nat → Shared → Prop} (hs : s.heap.IsSliceOf sl l u .none) (hl : IsPart l lo) (hu : IsPart u hi)
  (h : R (((lo.elim 0 (clipAt n) : Nat) : Int), 1, hi.elim n (clipAt n) - lo.elim 0 (clipAt n)) s) : wpAny (model P w) A (Builtin.Slice.sliceApplied (.ref sl) (pure (n : Int))) R E s := by
 obtain ⟨os, hos, hcs, hds⟩ := id hs
 unfold Builtin.Slice.sliceApplied Builtin.Slice.sliceFields
 refine wpAny_bind (wpAny_bind (wpAny_field hos hds (x := l) rfl (wpAny_bind (wpAny_field hos hds (x := u) rfl (wpAny_bind (wpAny_field hos hds (x := .none) rfl (wpAny_pure ?_)))))))
 refine wpAny_bind (slicePart_none ?_)
 show wpAny _ _ (if ((1 : Int) == 0) = true then _ else _) _ _ s
 rw [if_neg (by decide)]
 refine wpAny_bind (QQ hl (wpAny_bind (QQ hu (wpAny_bind (wpAny_pure ?_)))))
 show wpAny _ _ (match Builtin.Slice.sliceAdjust lo hi 1 (n : Int) with | (lo, hi) => pure (lo, (1 : Int), Builtin.Slice.slicePlaces lo hi 1)) _ _ s
 rw [BW]
 show wpAny _ _ (pure (_, (1 : Int), Builtin.Slice.slicePlaces _ _ 1)) _ _ s
 rw [A7]
 exact wpAny_pure h
theorem Gb {t sl : Addr} {items : Array Value} {l u : Value} {lo hi : Option Int} (ht : IsTup s.heap t items) (hs : s.heap.IsSliceOf sl l u .none) (hl : IsPart l lo) (hu : IsPart u hi) (hsz : items.size ≤ sizeLine)
  (h1 : yt items.toList lo hi = items.toList → Q (.ref t) s) (h2 : Q (.ref s.heap.objs.size) { s with heap := s.heap.push { cls := .type "tuple", data := .seq (yt items.toList lo hi).toArray } }) :
  wpAny (model P w) A (getItem (.ref t) (.ref sl)) Q E s := by
 have hz : sizeOk (.seq (yt items.toList lo hi).toArray) := by
  show (yt items.toList lo hi).toArray.size ≤ sizeLine
  rw [List.size_toArray, yt, List.length_take, List.length_drop, Array.length_toList]
  exact Nat.le_trans (Nat.le_trans (Nat.min_le_right _ _) (Nat.sub_le _ _)) hsz
 obtain ⟨os, hos, hcs, hds⟩ := id hs
 have hTs : s.TypeIs (.ref sl) "slice" := ⟨os, hos, hcs⟩
 unfold getItem
 try with_reducible refine wpAny_holding ?_
 first | refine wpAny_bind (wpAny_pure ?_) | skip
 refine wpAny_bind (wpAny_sequenceKey ht.typeIs (by decide) ?_)
 refine wpAny_bind (wpAny_callSpecial?_slot (name := Str.ofString "__getitem__") ht.typeIs slot_tuple_getitem
  (wpAny_call_entry slot_tuple_getitem ht.typeIs entry_tuple_getitem ?_ (args_tuple_getitem _ _)))
 show wpAny _ _ (Builtin.Tuple.tupleItemsOf (.ref t) >>= _) _ _ s
 refine wpAny_bind (tupleItemsOf_ ht ?_)
 refine wpAny_bind (wpAny_typeOf hTs ?_)
 rw [if_pos (by decide)]
 refine wpAny_bind (AL hs hl hu ?_)
 have e : yt items.toList lo hi = (items.toList.drop (lo.elim 0 (clipAt items.size))).take (hi.elim items.size (clipAt items.size) - lo.elim 0 (clipAt items.size)) := by unfold yt; rw [Array.length_toList]
 generalize hi.elim items.size (clipAt items.size) = hiN at e ⊢
 generalize lo.elim 0 (clipAt items.size) = loN at e ⊢
 show wpAny _ _ (if ((loN : Int) == 0 && (1 : Int) == 1 && (hiN - loN) == items.size) = true then _ else _) _ _ s
 by_cases q : ((loN : Int) == 0 && (1 : Int) == 1 && (hiN - loN) == items.size) = true
 ·rw [if_pos q]
  simp only [Bool.and_eq_true, beq_iff_eq] at q
  have q0 : loN = 0 := Int.ofNat_eq_zero.mp q.1.1
  have q2 : hiN - loN = items.toList.length := by rw [q.2, Array.length_toList]
  have hq := h1 (by rw [e, q2, q0, List.drop_zero, List.take_length])
  refine wpAny_bind (m := Builtin.Tuple.tupleIsExact _) ?_
  unfold Builtin.Tuple.tupleIsExact
  refine wpAny_bind (wpAny_typeOf ht.typeIs (wpAny_pure ?_))
  rw [if_pos (by decide)]
  exact wpAny_bind (wpAny_rule (wpAny_pure ⟨_, rfl, wpAny_pure hq⟩))
 ·rw [if_neg q, E4, ← e]
  first
   | exact wpAny_bind (m := Builtin.Tuple.tupleExact _) (wpAny_newObj_type (wpAny_pure ⟨_, rfl, wpAny_pure h2⟩) hz)
   | exact wpAny_bind (m := Builtin.Tuple.tupleExact _) (wpAny_newObj_type (wpAny_bind (wpAny_pure (wpAny_pure ⟨_, rfl, wpAny_pure h2⟩))) hz)
   | exact wpAny_bind (wpAny_bind (m := Builtin.Tuple.tupleExact _) (wpAny_newObj_type (wpAny_pure (wpAny_pure ⟨_, rfl, wpAny_pure h2⟩)) hz))
   | exact wpAny_bind (wpAny_bind (m := Builtin.Tuple.tupleExact _) (wpAny_newObj_type (wpAny_pure ⟨_, rfl, wpAny_pure h2⟩) hz))

theorem RVs.cut {h : Heap} {vs : List PV} {as : List Value} (r : RVs w Z μ h vs as) (lo hi : Option Int) : RVs w Z μ h (yt vs lo hi) (yt as lo hi) := by
 unfold yt
 rw [r.length]
 exact (r.drop _).take _
theorem Ee {α : Type} (l : List α) (lo hi : Option Int) : (yt l lo hi).length ≤ l.length := by
 unfold yt
 rw [List.length_take, List.length_drop]; exact Nat.le_trans (Nat.min_le_right _ _) (Nat.sub_le _ _)
theorem Y7 (b : BA) (lo hi : Option Int) : KBy.picked b lo hi = (yt b.toList lo hi).toArray := by
 rw [KBc.picked_eq]; unfold yt; rw [Array.length_toList]
theorem E5 (items : Array Value) (lo hi : Option Int) : slicePick items lo hi none = (yt items.toList lo hi).toArray := by
 rw [slicePick_plain]; unfold yt; rw [Array.length_toList]
theorem Cp {x : PV} {a : Value} {lo : Option Int} {h : Heap} (r : RV w Z μ h x a) (e : QR x = some lo) : IsPart a lo := by
 rcases x <;> first | exact no e | rw [← Option.some.inj e]
 ·rw [show a = _ from r.inv]; exact .none
 ·obtain ⟨t, rfl⟩ := r.inv; exact .int _ _

section
variable {R : Type} (an : Ans R) {C : PV → za → R} {x y z v : PV} {a l u : Value} {lo hi : Option Int}
theorem RV.tupOf {h : Heap} {vs ws : List PV} {t : Addr} {its : Array Value} {n : Nat} (r : RV w Z μ h (.tup vs) (.ref t)) (g : h.get? t = some (qb its n)) (q : RVs w Z μ h ws its.toList) : RV w Z μ h (.tup ws) (.ref t) := by
 obtain ⟨b, its', n', z, g', _, f⟩ := r.inv
 cases f
 exact .tup z g q
theorem cut_any (hk : Low K base) {h1 : Heap} {sl : Addr} (S1 : St w K base Z μ σ { s with heap := h1 }) (hs : h1.IsSliceOf sl l u .none) (ra : RV w Z μ h1 x a) (pl : IsPart l lo) (pu : IsPart u hi)
  (e : qM σ x lo hi = some v) (c : an.I (C v σ)) (H1 : Ret w K base Z μ { s with heap := h1 } (fun v σ => an.I (C v σ)) Q) : Xn P w A Q E a (.ref sl) { s with heap := h1 } := by
 have other : cutO σ x lo hi = some v → Xn P w A Q E a (.ref sl) { s with heap := h1 } := fun e => by
  obtain ⟨vs, hv, e⟩ := zp e
  obtain ⟨hz, e⟩ := zQ e
  obtain ⟨t, its, n, rfl, g, q⟩ := z4 S1 ra hv
  rw [← Option.some.inj e] at c
  refine ⟨_, _, (zE g).typeIs, slot_list_getitem.lookup, wpAny_getItem_list_slice (zE g) hs pl pu .none (fun e => nomatch e) ?_ (by rw [sizeLine_eq, q.size]; exact zu hz)⟩
  rw [E5]
  exact H1.list hk S1 (q.cut lo hi) c
 rcases x <;> first | exact other e | skip
 ·obtain ⟨hz, e⟩ := zQ e
  obtain ⟨t, rfl⟩ := ra.inv
  rw [← Option.some.inj e] at c
  refine ⟨_, _, typeIs_bytes _ _ _, FB.slot_bytes_getitem.lookup, getItem_meets (typeIs_bytes _ _ _) (by decide) FB.slot_bytes_getitem FB.entry_bytes_getitem (FB.args_bytes_getitem_2 _ _) (KBc.meets_slice2 _ _ _ pl pu) ⟨hs, ?_, fun t' k => ?_⟩⟩
  ·rw [Y7, List.size_toArray, sizeLine_eq]; exact Nat.le_trans (Ee _ _ _) (zu hz)
  ·rw [Y7]
   exact H1.tok S1 c .bytes
 ·obtain ⟨hz, e⟩ := zQ e
  obtain ⟨t, its, n, rfl, g, q⟩ := ra.tupAt
  rw [← Option.some.inj e] at c
  refine ⟨_, _, (z8 g).typeIs, slot_tuple_getitem.lookup, Gb (z8 g) hs pl pu (by rw [sizeLine_eq, q.size]; exact zu hz) (fun e => ?_) (H1.tup hk S1 (q.cut lo hi) c)⟩
  exact H1.here S1 c (ra.tupOf g (e ▸ q.cut lo hi))
theorem cut_at (hk : Low K base) (S : St w K base Z μ σ s) (ra : RV w Z μ s.heap x a) (rl : RV w Z μ s.heap y l) (ru : RV w Z μ s.heap z u) (pl : QR y = some lo) (pu : QR z = some hi)
  (e : qM σ x lo hi = some v) (c : an.I (C v σ)) (H : Ret w K base Z μ s (fun v σ => an.I (C v σ)) Q) :
  Xn P w A Q E a (.ref s.heap.objs.size) { s with heap := s.heap.push { cls := .type "slice", data := .fields #[l, u, .none] } } := by
 obtain ⟨S1, X1⟩ := S.grow (k := s.toks) hk (yz.push s.heap { cls := .type "slice", data := .fields #[l, u, .none] })
 exact cut_any an hk S1 (Heap.IsSliceOf.new s.heap l u .none) (ra.later S (X1 _)) (Cp rl pl) (Cp ru pu) e c (H.later (X1 NoW))
theorem rev_at (hk : Low K base) (S : St w K base Z μ σ s) {t : Tok} (ra : RV w Z μ s.heap x a)
  (e : revV σ x = some v) (c : an.I (C v σ)) (H : Ret w K base Z μ s (fun v σ => an.I (C v σ)) Q) :
  Xn P w A Q E a (.ref s.heap.objs.size) { s with heap := s.heap.push { cls := .type "slice", data := .fields #[.none, .none, .int (-1) t] } } := by
 obtain ⟨S1, X1⟩ := S.grow (k := s.toks) hk (yz.push s.heap { cls := .type "slice", data := .fields #[.none, .none, .int (-1) t] })
 have H1 := H.later (X1 NoW)
 obtain ⟨vs, hv, e⟩ := zp e
 obtain ⟨he, e⟩ := zQ e
 obtain ⟨b, its, n, rfl, g, q⟩ := z4 S1 (ra.later S (X1 _)) hv
 rw [← Option.some.inj e] at c
 rw [List.isEmpty_iff.mp he] at q
 rw [show its = #[] from Array.toList_inj.mp q.nil_of] at g
 exact ⟨_, _, (zE g).typeIs, slot_list_getitem.lookup, wpAny_getItem_list_slice (zE g) (Heap.IsSliceOf.new s.heap .none .none (.int (-1) t)) .none .none (.int _ _) (fun e => nomatch e) (H1.list hk S1 .nil c) (Nat.zero_le _)⟩
end
end
end
section
structure FnI where
 params : List Str
 names : List (Str × NameKind)
 dflt : Option PV
 body : List Stmt

def GV (w : World) (K : Heap) (a : Value) (v : PV) : Prop := ∀ (Z : AP) (μ : LA) (h : Heap), KIn K h → (∀ a o, K.get? a = some o → a ≠ sysModules → Z a) → RV w Z μ h v a

structure FnIs (w : World) (K : Heap) (a : Addr) (fi : FnI) (o : Obj) (fd : FuncData) : Prop where
 ho : K.get? a = some o
 hd : o.data = .func fd
 body : fd.body = .stmts fi.body
 clo : fd.closure = []
 code : K.CodeRec fd.code fd.qualname
 co : fd.scope.isCoroutine = false
 gen : fd.scope.isGenerator = false
 kd : fd.scope.kind = .function
 nm : fd.scope.names = fi.names
 gl : fd.globals = mainGlobals
 bl : fd.builtins = builtinsNs
 full : ∀ (s : Shared), KIn K s.heap → ∀ as : List Value, as.length = fi.params.length → BindsTo s fd ⟨as, []⟩ (fi.params.zip as)
 dfl : ∀ v, fi.dflt = some v → ∃ d, GV w K d v ∧ ∀ (s : Shared), KIn K s.heap → ∀ as : List Value, as.length + 1 = fi.params.length → BindsTo s fd ⟨as, []⟩ (fi.params.zip (as ++ [d]))
structure YA (w : World) (K : Heap) (a : Addr) (fi : FnI) : Prop where
 dbg : lk fi.names "__debug__" = none
 par : ∀ x ∈ fi.params, fi.names.lookup x = some .local ∨ fi.names.lookup x = some .cell
 is : ∃ o fd, FnIs w K a fi o fd

def Jw (fi : FnI) (args : List PV) : Option zc := match Nat.beq args.length fi.params.length with
 | true => some (fi.params.zip args).reverse
 | false => fi.dflt.bind fun v => bOf (Nat.beq (args.length + 1) fi.params.length) (some (fi.params.zip (args ++ [v])).reverse)

section
variable {s s' s₁ : Shared} {Q : KV} {E : KV} {A : Around}

theorem x5 {α : Type} (l r : List (Str × α)) (y : Str) : (l ++ r).lookup y = match l.lookup y with | some v => some v | none => r.lookup y := by
 induction l with
 | nil => rfl
 | cons e l ih =>
  rw [List.cons_append, List.lookup_cons, List.lookup_cons, ih]
  cases y == e.1 <;> rfl
theorem AD (k : Str → Option NameKind) : ∀ (binds : List (Str × Value)) (m : Str → Option Value) (y : Str), k y = some .local → bindL k binds m y = match binds.reverse.lookup y with | some v => some v | none => m y
 | [], _, _, _ => rfl
 | (n, v) :: r, m, y, hy => by
  unfold bindL
  rw [AD k r _ y hy, List.reverse_cons, x5]
  cases r.reverse.lookup y with
  | some u => rfl
  | none =>
   simp only [List.lookup_cons, List.lookup_nil]
   by_cases e : y = n
   ·subst e; rw [if_pos hy]; simp
   ·have : (y == n) = false := by simpa using e
    rw [this]
    by_cases hn : k n = some .local
    ·rw [if_pos hn]; simp [e]
    ·rw [if_neg hn]
theorem AE (k : Str → Option NameKind) : ∀ (binds : List (Str × Value)) (m : Str → Option Value) (y : Str), k y ≠ some .local → bindC k binds m y = match binds.reverse.lookup y with | some v => some v | none => m y
 | [], _, _, _ => rfl
 | (n, v) :: r, m, y, hy => by
  unfold bindC
  rw [AE k r _ y hy, List.reverse_cons, x5]
  cases r.reverse.lookup y with
  | some u => rfl
  | none =>
   simp only [List.lookup_cons, List.lookup_nil]
   by_cases e : y = n
   ·subst e; rw [if_neg hy]; simp
   ·have : (y == n) = false := by simpa using e
    rw [this]
    by_cases hn : k n = some .local
    ·rw [if_pos hn]
    ·rw [if_neg hn]; simp [e]
def RN (w : World) (Z : AP) (μ : LA) (h : Heap) : List (Str × PV) → List (Str × Value) → Prop
 | [], r => r = []
 | e :: l, r => ∃ a q, RV w Z μ h e.2 a ∧ RN w Z μ h l q ∧ r = (e.1, a) :: q
theorem RN.zip {h : Heap} (xs : List Str) {vs : List PV} : ∀ {as : List Value}, RVs w Z μ h vs as → RN w Z μ h (xs.zip vs) (xs.zip as) := by
 induction xs generalizing vs with
 | nil => exact fun _ => rfl
 | cons x xs ih =>
  intro as r
  cases vs with
  | nil => rw [r.nil_of]; rfl
  | cons v vs => obtain ⟨a, as, r1, q, rfl⟩ := r.inv; exact ⟨a, _, r1, ih q, rfl⟩
theorem RN.append {h : Heap} {l l' : List (Str × PV)} {r' : List (Str × Value)} : ∀ {r : List (Str × Value)}, RN w Z μ h l r → RN w Z μ h l' r' → RN w Z μ h (l ++ l') (r ++ r') := by
 induction l with
 | nil => intro r p q; rw [show r = [] from p]; exact q
 | cons e l ih => intro r p q; obtain ⟨a, r, v, p, rfl⟩ := p; exact ⟨a, _, v, ih p q, rfl⟩
theorem RN.reverse {h : Heap} {l : List (Str × PV)} : ∀ {r : List (Str × Value)}, RN w Z μ h l r → RN w Z μ h l.reverse r.reverse := by
 induction l with
 | nil => intro r p; rw [show r = [] from p]; rfl
 | cons e l ih =>
  intro r p
  obtain ⟨a, r, v, p, rfl⟩ := p
  rw [List.reverse_cons, List.reverse_cons]
  exact (ih p).append ⟨a, [], v, rfl, rfl⟩
theorem RN.lookup {h : Heap} {l : List (Str × PV)} {x : Str} {v : PV} : ∀ {r : List (Str × Value)}, RN w Z μ h l r → lk l x = some v → ∃ a, r.lookup x = some a ∧ RV w Z μ h v a := by
 rw [jf]
 induction l with
 | nil => exact fun _ e => no e
 | cons e l ih =>
  intro r p q
  obtain ⟨a, r, u, p, rfl⟩ := p
  rw [List.lookup_cons] at q ⊢
  cases hx : x == e.1 with
  | true => rw [hx] at q; exact ⟨a, rfl, Option.some.inj q ▸ u⟩
  | false => rw [hx] at q; exact ih p q

theorem jG : ∀ (names : List (Str × NameKind)) (n : Nat) (acc : List (Str × Addr)) (x : Str), ((acc.lookup x).isSome = true ∨ names.lookup x = some .cell) → ((cellsFrom n names acc).lookup x).isSome = true
 | [], n, acc, x, h => by
  rcases h with h | h
  ·exact h
  ·cases h
 | (y, k) :: r, n, acc, x, h => by
  unfold cellsFrom
  by_cases hk : (k == .cell) = true
  ·rw [if_pos hk]
   refine jG r _ _ x ?_
   rw [List.lookup_cons] at h ⊢
   cases hx : x == y with
   | true => exact .inl rfl
   | false => rw [hx] at h; exact h
  ·rw [if_neg hk]
   refine jG r _ _ x ?_
   rcases h with h | h
   ·exact .inl h
   ·rw [List.lookup_cons] at h
    cases hx : x == y with
    | true => rw [hx] at h; cases h; exact absurd rfl hk
    | false => rw [hx] at h; exact .inr h

theorem St.fresh (S : St w K base Z μ σ s) {b : Addr} (h : s.heap.get? b = none) : b ∉ μ ∧ ¬ Z b ∧ ¬ base b :=
 ⟨fun q => by obtain ⟨o, e⟩ := S.hasM q; exact zn e h, fun q => by obtain ⟨o, e⟩ := (S.zok b q).1; exact zn e h, fun q => by obtain ⟨o, e⟩ := S.big b q; exact zn e h⟩

theorem Gx {a : Addr} {fi : FnI} {o : Obj} {fd : FuncData} (I : FnIs w K a fi o fd) {args : List PV} {as : List Value} {ρ : zc} (S : St w K base Z μ σ s) (ras : RVs w Z μ s.heap args as) (hb : Jw fi args = some ρ) :
  ∃ vs bs, ρ = (fi.params.zip vs).reverse ∧ BindsTo s fd ⟨as, []⟩ (fi.params.zip bs) ∧ RVs w Z μ s.heap vs bs := by
 unfold Jw at hb
 cases he : Nat.beq args.length fi.params.length with
 | true =>
  rw [he] at hb
  exact ⟨args, as, (Option.some.inj hb).symm, I.full s S.kin as (by rw [← ras.length]; exact Nat.eq_of_beq_eq_true he), ras⟩
 | false =>
  rw [he] at hb
  obtain ⟨v, hv, hb⟩ := zp hb
  obtain ⟨he, hb⟩ := zQ hb
  obtain ⟨d, gd, hd⟩ := I.dfl v hv
  exact ⟨args ++ [v], as ++ [d], (Option.some.inj hb).symm, hd s S.kin as (by rw [← ras.length]; exact Nat.eq_of_beq_eq_true he), ras.append (.cons (gd _ _ _ S.kin S.kz) .nil)⟩
theorem CZ (hk : Low K base) {a : Addr} {fi : FnI} (ok : YA w K a fi) {dp : Nat} {args : List PV} {C : KD} {ρ : zc} (hb : Jw fi args = some ρ)
  (M : xH P w K base ⟨fi.names, dp⟩ fi.body ρ σ (fun fl _ σ' => match fl with | .ret v => C v σ' | .next => C .none σ' | _ => False))
  {A : Around} {s : Shared} {Z : AP} {μ : LA} {as : List Value} {R : KG} (hh : A.handled = none) (hdp : A.depth + 4 * dp + 6 < recursionLimit) (hun : A.units + 40 * dp + 90 < cLine) (S : St w K base Z μ σ s) (ras : RVs w Z μ s.heap args as)
  (H : ∀ v σ' s' Z' μ' a, C v σ' → St w K base Z' μ' σ' s' → Ext NoW Z μ s Z' μ' s' → RV w Z' μ' s'.heap v a → R (.ret a) s') : zV (model P w) A (.call (.ref a) ⟨as, []⟩) R s := by
 obtain ⟨o, fd, I⟩ := ok.is
 obtain ⟨vs, bs, rfl, hbs, rbs⟩ := Gx I S ras hb
 have cel : ∀ {y : Str}, fi.names.lookup y = some .cell → ((cellsFrom (s.heap.objs.size + 1) fi.names []).lookup y).isSome = true := fun h => jG _ _ _ _ (.inr h)
 refine Jv (Nat.lt_of_le_of_lt (Nat.le_trans (Nat.add_le_add_left (Nat.zero_le _) _) (Nat.le_add_right _ 6)) hdp) (S.kin _ _ I.ho) I.hd I.co I.gen I.body (I.code.keeps S.kin) (hbs _ _ _ _ ?_)
 rw [I.clo]
 refine wpAny_newFunctionEnv_cells I.kd (fun x hx => ?_) fun env he s' x => ?_
 ·rw [I.nm]
  exact (ok.par _ (List.of_mem_zip (show (x.1, x.2) ∈ fi.params.zip bs from hx)).1).imp id fun h => ⟨h, cel h⟩
 have hkeep := x.toInCall.keep
 refine ⟨S.lim.keeps hkeep, funcC ?_⟩
 obtain ⟨h', tk, e', hp⟩ := x.toInCall.done
 have G : yz s.heap h' := hp
 obtain ⟨S1, X1⟩ := S.grow (k := tk) hk G
 rw [← e'] at S1 X1
 have hL : s.heap.objs.size ≤ env.locals := x.toInCall.fresh
 have fresh : ∀ b, FS env b → s.heap.get? b = none := by
  rintro b (rfl | ⟨y, hy⟩)
  ·exact Heap.get?_none_of_le hL
  ·exact Heap.get?_none_of_le (Nat.le_of_lt (Nat.lt_of_le_of_lt hL (x.above _ _ (mem_of_lookup hy))))
 have ek : ∀ y, env.kindOf y = fi.names.lookup y := fun y => by rw [he, ← I.nm]; rfl
 have ec : env.cells = cellsFrom (s.heap.objs.size + 1) fi.names [] := by rw [he, ← I.nm]; rfl
 have K1 : z3 env ⟨fi.names, dp⟩ := ⟨by rw [he]; exact I.kd, by rw [he]; exact I.gl, by rw [he]; exact I.bl, by rw [he]; exact I.nm, ok.dbg, fun y hy => by rw [ec]; exact cel ((jf _ _).symm.trans hy)⟩
 have RNr : RN w Z μ s'.heap (fi.params.zip vs).reverse (fi.params.zip bs).reverse := (RN.zip fi.params (rbs.later S (X1 NoW))).reverse
 have L1 : LR w Z μ base s' env (fi.params.zip vs).reverse := by
  refine ⟨⟨_, x.toInCall.ns, fun y v hy => ?_⟩, fun b hb => S.fresh (fresh b hb), fun y c hc => ⟨Nat.ne_of_gt (x.above _ _ (mem_of_lookup hc)), _, x.cell y c hc⟩, fun y y' c hc hc' => name_of_addr x.apart (mem_of_lookup hc) (mem_of_lookup hc')⟩
  obtain ⟨b, hb, rv⟩ := RNr.lookup hy
  rcases ok.par _ (List.of_mem_zip (List.mem_reverse.mp (mem_of_lookup hb))).1 with h | h
  ·exact .inl ⟨by rw [ek]; exact h, b, by rw [AD _ _ _ _ (by rw [ek]; exact h), hb], rv⟩
  ·obtain ⟨c, hc⟩ := Option.isSome_iff_exists.mp (cel h)
   have hc' : env.cells.lookup y = some c := by rw [ec]; exact hc
   refine .inr ⟨by rw [ek]; exact h, c, b, hc', ?_, rv⟩
   have := x.cell y c hc'
   rwa [AE _ _ _ _ (by rw [ek, h]; decide), hb] at this
 refine M (A.deeper env) env s' Z μ _ ⟨hh, ?_, ?_⟩ K1 S1 L1 fun fl ρ' σ' s'' Z' μ' fa c S2 L2 X2 rf => ?_
 ·show A.depth + 1 + 4 * dp + 4 < _
  rw [Nat.add_right_comm A.depth, Nat.add_assoc]; exact Nat.lt_trans (Nat.lt_succ_self _) hdp
 ·show A.units + 3 + 40 * dp + 80 < _
  rw [Nat.add_right_comm A.units, Nat.add_assoc]; exact Nat.lt_of_le_of_lt (Nat.add_le_add_left (by decide) _) hun
 ·have X : Ext NoW Z μ s Z' μ' s'' := ((X1 (FS env)).trans X2).weak fun b hb => .inr (fresh b hb)
  rcases fl <;> first | exact c.elim | skip <;> rcases fa <;> first | exact rf.elim | skip
  ·exact H _ _ _ _ _ _ c S2 X .none
  ·exact H _ _ _ _ _ _ c S2 X rf

theorem FY (hk : Low K base) {a : Addr} {fi : FnI} (ok : YA w K a fi) {dp : Nat} {args : List PV} {C : KD} {ρ : zc} (hb : Jw fi args = some ρ)
  (M : xH P w K base ⟨fi.names, dp⟩ fi.body ρ σ (fun fl _ σ' => match fl with | .ret v => C v σ' | .next => C .none σ' | _ => False)) : yr P w K base (dp + 1) (.con (.ref a)) args σ C := by
 intro A s Z μ va as Q am S ra ras H
 rw [show va = _ from ra.inv]
 exact jg (CZ hk ok hb M am.hd (by have := am.depth; rw [Nat.mul_succ] at this; exact Nat.lt_of_le_of_lt (Nat.le_refl _) (Nat.lt_of_le_of_lt (by rw [← Nat.add_assoc, Nat.add_assoc (_ + _)]; exact Nat.add_le_add_left (by decide) _) this)) (by have := am.units; rw [Nat.mul_succ] at this; exact Nat.lt_of_le_of_lt (by rw [← Nat.add_assoc, Nat.add_assoc (_ + _)]; exact Nat.add_le_add_left (by decide) _) this) S ras fun v σ' s' Z' μ' a c S' X' r => H v σ' s' Z' μ' a c S' X' r)
end
end
section
structure ClI where
 init : Addr
 fields : List Str
 meths : List (Str × Addr)
def xM (ci : ClI) (x : Str) : Bool := ci.fields.any fun y => sq y x
structure xI (kf : Frag) (C : Addr) (ci : ClI) : Prop where
 make : makesIn kf C = true
 init : findIn kf (.ref C) "__init__" = some (some (.ref ci.init))
 initF : typeIn kf (.ref ci.init) = some (.type "function")
 ga : findIn kf (.ref C) "__getattribute__" = some (some (.builtin "object.__getattribute__"))
 gat : findIn kf (.ref C) "__getattr__" = some none
 sa : findIn kf (.ref C) "__setattr__" = some (some (.builtin "object.__setattr__"))
 over : plainOver kf C = true
 hasd : (clsIn kf C).any (·.hasDict) = true
 fld : ∀ x ∈ ci.fields, findIn kf (.ref C) x = some none
 mth : ∀ x f, lk ci.meths x = some f → findIn kf (.ref C) x = some (some (.ref f)) ∧ typeIn kf (.ref f) = some (.type "function")
theorem xI.field {kf : Frag} {C : Addr} {ci : ClI} (ok : xI kf C ci) {x : Str} (h : xM ci x = true) : findIn kf (.ref C) x = some none := by
 unfold xM at h
 obtain ⟨y, hy, e⟩ := List.any_eq_true.mp h
 rw [← yR.mp e]; exact ok.fld y hy

noncomputable def insC : zU → Option (Addr × Nat)
 | .inst c d => some (c, d)
 | _ => .none
noncomputable def fldC : zU → Option (List (Str × PV))
 | .fields fs => some fs
 | _ => .none
theorem CN {c : zU} {p : Addr × Nat} (e : insC c = some p) : c = .inst p.1 p.2 := by rcases c <;> first | exact no e | (rw [← Option.some.inj e])
theorem C0 {c : zU} {p : List (Str × PV)} (e : fldC c = some p) : c = .fields p := by rcases c <;> first | exact no e | exact congrArg _ (Option.some.inj e)
def Qw (σ : za) : PV → Option (Addr × List (Str × PV))
 | .inst c fs => some (c, fs)
 | .loc l => (σ[l]?.bind insC).bind fun p => (σ[p.2]?.bind fldC).bind fun fs => some (p.1, fs)
 | _ => .none
noncomputable def XH : PV → Bool
 | .con _ => false
 | _ => true

section
variable {s s' s₁ : Shared} {Q : KV} {E : KV} {A : Around} {kf : Frag}

theorem St.instAt (S : St w K base Z μ σ s) {l : Nat} {a : Addr} {p : Addr × Nat} (hc : σ[l]?.bind insC = some p) (hm : μ[l]? = some a) : ∃ dx, s.heap.get? a = some ⟨.ref p.1, some dx, .plain, #[]⟩ ∧ μ[p.2]? = some dx := by
 obtain ⟨c, hc, e⟩ := zp hc
 rw [CN e] at hc
 exact (S.cells l _ a hc hm).inv
theorem St.fldAt (S : St w K base Z μ σ s) {l : Nat} {a : Addr} {fs : List (Str × PV)} (hc : σ[l]?.bind fldC = some fs) (hm : μ[l]? = some a) : ∃ ds n, s.heap.get? a = some (zZ ds n) ∧ RFs w Z μ s.heap fs ds.toList := by
 obtain ⟨c, hc, e⟩ := zp hc
 rw [C0 e] at hc
 exact (S.cells l _ a hc hm).inv
theorem Qv (S : St w K base Z μ σ s) {v : PV} {a : Value} {c : Addr} {fs : List (Str × PV)} (r : RV w Z μ s.heap v a) (e : Qw σ v = some (c, fs)) :
  ∃ x dx ds n, a = .ref x ∧ s.heap.get? x = some ⟨.ref c, some dx, .plain, #[]⟩ ∧ s.heap.get? dx = some (zZ ds n) ∧ RFs w Z μ s.heap fs ds.toList := by
 have r := r.inv
 rcases v <;> first | exact no e | skip
 ·obtain ⟨x, dx, ds, n, _, _, g, gd, q, f⟩ := r
  obtain ⟨rfl, rfl⟩ := Prod.mk.inj (Option.some.inj e)
  exact ⟨x, dx, ds, n, f, g, gd, q⟩
 ·obtain ⟨x, hm, f⟩ := r
  obtain ⟨p, hp, e⟩ := zp e
  obtain ⟨fs', hf, e⟩ := zp e
  obtain ⟨rfl, rfl⟩ := Prod.mk.inj (Option.some.inj e)
  obtain ⟨dx, g, hd⟩ := S.instAt hp hm
  obtain ⟨ds, n, gd, q⟩ := S.fldAt hf hd
  exact ⟨x, dx, ds, n, f, g, gd, q⟩
theorem Bm {d : DictEntry} {y x : Str} {t : Tok} (hk : d.key = .str y t) : d.key.isStr x = sq y x ∧ d.refKey = false := by
 unfold DictEntry.refKey
 rw [hk, AU]
 exact ⟨Bool.beq_comm (a := y) (b := x), rfl⟩
theorem RFs.find {h : Heap} {x : Str} {fs : List (Str × PV)} : ∀ {ds : List DictEntry}, RFs w Z μ h fs ds → (∀ v, lk fs x = some v → ∃ e, ds.find? (·.key.isStr x) = some e ∧ RV w Z μ h v e.val) ∧ (lk fs x = none → ds.find? (·.key.isStr x) = none) := by
 induction fs with
 | nil => intro ds r; rw [show ds = [] from r.inv]; exact ⟨fun v e => no e, fun _ => rfl⟩
 | cons e fs ih =>
  intro ds r
  obtain ⟨d, ds, ⟨t, hk⟩, r1, q, rfl⟩ := r.inv
  unfold lk
  rw [List.find?_cons, (Bm hk).1]
  cases sq e.1 x with
  | true => exact ⟨fun v e => ⟨d, rfl, Option.some.inj e ▸ r1⟩, fun e => nomatch e⟩
  | false => exact ih q
theorem RFs.noRef {h : Heap} {fs : List (Str × PV)} : ∀ {ds : List DictEntry}, RFs w Z μ h fs ds → ds.any (·.refKey) = false := by
 induction fs with
 | nil => intro ds r; rw [show ds = [] from r.inv]; rfl
 | cons e fs ih =>
  intro ds r
  obtain ⟨d, ds, ⟨t, hk⟩, r1, q, rfl⟩ := r.inv
  rw [List.any_cons, (Bm (x := e.1) hk).2, ih q]; rfl
theorem J7 {h : Heap} {x : Str} {fs : List (Str × PV)} {ds : Array DictEntry} {n : Nat} (q : RFs w Z μ h fs ds.toList) : (∀ v, lk fs x = some v → ∃ a, lookIn x (zZ ds n) = some (some a) ∧ RV w Z μ h v a) ∧ (lk fs x = none → lookIn x (zZ ds n) = some none) := by
 have f := RFs.find (x := x) q
 unfold lookIn
 constructor
 ·intro v e
  obtain ⟨en, he, rv⟩ := f.1 v e
  exact ⟨en.val, by dsimp only; rw [he], rv⟩
 ·intro e
  dsimp only
  rw [f.2 e, q.noRef]; rfl
theorem instAt {x dx c : Addr} {ds : Array DictEntry} {n : Nat} (g : s.heap.get? x = some ⟨.ref c, some dx, .plain, #[]⟩) (gd : s.heap.get? dx = some (zZ ds n)) : InstAt s.heap x ⟨.ref c, some dx, .plain, #[]⟩ c (some (zZ ds n)) := ⟨g, rfl, rfl, gd⟩
theorem Gl {C : Addr} (h : (clsIn kf C).any (·.hasDict) = true) : ∃ cd, clsIn kf C = some cd ∧ cd.hasDict = true := any_some h

theorem handed {v : PV} {a : Value} {h : Heap} (r : RV w Z μ h v a) : XH v = true → handedIn a = true := by
 cases r <;> first | exact fun n => nf n | exact fun _ => rfl | skip
 rename_i k
 exact fun _ => by rcases k <;> first | rfl | decide +kernel

theorem getA_at (X : kf.In K) (S : St w K base Z μ σ s) {v u : PV} {a : Value} {c : Addr} {ci : ClI} {fs : List (Str × PV)} {x : Str} {ex : Bool} (ok : xI kf c ci) (r : RV w Z μ s.heap v a) (e : Qw σ v = some (c, fs)) (hf : xM ci x = true) (hl : lk fs x = some u) (hn : XH u = true)
  (h : ∀ b, RV w Z μ s.heap u b → Q b { s with toks := s.toks + 1 }) : wpAny (model P w) A (getAttr a x ex) Q E s := by
 obtain ⟨i, dx, ds, n, rfl, g, gd, q⟩ := Qv S r e
 obtain ⟨b, hb, rb⟩ := (J7 (n := n) q).1 u hl
 obtain ⟨cd, hcd, hdd⟩ := Gl ok.hasd
 refine get_value (X.keeps S.kin) (instAt g gd) ok.ga ?_ (handed rb hn) (h b rb)
 have ho : PySem.W.ownOf cd (some (zZ ds n)) x = some (some b) := by unfold PySem.W.ownOf; rw [if_pos hdd]; exact hb
 unfold findObj
 rw [hcd, Option.bind_some, ok.field hf, Option.bind_some]
 show (PySem.W.ownOf cd (some (zZ ds n)) x).bind _ = _
 rw [ho]; rfl

theorem getM_at (X : kf.In K) (S : St w K base Z μ σ s) {v : PV} {a : Value} {c f : Addr} {ci : ClI} {fs : List (Str × PV)} {x : Str} {pl : Sem Bool} {QM : Value × List Value → Shared → Prop} (ok : xI kf c ci) (r : RV w Z μ s.heap v a) (e : Qw σ v = some (c, fs)) (hf : lk ci.meths x = some f) (hl : lk fs x = none)
  (h : QM (.ref f, [a]) s) : wpAny (model P w) A (getMethod a x pl) QM E s := by
 obtain ⟨i, dx, ds, n, rfl, g, gd, q⟩ := Qv S r e
 have X' : kf.In s.heap := X.keeps S.kin
 obtain ⟨h1, h2⟩ := ok.mth x f hf
 refine method_fn X' (instAt g gd) ok.ga ok.gat h1 h2 ?_ h
 unfold shadowIn
 show (lookIn x (zZ ds n)).map (·.isSome) = some false
 rw [(J7 (n := n) q).2 hl]
 rfl

noncomputable def DE (ds : List DictEntry) (x : Str) (hh : Int) (key b : Value) : List DictEntry := match ds.findIdx? (fun e => e.key.isStr x) with | some i => ds.modify i (fun e => { e with val := b }) | none => ds ++ [⟨hh, key, b⟩]
theorem RFs.put {h : Heap} {x : Str} {u : PV} {b key : Value} {hh : Int} {t : Tok} (hkey : key = .str x t) (rb : RV w Z μ h u b) {fs : List (Str × PV)} : ∀ {ds : List DictEntry}, RFs w Z μ h fs ds →
  RFs w Z μ h (put fs x u) (DE ds x hh key b) := by
 induction fs with
 | nil => intro ds r; rw [show ds = [] from r.inv]; exact .cons ⟨t, hkey⟩ rb .nil
 | cons e fs ih =>
  intro ds r
  obtain ⟨d, ds, ⟨t', hk⟩, r1, q, rfl⟩ := r.inv
  have ih := ih q
  unfold DE at ih ⊢
  unfold Mine.put
  rw [List.findIdx?_cons, (Bm hk).1]
  cases sq e.1 x with
  | true => exact .cons ⟨t', hk⟩ rb q
  | false =>
   cases hi : ds.findIdx? (·.key.isStr x) with
   | some i => rw [hi] at ih; exact .cons ⟨t', hk⟩ r1 ih
   | none => rw [hi] at ih; exact .cons ⟨t', hk⟩ r1 ih
theorem RFs.length {h : Heap} {fs : List (Str × PV)} : ∀ {ds : List DictEntry}, RFs w Z μ h fs ds → fs.length = ds.length := by
 induction fs with
 | nil => intro ds r; rw [show ds = [] from r.inv]; rfl
 | cons e fs ih => intro ds r; obtain ⟨d, ds, _, _, q, rfl⟩ := r.inv; exact congrArg (· + 1) (ih q)
theorem putE_le (ds : List DictEntry) (x : Str) (hh : Int) (key b : Value) : (DE ds x hh key b).length ≤ ds.length + 1 := by
 unfold DE
 cases ds.findIdx? (fun e => e.key.isStr x) with
 | some i => exact Nat.le_succ_of_le (Nat.le_of_eq (List.length_modify ..))
 | none => exact Nat.le_of_eq (List.length_append ..)
theorem A3 (w : World) (x : Str) (t : Tok) (b : Value) (ds : Array DictEntry) (n : Nat) : ∃ m, Obj.putName x (PyData.keyHash w.params x) (.str x t) b (zZ ds n) = zZ (DE ds.toList x (PyData.keyHash w.params x) (.str x t) b).toArray m := by
 rw [Obj.putName_eq]
 unfold Obj.putNameByArray DE
 obtain ⟨dl⟩ := ds
 simp only [List.findIdx?_toArray]
 cases dl.findIdx? (fun e => e.key.isStr x) with
 | some i => exact ⟨n, by simp⟩
 | none => exact ⟨n + 1, by simp⟩

theorem setA_at (hk : Low K base) (X : kf.In K) (S : St w K base Z μ σ s) {l d : Nat} {u : PV} {a b : Value} {c : Addr} {ci : ClI} {fs : List (Str × PV)} {x : Str} {QU : KU} (ok : xI kf c ci) (r : RV w Z μ s.heap (.loc l) a) (rb : RV w Z μ s.heap u b)
  (e1 : σ[l]? = some (.inst c d)) (e2 : σ[d]? = some (.fields fs)) (hf : xM ci x = true) (hz : fs.length ≤ 1000)
  (h : ∀ s', St w K base Z μ (σ.set d (.fields (put fs x u))) s' → (∀ W, Ext W Z μ s Z μ s') → QU () s') : wpAny (model P w) A (setAttr a x b) QU E s := by
 obtain ⟨i, hm, rfl⟩ := r.inv
 obtain ⟨dx, g, hmd⟩ := (S.cells _ _ _ e1 hm).inv
 obtain ⟨ds, n, gd, q⟩ := (S.cells _ _ _ e2 hmd).inv
 clear e1 e2 hm
 have X' : kf.In s.heap := X.keeps S.kin
 have I := instAt g gd
 obtain ⟨cd, hcd, hdd⟩ := Gl ok.hasd
 refine set_plain X' I ok.sa (osa_open (s := { s with toks := s.toks + 1 }) X' I ok.over (r := none) (by unfold takerIn; rw [ok.field hf]; rfl) fun bb => ?_)
 refine wpAny_bind (wpAny_pure (wpAny_bind (wpAny_bind (wpAny_loadPart g (wpAny_bind (Looks.here (s := { s with toks := s.toks + 1 }) (looks_clsIn X' hcd) ?_))))))
 rw [hdd]
 refine wpAny_pure (a := some dx) (wpAny_bind (wpAny_pure (wpAny_bind ?_)))
 clear hcd hdd I X' g ok
 unfold nsSet
 refine wpAny_bind (wpAny_bind (wpAny_askSetting (wpAny_pure (wpAny_bind (wpAny_mkText (wpAny_bind (wpAny_loadPart gd ?_)))))))
 have nr : ds.any (·.refKey) = false := by rw [← Array.any_toList]; exact q.noRef
 dsimp only
 rw [aRefKeyMayBeTheName_at, nr, Bool.and_false]
 obtain ⟨m, hm2⟩ := A3 w x (s.toks + 1) b ds n
 have D' := Heap.get?_update_self (Obj.putName x (PyData.keyHash w.params x) (.str x (s.toks + 1)) b) gd (by rw [hm2]; rfl)
 have SB := Heap.SameBut.update s.heap dx (Obj.putName x (PyData.keyHash w.params x) (.str x (s.toks + 1)) b)
 have L := S.liftBut hmd SB
 rw [hm2] at D'
 refine wpAny_updatePart gd ?_
 refine wpAny_bind (wpAny_lookBehind D' (pastItsLine_dict ?_) ?_)
 ·rw [List.size_toArray, sizeLine_eq]
  exact Nat.le_trans (putE_le ..) (Nat.le_trans (Nat.succ_le_succ (q.length ▸ hz)) (by decide))
 ·obtain ⟨S', X2⟩ := S.put (k := s.toks + 1 + 1) hk hmd SB (.fields D' ((RFs.put (x := x) (hh := PyData.keyHash w.params x) (t := s.toks + 1) rfl rb q).lift L))
  exact wpAny_pure (h _ S' X2)

theorem dp_lt {a d L : Nat} (h : a + 4 * (d + 1) + 4 < L) : a + 1 + 4 * d + 6 < L := by
 refine Nat.lt_of_le_of_lt ?_ h
 rw [Nat.add_right_comm a, Nat.add_assoc, Nat.mul_succ, ← Nat.add_assoc a, Nat.add_assoc (a + 4 * d)]
 exact Nat.add_le_add_left (show 1 + 6 ≤ 4 + 4 by decide) _
theorem un_lt {a u d L : Nat} (hu : u ≤ a + 20) (h : a + 40 * (d + 1) + 80 < L) : u + 40 * d + 90 < L := by
 refine Nat.lt_of_le_of_lt (Nat.add_le_add_right (Nat.add_le_add_right hu _) _) (Nat.lt_of_le_of_lt ?_ h)
 rw [Nat.add_right_comm a, Nat.add_assoc, Nat.mul_succ, ← Nat.add_assoc a, Nat.add_assoc (a + 40 * d)]
 exact Nat.add_le_add_left (show 20 + 90 ≤ 40 + 80 by decide) _
theorem DS (hk : Low K base) (X : kf.In K) (S : St w K base Z μ σ s) {c : Addr} {ci : ClI} {fi : FnI} {args : List PV} {as : List Value} (ok : xI kf c ci) (okf : YA w K ci.init fi) {dp : Nat} {C : KD} {ρ : zc} (hb : Jw fi (.loc (σ.length + 1) :: args) = some ρ)
  (M : xH P w K base ⟨fi.names, dp⟩ fi.body ρ (σ ++ [.fields [], .inst c σ.length]) (fun fl _ σ' => match fl with | .ret .none => C (.loc (σ.length + 1)) σ' | .next => C (.loc (σ.length + 1)) σ' | _ => False))
  (am : Amb A (dp + 1)) (ras : RVs w Z μ s.heap args as) (H : Ret w K base Z μ s C Q) : wpC (model P w) A (call (.ref c) as) Q s := by
 have X' : kf.In s.heap := X.keeps S.kin
 obtain ⟨hh, g, d, t, os⟩ := s
 have G1 : yz hh (hh.push emptyDict) := yz.push _ _
 obtain ⟨S1, X1⟩ := S.new (k := t) (c := .fields []) (a := hh.objs.size) hk G1 (zS _) (.fields (n := 0) (ds := #[]) (Heap.get?_push_size _ rfl) .nil)
 have G2 : yz (hh.push emptyDict) ((hh.push emptyDict).push (instObj c hh.objs.size)) := yz.push _ _
 obtain ⟨S2, X2⟩ := S1.new (k := t) (c := .inst c σ.length) (a := (hh.push emptyDict).objs.size) hk G2 (zS _) (.inst (Heap.get?_push_size _ rfl) (by rw [List.getElem?_append_left (by rw [List.length_append, S.len]; simp)]; exact S.at_end _))
 have hx : (hh.push emptyDict).objs.size = hh.objs.size + 1 := Heap.size_push ..
 rw [hx] at S2 X2
 have hσ : σ ++ [zU.fields []] ++ [zU.inst c σ.length] = σ ++ [.fields [], .inst c σ.length] := by simp
 rw [hσ] at S2
 have e : (μ ++ [hh.objs.size] ++ [hh.objs.size + 1])[σ.length + 1]? = some (hh.objs.size + 1) := by
  rw [← S.len, List.append_assoc, List.getElem?_append_right (Nat.le_succ _)]
  simp
 have XX := (X1 NoW).trans (X2 NoW)
 refine jg (makeC (makes_of X' ok.make) (looks_findIn X' ok.init) (fun self => bind_fn X' self ok.initF) rfl ?_)
 refine CZ (dp := dp) (C := fun v σ' => v = .none ∧ C (.loc (σ.length + 1)) σ') hk okf hb ?_ am.hd ?_ ?_ S2 (.cons (.loc e) (ras.later S XX)) fun v σ' s' Z' μ' a c S' X' r => ?_
 ·intro A env s Z μ Q a1 a2 a3 a4 a5
  refine M A env s Z μ Q a1 a2 a3 a4 fun fl ρ' σ' s' Z' μ' fa c => ?_
  refine a5 fl ρ' σ' s' Z' μ' fa ?_
  rcases fl with _ | _ | _ | v <;> first | exact c.elim | exact ⟨rfl, c⟩ | skip
  rcases v <;> first | exact c.elim | exact ⟨rfl, c⟩
 ·show A.depth + 1 + 4 * dp + 6 < _
  exact dp_lt am.depth
 ·have : (A.under (.builtin "type.__call__" ⟨.ref c :: as, []⟩)).units ≤ A.units + 20 := by
   show A.units + Code.cUnits (.builtin "type.__call__" ⟨.ref c :: as, []⟩) ≤ _
   have : Code.cUnits (.builtin "type.__call__" ⟨.ref c :: as, []⟩) = 1 := by kernel_rfl
   rw [this]; exact Nat.add_le_add_left (by decide) _
  exact un_lt this am.units
 ·obtain ⟨rfl, c⟩ := c
  exact ⟨r.inv, H _ _ _ _ _ _ c S' (XX.trans X') (.loc (X'.pre _ _ e))⟩
end
end
section
noncomputable def q9 (e : Expr) : Bool := Nat.beq e.ctorIdx 22
def yi : List Expr → Bool
 | [] => true
 | e :: es => !q9 e && yi es
noncomputable def Ct (e : Expr) : Bool := !Nat.beq e.ctorIdx 20
noncomputable def Yi : Expr → Bool
 | .Call f args kws _ => !(Nat.beq f.ctorIdx 23 && args.isEmpty && kws.isEmpty)
 | _ => true
section
variable {s s' s₁ : Shared} {Q : KV} {E : KV} {A : Around} {env : Env}

theorem Dx {e : Expr} (h : q9 e = false) (es : List Expr) (env : Env) : starEach (e :: es) env = (false, eval e env) :: starEach es env := by
 rcases e <;> first | rfl | exact nf h.symm
theorem jH : ∀ {es : List Expr}, yi es = true → ∀ (pos : Pos) (env : Env), backTo pos (starEach es env) = es.map fun e => (false, eval e env)
 | [], _, _, _ => rfl
 | e :: es, h, pos, env => by
  rw [Dx ((Bool.not_eq_true' _).mp (bl h))]
  show _ :: backTo pos (starEach es env) = _
  rw [jH (br h) pos env]; rfl
theorem De {o : Expr} (h : Yi o = true) (attr : Str) (env : Env) (whole : Sem Value) : attributeBase o attr env whole = whole := by
 rcases o <;> first | rfl | skip
 rename_i f args kws pos
 rcases f <;> first | rfl | skip
 rcases args <;> first | rfl | skip
 rcases kws <;> first | rfl | exact nf h
theorem Ag {f : Value} {first : List Value} {kp : Keeper} (es : List Expr)
  (h : wpC (model P w) A (spliced (es.map fun e => (false, eval e env))) (fun vs s₁ => (∀ R : Keeper → Shared → Prop, R kp s₁ → wpAny (model P w) A (keeperOf f) R NoE s₁) ∧ wpC (model P w) A (call f (first ++ vs)) Q s₁) s) :
  wpC (model P w) A (evalArgs f true (es.map fun e => (false, eval e env)) []) (fun a s₁ => a.kw = [] ∧ (∀ R : Keeper → Shared → Prop, R kp s₁ → wpAny (model P w) A (keeperOf f) R NoE s₁) ∧ wpC (model P w) A (call f (first ++ a.pos)) Q s₁) s := by
 unfold evalArgs
 cases es with
 | nil =>
  show wpC _ _ (spliced [] >>= _) _ _
  refine zb (zi h fun vs s' h' => ?_)
  refine ze (wpAny_pure ?_)
  refine zg ?_
  exact ze (wpAny_pure (ze (wpAny_pure (zf ⟨rfl, h'.1, h'.2⟩))))
 | cons e es =>
  show wpC _ _ (spliced ((false, eval e env) :: es.map fun e => (false, eval e env)) >>= _) _ _
  refine zb (zi h fun vs s' h' => ?_)
  refine ze (wpAny_pure ?_)
  refine zg ?_
  exact ze (wpAny_pure (ze (wpAny_pure (zf ⟨rfl, h'.1, h'.2⟩))))
theorem jA {f : Value} {first : List Value} {pos : Pos} {args : List Expr} {kp : Keeper} (hkp : kp = .frame ∨ kp = .machine) (ns : yi args = true)
  (h : wpC (model P w) A (spliced (backTo pos (starEach args env))) (fun vs s₁ => (∀ R : Keeper → Shared → Prop, R kp s₁ → wpAny (model P w) A (keeperOf f) R NoE s₁) ∧ wpC (model P w) A (call f (first ++ vs)) Q s₁) s) :
  wpC (model P w) A (callWith pos f first (backTo pos (starEach args env)) []) Q s := by
 rw [jH ns] at h ⊢
 have ev := Ag (f := f) (first := first) args h
 have np : (args.map fun e => (false, eval e env)).any (·.1) = false := by
  rw [List.any_map]; simp
 unfold callWith
 refine zb (zg (zi ev fun a s₁ h1 => zj ?_))
 obtain ⟨hkw, hke, hc⟩ := h1
 rw [hkw]
 simp only [np, List.any_nil, Bool.or_false]
 refine ze (hke _ ?_)
 have tail : ∀ {t : Sem Value}, wpC (model P w) A t Q s₁ → wpC (model P w) A (t >>= fun r => holding [r] point >>= fun _ => pure r) Q s₁ :=
  fun ht => zb (zi ht fun r s₂ hr => zb (zg (.of (wpAny_point (zf hr)))))
 rcases hkp with rfl | rfl
 ·dsimp only
  split
  ·exact tail hc
  ·exact tail (by unfold callMarked; exact Ez hc)
 ·exact tail hc
theorem CI {f : Addr} {o : Obj} {fd : FuncData} (ho : s.heap.get? f = some o) (hd : o.data = .func fd) {R : Keeper → Shared → Prop} (h : R .frame s) : wpAny (model P w) A (keeperOf (.ref f)) R E s := by
 unfold keeperOf
 refine wpAny_bind (wpAny_load ho ?_)
 rw [hd]
 exact wpAny_pure h
theorem Fy {kf : Frag} (X : kf.In s.heap) {c : Addr} (hm : makesIn kf c = true) {R : Keeper → Shared → Prop} (h : R .machine s) : wpAny (model P w) A (keeperOf (.ref c)) R E s := by
 have Y := makes_of (M := model P w) X hm
 obtain ⟨oc, od, cd, sl, hC, _⟩ := Y.obj
 unfold keeperOf
 refine wpAny_bind (wpAny_load hC ?_)
 dsimp only
 refine wpAny_bind (Y.call.here ?_)
 exact wpAny_pure h
theorem CJ (k : BI) {R : Keeper → Shared → Prop} (h : R .machine s) : wpAny (model P w) A (keeperOf k.val) R E s := by
 rcases k <;> exact wpAny_pure h
theorem XQ {id : String} {R : Keeper → Shared → Prop} (h : R .machine s) : wpAny (model P w) A (keeperOf (.builtin id)) R E s := wpAny_pure h

theorem Ex {o : Expr} {name : Str} {apos pos : Pos} {args : List Expr} (hb : Yi o = true) (ns : yi args = true) (hl : Nat.ble args.length 20 = true) (hp : Nat.beq apos.endLine pos.line = true)
  (h : wpC (model P w) A (eval o env) (fun ov s₁ => ∀ pl : Sem Bool, wpAny (model P w) A (getMethod ov name pl) (fun fm s₂ => wpC (model P w) A (callWith pos fm.1 fm.2 (backTo pos (starEach args env)) []) Q s₂) NoE s₁) s) :
  wpC (model P w) A (eval (.Call (.Attribute o name apos) args [] pos) env) Q s := by
 have hform : methodCallForm (args.length + ([] : List Keyword).length) (backTo pos (starEach args env)) (backToKw pos (keywordEach [] env)) = true := by
  unfold methodCallForm
  rw [jH ns]
  have := Nat.le_of_ble_eq_true hl
  rw [Bool.and_eq_true, Bool.and_eq_true]
  refine ⟨⟨by rw [List.all_map]; simp, rfl⟩, ?_⟩
  have : (if (backToKw pos (keywordEach [] env)).isEmpty then 0 else 1) ≤ 1 := by split <;> decide
  simp only [decide_eq_true_eq, List.length_nil]
  omega
 have hpos : methodCallPos true o env apos pos = pure pos := by
  have : (apos.endLine == pos.line) = true := by rw [Nat.eq_of_beq_eq_true hp]; exact beq_self_eq_true _
  unfold methodCallPos; simp [this]
 rw [arm_eval_Call, De hb]
 refine zb (zi h fun ov s₁ h1 => ?_)
 refine zj ?_
 unfold methodCall
 rw [hform]
 refine zb (zg (.of (wpAny_mono (h1 _) (fun fm s₂ h2 => ?_) fun _ _ e => e)))
 exact ze (wpAny_of_eq hpos h2)
theorem Dj {func : Expr} {args : List Expr} {pos : Pos} (hf : Ct func = true)
  (h : wpC (model P w) A (eval func env) (fun f s₁ => wpC (model P w) A (callWith pos f [] (backTo pos (starEach args env)) []) Q s₁) s) : wpC (model P w) A (eval (.Call func args [] pos) env) Q s := by
 have e : eval (.Call func args [] pos) env = (do callWith pos (← eval func env) [] (backTo pos (starEach args env)) (backToKw pos (keywordEach [] env))) := by
  clear h
  rcases func <;> first | rfl | exact nf hf
 rw [e]
 exact zb h
theorem C_Attr {o : Expr} {x : Str} {pos : Pos} (hb : Yi o = true) (h : wpC (model P w) A (eval o env) (fun v s₁ => wpAny (model P w) A (getAttr v x true) Q NoE s₁) s) : wpC (model P w) A (eval (.Attribute o x pos) env) Q s := by
 rw [arm_eval_Attribute, De hb]
 exact zb (zi h fun v s₁ h1 => zj (zb (zg (.of (wpAny_mono h1 (fun r s₂ h2 => ze (wpAny_letTemporaryGo (zf h2))) fun _ _ e => e)))))
end
end
section
noncomputable def ix (a b : Int) : Int := match decide (a < b) with | true => b | false => a
noncomputable def mn (a b : Int) : Int := match decide (b < a) with | true => b | false => a
noncomputable def b2i : Bool → Int | true => 1 | false => 0
def lenV (σ : za) : PV → Option Nat
 | .tup vs => some vs.length
 | .bytes b => some b.toList.length
 | x => (ym σ x).bind fun vs => some vs.length
def seqV (σ : za) : PV → Option (List PV)
 | .tup vs => some vs
 | x => ym σ x
def CM : List PV → Option (List Int)
 | [] => some []
 | v :: r => v.i?.bind fun i => bOf (decide (0 ≤ i) && decide (i < 256)) ((CM r).bind fun l => some (i :: l))

section
variable {R : Type} (an : Ans R)
noncomputable def Er (args : List PV) (k : PV → R) : R := match args with | [x] => k x | _ => an.bad
noncomputable def BU (args : List PV) (k : PV → PV → R) : R := match args with | [x, y] => k x y | _ => an.bad
noncomputable def arg3 (args : List PV) (k : PV → PV → PV → R) : R := match args with | [x, y, z] => k x y z | _ => an.bad
noncomputable def Eo : zU → Option (Array UInt8)
 | .barr b => some b
 | _ => .none
def Db (x : PV) (C : PV → za → R) (σ : za) : R := match x with | .int a => C (.int a) σ | .bool b => C (.int (b2i b)) σ | _ => an.bad
def callB (σ : za) (k : BI) (args : List PV) (C : PV → za → R) : R := match k with
 | .len => Er an args fun x => zr an.bad (lenV σ x) fun n => chk an (Nat.ble n 1000000) (C (.int n) σ)
 | .max => BU an args fun x y => zr an.bad x.i? fun a => zr an.bad y.i? fun b => C (.int (ix a b)) σ
 | .min => BU an args fun x y => zr an.bad x.i? fun a => zr an.bad y.i? fun b => C (.int (mn a b)) σ
 | .int => Er an args fun x => Db an x C σ
 | .list => Er an args fun x => zr an.bad (seqV σ x) fun vs => chk an (Nat.ble vs.length 1000000) (C (.loc σ.length) (σ ++ [.list vs]))
 | .tuple => Er an args fun x => zr an.bad x.t? fun vs => C (.tup vs) σ
 | .bytes => Er an args fun x => (match ym σ x with
   | some vs => chk an (Nat.ble vs.length 1000000) (zr an.bad (CM vs) fun l => C (.bytes (byteArr l)) σ)
   | none => zr an.bad x.l? fun l => zr an.bad (σ[l]?.bind Eo) fun b => chk an (Nat.ble b.size 1000000) (C (.bytes b) σ))
 | .bytearray => (match args with | [] => C (.loc σ.length) (σ ++ [.barr #[]]) | _ => an.bad)
 | .range => an.bad
 | .enumerate => an.bad
end

section
variable {s s' s₁ : Shared} {Q : KV} {E : KV} {A : Around}

theorem Ret.grow {C : KD} (hk : Low K base) (H : Ret w K base Z μ s C Q) (S : St w K base Z μ σ s) {v : PV} {a : Value} {h' : Heap} {k : Nat} (g : yz s.heap h') (c : C v σ) (r : RV w Z μ h' v a) : Q a { s with heap := h', toks := k } := by
 obtain ⟨S', X⟩ := S.grow (k := k) hk g
 exact H _ _ _ _ _ _ c S' (X _) r
theorem seqV_at (S : St w K base Z μ σ s) {v : PV} {a : Value} {vs : List PV} (r : RV w Z μ s.heap v a) (e : seqV σ v = some vs) : ∃ b its n T, (T = "list" ∨ T = "tuple") ∧ a = .ref b ∧ s.heap.get? b = some ⟨.type T, none, .seq its n, #[]⟩ ∧ RVs w Z μ s.heap vs its.toList := by
 have lists : ym σ v = some vs → ∃ b its n T, (T = "list" ∨ T = "tuple") ∧ a = .ref b ∧ s.heap.get? b = some ⟨.type T, none, .seq its n, #[]⟩ ∧ RVs w Z μ s.heap vs its.toList := fun e => by
  obtain ⟨b, its, n, h1, h2, h3⟩ := z4 S r e
  exact ⟨b, its, n, "list", .inl rfl, h1, h2, h3⟩
 rcases v <;> first | exact lists e | skip
 obtain ⟨b, its, n, h1, h2, h3⟩ := r.tupAt
 exact ⟨b, its, n, "tuple", .inr rfl, h1, h2, Option.some.inj e ▸ h3⟩
theorem ints_at {h : Heap} {vs : List PV} : ∀ {as : List Value} {l : List Int}, RVs w Z μ h vs as → CM vs = some l → IntsAre as l ∧ ∀ n ∈ l, 0 ≤ n ∧ n < 256 := by
 induction vs with
 | nil => intro as l r e; rw [r.nil_of, ← Option.some.inj e]; exact ⟨.nil, fun n h => nomatch h⟩
 | cons v vs ih =>
  intro as l r e
  obtain ⟨a, as, r1, q, rfl⟩ := r.inv
  obtain ⟨i, hi, e⟩ := zp e
  obtain ⟨hc, e⟩ := zQ e
  obtain ⟨l, hl, rfl⟩ := zL e
  obtain ⟨t, rfl⟩ := r1.i hi
  obtain ⟨g1, g2⟩ := ih q hl
  exact ⟨.cons _ _ g1, fun n hn => (List.mem_cons.mp hn).elim (fun e => e ▸ ⟨dt (bl hc), dt (br hc)⟩) (g2 n)⟩
section
variable {R : Type} (an : Ans R)
theorem qS {args : List PV} {as : List Value} {k : PV → R} {h : Heap} (c : an.I (Er an args k)) (r : RVs w Z μ h args as) : ∃ x a, RV w Z μ h x a ∧ an.I (k x) ∧ as = [a] := by
 rcases args with _ | ⟨x, _ | _⟩ <;> first | exact an.no c | skip
 obtain ⟨a, r, e⟩ := r.one
 exact ⟨x, a, r, c, e⟩
theorem xQ {args : List PV} {as : List Value} {k : PV → PV → R} {h : Heap} (c : an.I (BU an args k)) (r : RVs w Z μ h args as) : ∃ x y a b, RV w Z μ h x a ∧ RV w Z μ h y b ∧ an.I (k x y) ∧ as = [a, b] := by
 rcases args with _ | ⟨x, _ | ⟨y, _ | _⟩⟩ <;> first | exact an.no c | skip
 obtain ⟨a, b, r, q, e⟩ := r.two
 exact ⟨x, y, a, b, r, q, c, e⟩
theorem Dh {args : List PV} {as : List Value} {k : PV → PV → PV → R} {h : Heap} (c : an.I (arg3 an args k)) (r : RVs w Z μ h args as) : ∃ x y z a b d, RV w Z μ h x a ∧ RV w Z μ h y b ∧ RV w Z μ h z d ∧ an.I (k x y z) ∧ as = [a, b, d] := by
 rcases args with _ | ⟨x, _ | ⟨y, _ | ⟨z, _ | _⟩⟩⟩ <;> first | exact an.no c | skip
 obtain ⟨a, b, d, r, q, p, e⟩ := r.three
 exact ⟨x, y, z, a, b, d, r, q, p, c, e⟩
end
theorem barC_eq {c : zU} {p : BA} (e : Eo c = some p) : c = .barr p := by rcases c <;> first | exact no e | exact congrArg _ (Option.some.inj e)
theorem St.barAt (S : St w K base Z μ σ s) {l : Nat} {a : Addr} {b : BA} (hc : σ[l]?.bind Eo = some b) (hm : μ[l]? = some a) : s.heap.get? a = some { cls := .type "bytearray", data := .bytearray b 0 } := by
 obtain ⟨c, hc, e⟩ := zp hc
 rw [barC_eq e] at hc
 exact (S.cells l _ a hc hm).inv

theorem Fm (hk : Low K base) {C : KD} (H : Ret w K base Z μ s C Q) (S : St w K base Z μ σ s) {h' : Heap} {k : Nat} {a : Addr} {b : BA} (g : yz s.heap h') (h0 : s.heap.get? a = none) (ha : h'.get? a = some { cls := .type "bytearray", data := .bytearray b }) (c : C (.loc σ.length) (σ ++ [.barr b])) : Q (.ref a) { s with heap := h', toks := k } := by
 obtain ⟨S', X⟩ := S.new (k := k) (c := .barr b) hk g h0 (.barr ha)
 exact H _ _ _ _ _ _ c S' (X _) (.loc (S.at_end _))

end
end
section
set_option maxHeartbeats 1000000
theorem GB : mroOf (.type "bytearray") = pure [.type "bytearray", .type "object"] := by rw [mroOf_type]; kernel_rfl
theorem ba_new : typeLookup (.type "bytearray") "__new__" = pure (some (.builtin "bytearray.__new__")) := by rw [typeLookup_type, builtinLookup_eq_fast]; kernel_rfl
theorem Qk : Slot "bytearray" "__init__" "bytearray.__init__" :=
 .of (owner := "bytearray") (n := "__init__") (by rw [typeLookup_type, builtinLookup_eq_fast]; kernel_rfl) (by decide +kernel) (by decide +kernel) (by decide +kernel)
  (by first | exact .inl (by decide +kernel) | exact .inr (by decide +kernel)) (by rw [isSubtype_type]; kernel_rfl)
theorem JK : entryFor table "bytearray.__init__" = some Builtin.«bytearray.__init__» := entryFor_of_tree (by kernel_rfl)
theorem Ql : entryFor table "bytearray.__new__" = some Builtin.«list.__new__» := entryFor_alias (id' := "list.__new__") (by kernel_rfl) (by first | rfl | decide +kernel) (by decide +kernel) (by kernel_rfl)
theorem Qm (a : Value) : argsOk "bytearray.__init__" ⟨[a], []⟩ := by
 unfold argsOk; rw [signature?_of (id := "bytearray.__init__") (n := ['_', '_', 't', 'i', 'n', 'i', '_', '_']) (o := ['y', 'a', 'r', 'r', 'a', 'e', 't', 'y', 'b']) (by kernel_rfl) jc]; kernel_rfl
theorem AG : plainId "bytearray.__new__" = true := by decide +kernel
theorem BQ : checkBuiltinCall "bytearray.__new__" ⟨[.type "bytearray"], []⟩ = pure () := by kernel_rfl
theorem AF : checkTypeCall "bytearray" ⟨[], []⟩ = pure () := by kernel_rfl
theorem ba_made : Bind.madeBy (.type "bytearray") = pure (some "bytearray.__new__") := madeBy_type GB ba_new (by decide +kernel)
theorem Qj : isSubtype (.type "bytearray") (.type "bytearray") = pure true := by rw [isSubtype_type]; kernel_rfl
set_option maxRecDepth 1000000 in
set_option maxHeartbeats 4000000 in
theorem GA : ("bytearray.__new__".splitOn ".__new__").headD "" = "bytearray" := by simp +decide [String.splitOn, String.splitOnAux]
theorem ba_bind : Builtin.Bytes.bindOptional "bytearray.__init__" "bytearray" ["source", "encoding", "errors"] [] [] = pure [none, none, none] := by kernel_rfl

section
variable {s s' s₁ : Shared} {Q : KV} {A : Around}

theorem As {E : KV} {Q₁ : KV} (h : Q₁ (.ref s.heap.objs.size) { s with heap := s.heap.push { cls := .type "bytearray", data := .bytearray #[] } }) :
  codeAny (model P w) A (.call (.builtin "bytearray.__new__") ⟨[.type "bytearray"], []⟩) (wants Q₁ E) s := by
 refine codeAny_of_tree ?_
 show wpAny _ A.in1 (do checkBuiltinCall "bytearray.__new__" ⟨[.type "bytearray"], []⟩; again (.builtin "bytearray.__new__" ⟨[.type "bytearray"], []⟩)) _ _ s
 refine wpAny_bind (wpAny_of_eq BQ (wpAny_pure ⟨plainId_quiet AG _, codeAny_builtin_stack Ql rfl fun p st => ?_⟩))
 rw [Around.under_plainId AG _]
 have hsub := Qj
 have hown := GA
 obtain ⟨hp, g, d, tk, os⟩ := s
 simp only [hown]
 wp_walk
 exact h
theorem Jx {b : Addr} {o : Obj} (ho : s.heap.get? b = some o) (hc : o.cls = .type "bytearray") {E : KV} {R : KB} (h : R false s) : wpAny (model P w) A (Builtin.Bytes.ownRelease (.ref b)) R E s := by
 unfold Builtin.Bytes.ownRelease
 refine wpAny_bind (m := Builtin.Bytes.slotIsOwn _ _) ?_
 unfold Builtin.Bytes.slotIsOwn
 have hT : s.TypeIs (.ref b) "bytearray" := ⟨o, ho, hc⟩
 refine wpAny_bind (wpAny_specialOf hT JH ?_)
 show wpAny _ _ (if (!("bytearray.__release_buffer__".endsWith ("." ++ "__release_buffer__"))) = true then _ else _) _ _ _
 rw [show "bytearray.__release_buffer__".endsWith ("." ++ "__release_buffer__") = true from by decide +kernel]
 show wpAny _ _ (isInstance _ (.type ("bytearray.__release_buffer__".dropRight ("__release_buffer__".length + 1)))) _ _ _
 rw [show "bytearray.__release_buffer__".dropRight ("__release_buffer__".length + 1) = "bytearray" from by decide +kernel]
 exact wpAny_isInstance hT Qj (wpAny_pure h)
noncomputable def xz (self : Value) : Code × Pos → Bool
  | (.builtin "bytearray.__contains__" ⟨v :: _, _⟩, _) | (.builtin "bytearray.__mod__" ⟨v :: _, _⟩, _)
  | (.builtin "bytearray.__rmod__" ⟨_ :: v :: _, _⟩, _) | (.builtin "_struct.pack_into.held" ⟨v :: _, _⟩, _) => Builtin.Bytes.sameRef v self
  | (.builtin "bytearray.find.held" ⟨_ :: _ :: held, _⟩, _) => held.any (Builtin.Bytes.sameRef self)
  | (.builtin i ⟨v :: _, _⟩, _) => Builtin.Bytes.sameRef v self && Builtin.Bytes.decodersThatHold.contains i
  | _ => false
theorem Fw {self : Value} {c : Code} {q : Pos} (hb : Ep c = false) : xz self (c, q) = false := by
 rcases c <;> first | rfl | skip
 rename_i id args
 have h := Bool.or_eq_false_iff.mp hb
 have hn : ∀ n, ["bytearray.__contains__", "bytearray.__mod__", "bytearray.__rmod__", "_struct.pack_into.held", "bytearray.find.held"].contains n = true → ¬ id = n := fun n hn e => by
  rw [e, hn] at h; exact nf h.2.symm
 obtain ⟨pos, kw⟩ := args
 first | delta xz xz.match_1 xz._sparseCasesOn_1 xz._sparseCasesOn_2 | delta xz xz.match_1 JF._sparseCasesOn_2 | delta xz xz.match_1 JF._sparseCasesOn_1
 refine (dif_neg (hn "bytearray.__contains__" (by decide))).trans ?_
 refine (dif_neg (hn "bytearray.__mod__" (by decide))).trans ?_
 refine (dif_neg (hn "bytearray.__rmod__" (by decide))).trans ?_
 refine (dif_neg (hn "_struct.pack_into.held" (by decide))).trans ?_
 refine (dif_neg (hn "bytearray.find.held" (by decide))).trans ?_
 cases pos with
 | nil => rfl
 | cons v r => show (_ && _) = false; rw [h.1, Bool.and_false]
theorem Yr {b : Addr} {R : KB} (h : R false s) : wpC (model P w) A (Builtin.Bytes.exported (.ref b)) R s := fun Γ p hΓ hC => by
 show R (((Γ.code, p) :: Γ.below).any (xz (.ref b))) s
 have e : ((Γ.code, p) :: Γ.below).any (xz (.ref b)) = false := List.any_eq_false.mpr fun x hx => by
  rw [Fw ((List.mem_cons.mp hx).elim (fun e => e ▸ hC.1) (hC.2 x))]; exact Bool.false_ne_true
 rw [e]; exact h
theorem JX {b : Addr} {bs : BA} (ho : s.heap.get? b = some ⟨.type "bytearray", none, .bytearray bs 0, #[]⟩) {R : KU} (h : R () s) : wpC (model P w) A (Builtin.Bytes.checkResize (.ref b)) R s := by
 unfold Builtin.Bytes.checkResize
 refine zb ?_
 show wpC _ _ (Builtin.Bytes.exported (.ref b) >>= fun x => _) _ _
 refine zb (Yr ?_)
 show wpC _ _ (Builtin.Bytes.exportsOf (.ref b) >>= fun n => pure (decide (n > 0))) _ _
 refine zb (m := Builtin.Bytes.exportsOf (.ref b)) (.of ?_)
 unfold Builtin.Bytes.exportsOf
 refine wpAny_bind (wpAny_load ho (wpAny_pure ?_))
 refine zf ?_
 exact zf h
end
end
section
set_option maxHeartbeats 2000000
section
variable {s s' s₁ : Shared} {Q : KV} {A : Around}

noncomputable abbrev z9 (b : BA) : Obj := { cls := .type "bytearray", data := .bytearray b }
theorem YO {b : Addr} {bs : BA} {f : Array UInt8 → Array UInt8} (ho : s.heap.get? b = some (z9 bs)) (hz : (f bs).size ≤ 100000) {E : KV} {R : KU}
  (h : ∀ h', Heap.SameBut b s.heap h' → h'.get? b = some (z9 (f bs)) → R () { s with heap := h' }) : wpAny (model P w) A (Builtin.Bytes.write (.ref b) f) R E s := by
 unfold Builtin.Bytes.write updateBytearray
 refine wpAny_bind (wpAny_load ho ?_)
 dsimp only
 have g : (s.heap.update b (Obj.mapBytearray f)).get? b = some (z9 (f bs)) := Heap.get?_update_self _ ho rfl
 refine wpAny_bind (wpAny_update ho ?_)
 exact wpAny_lookBehind g (by
  simp only [Data.pastItsLine]
  rw [sizeLine_eq, if_neg (by omega)]) (h _ (Heap.SameBut.update ..) g)
theorem ql {T : String} {name : Str} {id : String} {B : Builtin} {self : Value} {rest : List Value} (slot : Slot T name id) (hT : s.TypeIs self T)
  (entry : entryFor table id = some B) (args : argsOk id ⟨self :: rest, []⟩) (hb : Ep (.builtin id ⟨self :: rest, []⟩) = false) (g : wpC (model P w) A.in1 (B ⟨self :: rest, []⟩) (xi Q) s) :
  zV (model P w) A (.call (.builtin id) ⟨self :: rest, []⟩) (fun f s' => match f with | .ret v => Q v s' | _ => False) s := by
 refine zC rfl ?_
 show wpC _ A.in1 (do checkBuiltinCall id ⟨self :: rest, []⟩; again (.builtin id ⟨self :: rest, []⟩)) _ _
 refine ze (slot.check _ _ _ _ _ _ _ _ hT args (zf ⟨plainId_quiet slot.plain _, ?_⟩))
 refine zC hb ?_
 rw [xC _ entry, Around.under_plainId slot.plain]
 exact zi g fun fin s' h => by obtain ⟨v, rfl, q⟩ := h; exact q
theorem init_ba {b : Addr} (ho : s.heap.get? b = some (z9 #[])) (h : ∀ h', Heap.SameBut b s.heap h' → h'.get? b = some (z9 #[]) → Q .none { s with heap := h' }) : wpC (model P w) A (Builtin.«bytearray.__init__» ⟨[.ref b], []⟩) (xi Q) s := by
 unfold Builtin.«bytearray.__init__»
 refine ze (Jx ho rfl ?_)
 rw [if_neg (by simp)]
 refine ze (m := Builtin.Bytes.bindOptional _ _ _ _ _) (wpAny_of_eq ba_bind ?_)
 refine ze (m := Builtin.Bytes.checkCodecArg _ _ _ _) (wpAny_of_eq (a := ()) rfl ?_)
 refine ze (m := Builtin.Bytes.checkCodecArg _ _ _ _) (wpAny_of_eq (a := ()) rfl ?_)
 refine zb ?_
 show wpC _ _ (Builtin.Bytes.exported (.ref b) >>= fun x => _) _ _
 refine zb (Yr ?_)
 show wpC _ _ (Builtin.Bytes.exportsOf (.ref b) >>= fun n => pure (decide (n > 0))) _ _
 refine zb (m := Builtin.Bytes.exportsOf (.ref b)) (.of ?_)
 unfold Builtin.Bytes.exportsOf
 refine wpAny_bind (wpAny_load ho (wpAny_pure (zf ?_)))
 rw [if_neg (by simp)]
 refine ze (YO ho (by simp) fun h' sb g => ?_)
 exact zf ⟨.none, rfl, h h' sb g⟩
theorem Gz (h : ∀ h', yz s.heap h' → h'.get? s.heap.objs.size = some (z9 #[]) → Q (.ref s.heap.objs.size) { s with heap := h' }) : wpC (model P w) A (call (.type "bytearray") []) Q s := by
 refine jg (zC rfl ?_)
 show wpC _ _ (again (.builtin "type.__call__" ⟨[.type "bytearray"], []⟩)) _ _
 refine zf ⟨Code.quiet_builtin _ (by decide +kernel), ?_⟩
 refine zC (by kernel_rfl) ?_
 rw [xC (P := P) (w := w) (id := "type.__call__") ⟨[.type "bytearray"], []⟩ entry_typeCall]
 have e : Builtin.«type.__call__» ⟨[.type "bytearray"], []⟩ = (do
  checkTypeCall "bytearray" ⟨[], []⟩
  if (← mroOf (.type "bytearray")).isEmpty then rule "type.call.half-made"; raiseError "TypeError" s!"cannot create '{← typeName (.type "bytearray")}' instances"
  let new ← match ← Bind.madeBy (.type "bytearray") with
   | some id => pure (.builtin id)
   | none => getAttr (.type "bytearray") "__new__"
  let obj ← holding [new] (PySem.call new [.type "bytearray"] [])
  if !(← isInstance obj (.type "bytearray")) then rule "type.call.new-gave-other-type"; return ← ret obj
  match ← holding [obj] (callSpecial? obj "__init__" [] []) with
  | none => ret obj
  | some r =>
   if r != .none then
    rule "type.call.init-returned-value"
    raiseError "TypeError" s!"__init__() should return None, not '{← PySem.typeNameOf r}'"
   ret obj) := by kernel_rfl
 rw [e]
 refine ze (wpAny_of_eq AF ?_)
 refine ze (wpAny_of_eq GB ?_)
 rw [if_neg (by simp)]
 refine ze (wpAny_of_eq ba_made ?_)
 refine ze (wpAny_pure ?_)
 refine zb (zg (.of (wpAny_call (As ?_))))
 have ho : (s.heap.push (z9 #[])).get? s.heap.objs.size = some (z9 #[]) := Heap.get?_push_size _ rfl
 have hT : Shared.TypeIs { s with heap := s.heap.push (z9 #[]) } (.ref s.heap.objs.size) "bytearray" := ⟨_, ho, rfl⟩
 dsimp only
 refine ze (wpAny_isInstance hT Qj ?_)
 rw [if_neg (by simp)]
 refine zb (zg ?_)
 unfold callSpecial?
 refine ze (wpAny_specialOf hT Qk.lookup ?_)
 dsimp only
 refine zg ?_
 rw [Qk.bind]
 refine ze (wpAny_pure ?_)
 refine zb (jg ?_)
 have hn := yz.push s.heap (z9 #[])
 have init : zV (model P w) (A.under (.builtin "type.__call__" ⟨[.type "bytearray"], []⟩)) (.call (.builtin "bytearray.__init__") ⟨[.ref s.heap.objs.size], []⟩) (fun f s' => match f with | .ret v => v = .none ∧ Q (.ref s.heap.objs.size) s' | _ => False) { s with heap := s.heap.push (z9 #[]) } := by
  refine ql (Q := fun v s' => v = .none ∧ Q (.ref s.heap.objs.size) s') Qk hT JK (Qm _) (by kernel_rfl) ?_
  exact init_ba (s := { s with heap := s.heap.push (z9 #[]) }) ho fun h' sb g => ⟨rfl, h h' (fun b o e => (sb.2 b (by rintro rfl; exact zn e (zS _))).trans (hn b o e)) g⟩
 refine qi init fun f s' z => ?_
 cases f <;> first | exact z.elim | skip
 obtain ⟨rfl, z⟩ := z
 refine zf ?_
 show wpC _ _ (if (Value.none != Value.none) = true then _ else _) _ _
 rw [if_neg (by simp)]
 exact zf z
end
end
section
set_option maxHeartbeats 2000000
theorem AI : typeLookup (.type "bytearray") "__bytes__" = pure none := by rw [typeLookup_type, builtinLookup_eq_fast]; kernel_rfl
theorem AH : typeLookup (.type "bytearray") "__index__" = pure none := by rw [typeLookup_type, builtinLookup_eq_fast]; kernel_rfl
theorem xr : PlainAttrs "bytearray" :=
 ⟨⟨"bytearray.__getattribute__", by rw [typeLookup_type, builtinLookup_eq_fast]; kernel_rfl, by decide +kernel⟩, by rw [typeLookup_type, builtinLookup_eq_fast]; kernel_rfl⟩
theorem YS : typeOf (.builtin "bytearray.append") = pure (.type "method_descriptor") := by show builtinType _ = _; rw [builtinType_eq_fast]; kernel_rfl
section
variable {s s' s₁ : Shared} {Q : KV} {E : KV} {A : Around}

theorem Em {id : String} {full : Bool} {a : Addr} {b : BA} (ho : s.heap.get? a = some (z9 b)) {R : Option (Array UInt8) → Shared → Prop} (h : R (some b) s) : wpAny (model P w) A (Builtin.Bytes.buffer? id (.ref a) full) R E s := by
 have hT : s.TypeIs (.ref a) "bytearray" := ⟨_, ho, rfl⟩
 unfold Builtin.Bytes.buffer?
 refine wpAny_bind (wpAny_specialOf hT jZ ?_)
 have own : ∀ {R : KB}, R true s → wpAny (model P w) A (Builtin.Bytes.slotIsOwn (.ref a) "__buffer__") R E s := fun {R} h => by
  unfold Builtin.Bytes.slotIsOwn
  refine wpAny_bind (wpAny_specialOf hT jZ ?_)
  show wpAny _ _ (if (!("bytearray.__buffer__".endsWith ("." ++ "__buffer__"))) = true then _ else _) _ _ _
  rw [show "bytearray.__buffer__".endsWith ("." ++ "__buffer__") = true from by decide +kernel]
  show wpAny _ _ (isInstance _ (.type ("bytearray.__buffer__".dropRight ("__buffer__".length + 1)))) _ _ _
  rw [show "bytearray.__buffer__".dropRight ("__buffer__".length + 1) = "bytearray" from by decide +kernel]
  exact wpAny_isInstance hT Qj h
 dsimp only
 refine wpAny_bind (own ?_)
 rw [if_neg (by simp)]
 refine wpAny_bind (wpAny_specialOf hT jZ ?_)
 show wpAny _ _ (Builtin.Bytes.ownRelease (.ref a) >>= fun r => if r = true then _ else Builtin.Bytes.payload _ >>= fun x => pure (some x)) _ _ _
 refine wpAny_bind (Jx ho rfl ?_)
 rw [if_neg (by simp)]
 have pay : ∀ {R : Array UInt8 → Shared → Prop}, R b s → wpAny (model P w) A (Builtin.Bytes.payload (.ref a)) R E s := fun {R} h => by
  unfold Builtin.Bytes.payload Builtin.Bytes.payload?
  refine wpAny_bind (wpAny_bind (wpAny_load ho ?_))
  exact wpAny_pure (wpAny_pure h)
 exact wpAny_bind (pay (wpAny_pure h))
theorem AA {a : Addr} {b : BA} (ho : s.heap.get? a = some (z9 b)) (hz : b.size ≤ 1000000) (h : ∀ t k, Q (.bytes b t) { s with toks := k }) : wpAny (model P w) A (call (.type "bytes") [.ref a]) Q E s := by
 have hT : s.TypeIs (.ref a) "bytearray" := ⟨_, ho, rfl⟩
 refine callType_codes (Q₁ := fun obj s₁ => s₁.TypeIs obj "bytes" ∧ Q obj s₁) F.bm_called (F.bm_typeCall _) F.entry_object_init ?_ fun obj s₁ h1 => ?_
 ·refine codeAny_of_tree ?_
  show wpAny _ A.in1.in1 (do checkBuiltinCall "bytes.__new__" ⟨[.type "bytes", .ref a], []⟩; again (.builtin "bytes.__new__" ⟨[.type "bytes", .ref a], []⟩)) _ _ s
  refine wpAny_bind (wpAny_of_eq (F.bm_newCall _) (wpAny_pure ⟨plainId_quiet F.bm_plain _, codeAny_builtin F.bm_entry ?_⟩))
  rw [Around.under_plainId F.bm_plain _]
  unfold Builtin.«bytes.__new__»
  refine wpAny_bind (wpAny_of_eq (a := true) rfl ?_)
  refine bm_if_false rfl ?_
  refine wpAny_bind (wpAny_of_eq F.bm_sub ?_)
  refine bm_if_false rfl ?_
  refine wpAny_bind (wpAny_of_eq (F.bm_bind _) ?_)
  refine wpAny_bind (wpAny_of_eq (a := ()) rfl ?_)
  refine wpAny_bind (wpAny_of_eq (a := ()) rfl ?_)
  refine bm_if_false rfl ?_
  refine wpAny_bind (wpAny_specialOf hT AI ?_)
  refine wpAny_bind (wpAny_bind ?_)
  show wpAny _ _ (load a >>= _) _ _ _
  refine wpAny_bind (wpAny_load ho ?_)
  refine wpAny_pure (wpAny_pure ?_)
  refine bm_if_false rfl ?_
  refine wpAny_bind (wpAny_specialOf hT AH ?_)
  refine bm_if_true rfl ?_
  first
   | show wpAny _ _ (Builtin.Bytes.buffer? "bytes.__new__" (.ref a) true >>= _) _ _ _
   | (refine wpAny_bind ?_; show wpAny _ _ (Builtin.Bytes.buffer? "bytes.__new__" (.ref a) true >>= _) _ _ _)
  refine wpAny_bind (Em ho ?_)
  dsimp only
  refine wpAny_bind (wpAny_rule ?_)
  refine wpAny_bind (wpAny_mkBytes ?_ (by rw [sizeLine_eq]; omega))
  first
   | exact wpAny_pure ⟨PySem.W.typeIs_bytes _ _ _, h _ _⟩
   | exact wpAny_bind (wpAny_pure ⟨PySem.W.typeIs_bytes _ _ _, h _ _⟩)
   | exact wpAny_bind (wpAny_pure (wpAny_pure ⟨PySem.W.typeIs_bytes _ _ _, h _ _⟩))
 ·exact ⟨h1.1, F.args_object_init_2 obj _, object_init_meets F.bm_called.init.lookup F.bm_called.made (by decide) P w A.in1 _ s₁ ⟨h1.1, rfl, h1.2⟩⟩
end
end
section
set_option maxHeartbeats 2000000
theorem jV : Slot "bytearray" (dunderI "add") "bytearray.__iadd__" := xS
theorem ba_add : typeLookup (.type "bytearray") (dunder "add") = pure (some (.builtin "bytearray.__add__")) := by rw [typeLookup_type, builtinLookup_eq_fast]; kernel_rfl
theorem ba_radd : typeLookup (.type "bytearray") (dunderR "add") = pure none := by rw [typeLookup_type, builtinLookup_eq_fast]; kernel_rfl
theorem by_radd : typeLookup (.type "bytes") (dunderR "add") = pure none := by rw [typeLookup_type, builtinLookup_eq_fast]; kernel_rfl
theorem DN : fillsNumberSlot (.type "bytearray") "add" = pure false := PySem.fillsNumberSlot_seq (id := "bytearray.__add__") (r := none) ba_add (by decide +kernel) ba_radd rfl
theorem DM : fillsNumberSlot (.type "bytes") "add" = pure false := PySem.fillsNumberSlot_seq (id := "bytes.__add__") (r := none) FB.slot_bytes_add.lookup (by decide +kernel) by_radd rfl
theorem QG : seqSlot? (.type "bytearray") (dunderI "add") = pure (some (.builtin "bytearray.__iadd__")) := PySem.seqSlot_of jV.lookup (by decide +kernel)
section
variable {s s' s₁ : Shared} {Q : KV} {E : KV} {A : Around}

theorem Es {a : Addr} {b : BA} {i : Int} {u : Tok} (ho : s.heap.get? a = some (z9 b)) (h0 : 0 ≤ i) (h1 : i < 256) (hz : b.size ≤ 10000)
  (h : ∀ h', Heap.SameBut a s.heap h' → h'.get? a = some (z9 (b.push i.toNat.toUInt8)) → Q .none { s with heap := h' }) : wpC (model P w) A (call (.builtin "bytearray.append") [.ref a, .int i u]) Q s := by
 have hT : s.TypeIs (.ref a) "bytearray" := ⟨_, ho, rfl⟩
 refine jg (ql yX hT j4 (jU _ _) (by kernel_rfl) ?_)
 unfold Builtin.«bytearray.append»
 refine ze (m := selfAndOne _ _) (wpAny_of_eq (a := (.ref a, .int i u)) rfl ?_)
 have bv : ∀ {R : UInt8 → Shared → Prop}, R i.toNat.toUInt8 s → wpAny (model P w) A.in1 (Builtin.Bytes.byteValue (.int i u)) R NoE s := fun {R} h => by
  unfold Builtin.Bytes.byteValue
  refine wpAny_bind (m := asIndex _) (wpAny_of_eq (a := i) rfl ?_)
  have e : (decide (i < 0) || decide (i ≥ 256)) = false := by simp; omega
  show wpAny _ _ (if (decide (i < 0) || decide (i ≥ 256)) = true then _ else pure i.toNat.toUInt8) _ _ _
  rw [e, if_neg (by simp)]
  exact wpAny_pure h
 refine ze (bv ?_)
 refine zb (JX ho ?_)
 exact ze (YO ho (by rw [Array.size_push]; omega) fun h' sb g => zf ⟨.none, rfl, h h' sb g⟩)
theorem iadd_ba {a : Addr} {b c : BA} {u : Tok} (ho : s.heap.get? a = some (z9 b)) (hz : b.size + c.size ≤ 10000)
  (h : ∀ h', Heap.SameBut a s.heap h' → h'.get? a = some (z9 (b ++ c)) → Q (.ref a) { s with heap := h' }) : wpC (model P w) A (inplaceOp .Add (.ref a) (.bytes c u)) Q s := by
 have hT : s.TypeIs (.ref a) "bytearray" := ⟨_, ho, rfl⟩
 unfold inplaceOp
 refine zg ?_
 have hfi : fillsInplaceSlot (.type "bytearray") "add" (Operator.Add == .Add) = pure false := by
  unfold fillsInplaceSlot
  show (typeLookup (.type "bytearray") (dunderI "add") >>= fun fi => pure (fi.isSome && !isSeqSlot fi)) = pure false
  rw [jV.lookup]
  show (pure (true && !isSeqSlot (some (.builtin "bytearray.__iadd__"))) : Sem Bool) = _
  rw [show isSeqSlot (some (.builtin "bytearray.__iadd__")) = true from by decide +kernel]; rfl
 refine ze (wpAny_typeOf hT (ze (wpAny_of_eq hfi ?_)))
 show wpC _ A (if false = true then _ else _) Q s
 rw [if_neg Bool.false_ne_true]
 have b1 : ∀ {R : Option Value → Shared → Prop}, R none s → wpAny (model P w) A (binaryOp1 "add" (.ref a) (.bytes c u)) R NoE s := fun {R} h => by
  unfold binaryOp1
  refine wpAny_bind (wpAny_typeOf hT (wpAny_bind (wpAny_typeOf (typeIs_bytes s c u) (wpAny_bind (wpAny_of_eq DN (wpAny_bind ?_))))))
  refine wpAny_of_eq DM ?_
  exact (wpAny_pure h : wpAny (model P w) A (pure none) R NoE s)
 refine ze (m := binaryOp1 _ _ _) (b1 ?_)
 refine ze (wpAny_of_eq QG ?_)
 dsimp only
 refine ze (wpAny_rule ?_)
 refine jg (ql jV hT xB (xk _ _) (by kernel_rfl) ?_)
 unfold Builtin.«bytearray.__iadd__»
 refine ze (m := slotArgs _ _ _) (wpAny_of_eq (a := (.ref a, [.bytes c u])) rfl ?_)
 have tk : ∀ {R : Option (Array UInt8 × Option Value) → Shared → Prop} {A : Around}, R (some (c, none)) s → wpAny (model P w) A (Builtin.Bytes.takeBufferQuiet? "bytearray.__iadd__" (.bytes c u) 0) R NoE s := fun {R A} h => by
  unfold Builtin.Bytes.takeBufferQuiet?
  refine wpAny_bind (wpAny_attempt ?_)
  unfold Builtin.Bytes.takeBuffer?
  refine wpAny_bind (wpAny_specialOf (typeIs_bytes s c u) yL ?_)
  have own : ∀ {R : KB} {E : KV}, R true s → wpAny (model P w) A (Builtin.Bytes.slotIsOwn (.bytes c u) "__buffer__") R E s := fun {R E} h => by
   unfold Builtin.Bytes.slotIsOwn
   refine wpAny_bind (wpAny_specialOf (typeIs_bytes s c u) yL ?_)
   show wpAny _ _ (if (!("bytes.__buffer__".endsWith ("." ++ "__buffer__"))) = true then _ else _) _ _ _
   rw [show "bytes.__buffer__".endsWith ("." ++ "__buffer__") = true from by decide +kernel]
   show wpAny _ _ (isInstance _ (.type ("bytes.__buffer__".dropRight ("__buffer__".length + 1)))) _ _ _
   rw [show "bytes.__buffer__".dropRight ("__buffer__".length + 1) = "bytes" from by decide +kernel]
   exact wpAny_isInstance (typeIs_bytes s c u) PySem.F.sub_bytes_bytes h
  dsimp only
  refine wpAny_bind (own ?_)
  rw [if_neg (by simp)]
  refine wpAny_bind (wpAny_specialOf (typeIs_bytes s c u) yL ?_)
  show wpAny _ _ (Builtin.Bytes.buffer? _ _ _ >>= fun x => _) _ _ _
  exact wpAny_bind (ye (wpAny_pure (wpAny_pure h)))
 refine ze (tk ?_)
 dsimp only
 show wpC _ _ (if (!c.isEmpty) = true then _ else _) _ _
 have pay : ∀ {R : Array UInt8 → Shared → Prop}, R b s → wpAny (model P w) A.in1 (Builtin.Bytes.payload (.ref a)) R NoE s := fun {R} h => by
  unfold Builtin.Bytes.payload Builtin.Bytes.payload?
  refine wpAny_bind (wpAny_bind (wpAny_load ho ?_))
  exact wpAny_pure (wpAny_pure h)
 have tail : wpC (model P w) A.in1 (Builtin.Bytes.payload (.ref a) >>= fun x => if Builtin.Bytes.tooLong (x.size + c.size) = true then (do unsupported "bytearray.__iadd__:memory"; Builtin.Bytes.write (.ref a) fun x => x ++ c; ret (.ref a)) else (do Builtin.Bytes.write (.ref a) fun x => x ++ c; ret (.ref a))) (xi Q) s := by
  refine ze (pay ?_)
  rw [show Builtin.Bytes.tooLong (b.size + c.size) = false from by simp [Builtin.Bytes.tooLong, sizeLine_eq]; omega, if_neg (by simp)]
  exact ze (YO ho (by rw [Array.size_append]; omega) fun h' sb g => zf ⟨.ref a, rfl, h h' sb g⟩)
 split
 ·show wpC _ _ (if false = true then _ else _) _ _
  rw [if_neg (by simp)]
  exact zb (JX ho tail)
 ·exact tail
end
end
section
section
variable {s s' s₁ : Shared} {Q : KV} {E : KV} {A : Around}
section
variable {R : Type} (an : Ans R) {args : List PV} {as : List Value} {C : PV → za → R}
theorem lenV_at (S : St w K base Z μ σ s) {x : PV} {a : Value} {n : Nat} (r : RV w Z μ s.heap x a) (e : lenV σ x = some n) (hz : n ≤ 1000000) (h : ∀ k, Q (.int n (s.toks + 1)) { s with toks := k }) : wpAny (model P w) A (call (.builtin "len") [a]) Q E s := by
 have hl : (n : Int) < 2 ^ 63 := Int.lt_of_le_of_lt (Int.ofNat_le.mpr hz) (by decide)
 have lists : ((ym σ x).bind fun vs => some vs.length) = some n → wpAny (model P w) A (call (.builtin "len") [a]) Q E s := fun e => by
  obtain ⟨vs, hv, e⟩ := zL e
  obtain ⟨b, its, m, rfl, g, q⟩ := z4 S r hv
  rw [← q.size] at e
  exact len_list (zE g) (by rw [e]; exact hl) (by rw [e]; exact h _)
 rcases x <;> first | exact lists e | skip
 ·rename_i b
  obtain ⟨t, rfl⟩ := r.inv
  have e := Option.some.inj e
  rw [Array.length_toList] at e
  rw [← e] at h hz
  exact PySem.W.len_bytes (Nat.le_trans hz (by decide)) (h _)
 ·obtain ⟨b, its, m, rfl, g, q⟩ := r.tupAt
  have e := q.size.trans (Option.some.inj e)
  exact len_tuple (z8 g) (by rw [e]; exact hl) (by rw [e]; exact h _)
theorem max_int {a b : Int} {t u : Tok} : (if b > a then Value.int b u else Value.int a t) = .int (ix a b) (if b > a then u else t) := by
 unfold ix
 by_cases q : a < b
 ·rw [if_pos q, if_pos q, decide_eq_true q]
 ·rw [if_neg q, if_neg q, decide_eq_false q]
theorem min_int {a b : Int} {t u : Tok} : (if b < a then Value.int b u else Value.int a t) = .int (mn a b) (if b < a then u else t) := by
 unfold mn
 by_cases q : b < a
 ·rw [if_pos q, if_pos q, decide_eq_true q]
 ·rw [if_neg q, if_neg q, decide_eq_false q]
section
variable (hk : Low K base) (S : St w K base Z μ σ s) {x : PV} {a : Value} (r : RV w Z μ s.heap x a) (H : Ret w K base Z μ s (fun v σ => an.I (C v σ)) Q)
include S r H
theorem cb_int (c : an.I (Db an x C σ)) : wpAny (model P w) A (call (.type "int") [a]) Q E s := by
 rcases x <;> first | exact an.no c | skip
 ·rename_i b
  rw [show a = _ from r.inv]
  refine call_int_bool ?_
  rw [show (if b = true then (1 : Int) else 0) = b2i b by cases b <;> rfl]
  exact H.tok S c .int
 ·obtain ⟨t, rfl⟩ := r.inv
  exact call_int_int (H.here S c .int)
include hk
theorem cb_list {vs : List PV} (hv : seqV σ x = some vs) (c : an.I (chk an (Nat.ble vs.length 1000000) (C (.loc σ.length) (σ ++ [.list vs])))) : wpAny (model P w) A (call (.type "list") [a]) Q E s := by
 obtain ⟨hz, c⟩ := (zk an).mp c
 obtain ⟨b, its, m, T, hT, rfl, g, q⟩ := seqV_at S r hv
 refine call_list_seq b hT g rfl rfl (fun h' c' gr hn => ?_) (by rw [sizeLine_eq, q.size]; exact Nat.le_trans (zu hz) (by decide))
 have L := CG S gr s.heap.objs.size
 obtain ⟨S', X⟩ := S.new (k := s.toks) (c := .list vs) hk gr (zS _) (.list hn (q.lift L))
 exact H _ _ _ _ _ _ c S' (X _) (.loc (S.at_end _))
theorem Gq (hh : A.handled = none) (c : an.I (match ym σ x with
   | some vs => chk an (Nat.ble vs.length 1000000) (zr an.bad (CM vs) fun l => C (.bytes (byteArr l)) σ)
   | none => zr an.bad x.l? fun l => zr an.bad (σ[l]?.bind Eo) fun b => chk an (Nat.ble b.size 1000000) (C (.bytes b) σ))) : wpAny (model P w) A (call (.type "bytes") [a]) Q NoE s := by
 cases hv : ym σ x with
 | some vs =>
  rw [hv] at c
  obtain ⟨hz, c⟩ := (zk an).mp c
  obtain ⟨l, hl, c⟩ := an.om c
  obtain ⟨b, its, m, rfl, g, q⟩ := z4 S r hv
  obtain ⟨h1, h2⟩ := ints_at q hl
  exact call_bytes_ints (vs := its.toList) (by rw [Array.toArray_toList]; exact zE g) h1 h2 (by rw [sizeLine_eq, ← q.length]; exact Nat.le_trans (zu hz) (by decide)) hh fun h' t k gr => H.grow hk S gr c .bytes
 | none =>
  rw [hv] at c
  obtain ⟨l, hl, c⟩ := an.om c
  obtain ⟨b, hb, c⟩ := an.om c
  obtain ⟨hz, c⟩ := (zk an).mp c
  obtain ⟨d, hm, rfl⟩ := r.l hl
  exact AA (S.barAt hb hm) (zu hz) fun t k => H.tok S c .bytes
end
theorem Az (hk : Low K base) {k : BI} (hh : A.handled = none) (S : St w K base Z μ σ s) (ras : RVs w Z μ s.heap args as) (c : an.I (callB an σ k args C)) (H : Ret w K base Z μ s (fun v σ => an.I (C v σ)) Q) :
  wpC (model P w) A (call k.val as) Q s := by
 rcases k <;> first | exact an.no c | skip
 ·obtain ⟨x, a, r, c, rfl⟩ := qS an c ras
  obtain ⟨n, hn, c⟩ := an.om c
  obtain ⟨hz, c⟩ := (zk an).mp c
  exact .of (lenV_at S r hn (zu hz) fun k => H.tok S c .int)
 ·obtain ⟨x, y, a, b, r, r2, c, rfl⟩ := xQ an c ras
  obtain ⟨i, hi, c⟩ := an.om c
  obtain ⟨j, hj, c⟩ := an.om c
  obtain ⟨t, rfl⟩ := r.i hi
  obtain ⟨u, rfl⟩ := r2.i hj
  exact .of (max_two_ints hh fun h' tk g => by rw [max_int]; exact H.grow hk S g c .int)
 ·obtain ⟨x, y, a, b, r, r2, c, rfl⟩ := xQ an c ras
  obtain ⟨i, hi, c⟩ := an.om c
  obtain ⟨j, hj, c⟩ := an.om c
  obtain ⟨t, rfl⟩ := r.i hi
  obtain ⟨u, rfl⟩ := r2.i hj
  exact .of (min_two_ints hh fun h' tk g => by rw [min_int]; exact H.grow hk S g c .int)
 ·obtain ⟨x, a, r, c, rfl⟩ := qS an c ras
  exact .of (cb_int an S r H c)
 ·obtain ⟨x, a, r, c, rfl⟩ := qS an c ras
  obtain ⟨vs, hv, c⟩ := an.om c
  exact .of (cb_list an hk S r H hv c)
 ·obtain ⟨x, a, r, c, rfl⟩ := qS an c ras
  obtain ⟨vs, hv, c⟩ := an.om c
  rw [PV.t?_eq hv] at r
  obtain ⟨b, its, m, rfl, g, q⟩ := r.tupAt
  exact .of (call_tuple_same (z8 g) (H.here S c r))
 ·obtain ⟨x, a, r, c, rfl⟩ := qS an c ras
  exact .of (Gq an hk S r H hh c)
 ·cases args with
  | nil => rw [ras.nil_of]; exact Gz fun h' g hn => Fm hk H S g (zS _) hn c
  | cons _ _ => exact an.no c
end
end
end
section
inductive MK where
 | lAppend | lExtend | lPop | aAppend | dGet | bFind | bStarts | bRepl | bSplit | tIndex
noncomputable def MK.id : MK → String
 | .lAppend => "list.append" | .lExtend => "list.extend" | .lPop => "list.pop" | .aAppend => "bytearray.append" | .dGet => "dict.get"
 | .bFind => "bytes.find" | .bStarts => "bytes.startswith" | .bRepl => "bytes.replace" | .bSplit => "bytes.split" | .tIndex => "tuple.index"
noncomputable def MK.name : MK → Str
 | .lAppend => "append" | .lExtend => "extend" | .lPop => "pop" | .aAppend => "append" | .dGet => "get"
 | .bFind => "find" | .bStarts => "startswith" | .bRepl => "replace" | .bSplit => "split" | .tIndex => "index"
noncomputable def MK.type : MK → String
 | .lAppend => "list" | .lExtend => "list" | .lPop => "list" | .aAppend => "bytearray" | .dGet => "dict"
 | .bFind => "bytes" | .bStarts => "bytes" | .bRepl => "bytes" | .bSplit => "bytes" | .tIndex => "tuple"
def xZ (x : Str) : List MK → Option MK
 | [] => none
 | m :: r => match sq m.name x with | true => some m | false => xZ x r
def pickC (x : Str) : zU → Option MK
 | .list _ => xZ x [.lAppend, .lExtend, .lPop]
 | .dict _ => xZ x [.dGet]
 | .barr _ => xZ x [.aAppend]
 | _ => .none
def Fs (σ : za) (v : PV) (x : Str) : Option MK := match v with
 | .bytes _ => xZ x [.bFind, .bStarts, .bRepl, .bSplit]
 | .tup _ => xZ x [.tIndex]
 | .dict _ => xZ x [.dGet]
 | .loc l => σ[l]?.bind (pickC x)
 | _ => none

def C1 (b : BA) : List PV → Option Nat
 | [] => none
 | v :: r => v.y?.bind fun c => (match xq c b with | true => some 0 | false => (C1 b r).bind fun n => some (n + 1))
section
variable {R : Type} (an : Ans R)
def B8 (σ : za) (args : List PV) (k : Nat → List PV → PV → R) : R := BU an args fun v x => zr an.bad v.l? fun l => zr an.bad (σ[l]?.bind Ji) fun vs => k l vs x
def twoB (args : List PV) (k : Array UInt8 → Array UInt8 → R) : R := BU an args fun v x => zr an.bad v.y? fun b => zr an.bad x.y? fun c => k b c
def jT (σ : za) (m : MK) (args : List PV) (C : PV → za → R) : R := match m with
 | .lAppend => B8 an σ args fun l vs x => chk an (Nat.ble vs.length 1000000) (C .none (σ.set l (.list (vs ++ [x]))))
 | .lExtend => B8 an σ args fun l vs x => zr an.bad (ym σ x) fun ws => chk an (Nat.ble (vs.length + ws.length) 1000000) (C .none (σ.set l (.list (vs ++ ws))))
 | .lPop => B8 an σ args fun l vs x => zr an.bad x.i? fun k => chk an (Nat.ble vs.length 1000000) (an.opN (idx vs.length k) fun j => an.opV vs[j]? fun v => C v (σ.set l (.list (vs.eraseIdx j))))
 | .aAppend => BU an args fun v x => zr an.bad v.l? fun l => zr an.bad x.i? fun k => zr an.bad (σ[l]?.bind Eo) fun b => chk an (Nat.ble b.size 10000 && (decide (0 ≤ k) && decide (k < 256))) (C .none (σ.set l (.barr (b.push k.toNat.toUInt8))))
 | .dGet => arg3 an args fun x k d => zr an.bad (B1 σ x) fun es => zr an.bad (bOf (keysOf k es) (some (Am es k))) fun o => (match o with | some v => C v σ | none => C d σ)
 | .bFind => twoB an args fun b c => C (.int (bFind b c)) σ
 | .bStarts => twoB an args fun b c => C (.bool (bStarts b c)) σ
 | .bRepl => arg3 an args fun v x y => zr an.bad v.y? fun b => zr an.bad x.y? fun c => zr an.bad y.y? fun d => chk an (Nat.ble (b.size + (AJ b c).length * d.size) 10000 && Nat.ble (bRepl b c d).size 10000) (C (.bytes (bRepl b c d)) σ)
 | .bSplit => twoB an args fun b c => chk an (!c.isEmpty && (Nat.ble (bSplit b c).length 10000 && (bSplit b c).all fun x => Nat.ble x.size 10000)) (C (.list ((bSplit b c).map .bytes)) σ)
 | .tIndex => BU an args fun v x => zr an.bad v.t? fun vs => zr an.bad x.y? fun b => chk an (Nat.ble vs.length 10000) (zr an.bad (C1 b vs) fun n => C (.int n) σ)
end

theorem Xs : typeOf (.builtin "bytes.find") = pure (.type "method_descriptor") := by show builtinType _ = _; rw [builtinType_eq_fast]; kernel_rfl
theorem Xr : typeOf (.builtin "bytes.replace") = pure (.type "method_descriptor") := by show builtinType _ = _; rw [builtinType_eq_fast]; kernel_rfl
theorem JB : typeOf (.builtin "bytes.split") = pure (.type "method_descriptor") := by show builtinType _ = _; rw [builtinType_eq_fast]; kernel_rfl

section
variable {s s' s₁ : Shared} {Q : KV} {E : KV} {A : Around}

theorem JY {x : Str} {T : String} {m : MK} : ∀ {l : List MK}, (l.all fun m => m.type == T) = true → xZ x l = some m → m.type = T ∧ m.name = x := by
 intro l
 induction l with
 | nil => exact fun _ h => no h
 | cons a r ih =>
  intro ht h
  rw [List.all_cons] at ht
  unfold xZ at h
  cases e : sq a.name x with
  | true => rw [e] at h; rw [← Option.some.inj h]; exact ⟨beq_iff_eq.mp (bl ht), yR.mp e⟩
  | false => rw [e] at h; exact ih (br ht) h
theorem methT {a : Value} {x : Str} {m : MK} {pl : Sem Bool} {QM : Value × List Value → Shared → Prop} {T : String} (hT : s.TypeIs a T) (hd : ∀ b, a = .ref b → ∃ o, s.heap.get? b = some o ∧ o.dict = none) (e : m.type = T ∧ m.name = x) (h : QM (.builtin m.id, [a]) s) : wpAny (model P w) A (getMethod a x pl) QM E s := by
 obtain ⟨rfl, rfl⟩ := e
 rcases m
 ·exact getMethod_builtin hT F.plainAttrs_list F.slot_list_append F.type_list_append hd h
 ·exact getMethod_builtin hT F.plainAttrs_list F.slot_list_extend F.type_list_extend hd h
 ·exact getMethod_builtin hT F.plainAttrs_list F.slot_list_pop F.type_list_pop hd h
 ·exact getMethod_builtin hT xr yX YS hd h
 ·exact getMethod_builtin hT F.plainAttrs_dict F.slot_dict_get F.type_dict_get hd h
 ·exact getMethod_builtin hT FB.plainAttrs_bytes xc Xs hd h
 ·exact getMethod_builtin hT FB.plainAttrs_bytes FB.slot_bytes_startswith FB.type_bytes_startswith hd h
 ·exact getMethod_builtin hT FB.plainAttrs_bytes ji Xr hd h
 ·exact getMethod_builtin hT FB.plainAttrs_bytes jI JB hd h
 ·exact getMethod_builtin hT F.plainAttrs_tuple F.slot_tuple_index F.type_tuple_index hd h
theorem QX {b : Addr} {o : Obj} {T : String} {x : Str} {m : MK} {pl : Sem Bool} {QM : Value × List Value → Shared → Prop} (g : s.heap.get? b = some o) (hc : o.cls = .type T) (hd : o.dict = none) {l : List MK} (hl : (l.all fun m => m.type == T) = true) (e : xZ x l = some m) (h : QM (.builtin m.id, [.ref b]) s) : wpAny (model P w) A (getMethod (.ref b) x pl) QM E s :=
 methT ⟨o, g, hc⟩ (fun c hc => by cases hc; exact ⟨o, g, hd⟩) (JY hl e) h
theorem Fr (S : St w K base Z μ σ s) {v : PV} {a : Value} {x : Str} {m : MK} {pl : Sem Bool} {QM : Value × List Value → Shared → Prop} (r : RV w Z μ s.heap v a) (e : Fs σ v x = some m) (h : QM (.builtin m.id, [a]) s) : wpAny (model P w) A (getMethod a x pl) QM E s := by
 have r := r.inv
 rcases v <;> first | exact no e | skip
 ·obtain ⟨t, rfl⟩ := r
  exact methT (typeIs_bytes _ _ _) (fun b e => nomatch e) (JY (T := "bytes") (by decide) e) h
 ·obtain ⟨b, its, n, _, g, q, rfl⟩ := r
  exact QX g rfl rfl (by decide) e h
 ·obtain ⟨b, ds, n, _, g, q, rfl⟩ := r
  exact QX g rfl rfl (by decide) e h
 ·obtain ⟨b, hm, rfl⟩ := r
  obtain ⟨c, hc, e⟩ := zp e
  have g := (S.cells _ c b hc hm).inv
  rcases c <;> first | exact no e | skip
  ·obtain ⟨its, n, g, _⟩ := g; exact QX g rfl rfl (by decide) e h
  ·obtain ⟨ds, n, g, _⟩ := g; exact QX g rfl rfl (by decide) e h
  ·exact QX g rfl rfl (by decide) e h
end
end
section
section
variable {s s' s₁ : Shared} {Q : KV} {E : KV} {A : Around}

theorem Yo (f : Array Value → Array Value) (its : Array Value) (n : Nat) : ∃ n', Obj.mapSeq f (yv its n) = yv (f its) n' := ⟨_, rfl⟩
theorem Ret.turnList (hk : Low K base) {C : KD} (H : Ret w K base Z μ s C Q) (S : St w K base Z μ σ s) {l : Nat} {a : Addr} {its : Array Value} {n : Nat} {f : Array Value → Array Value} {vs : List PV} {v : PV} {b : Value} {k : Nat} (hm : μ[l]? = some a) (g : s.heap.get? a = some (yv its n))
  (r : RVs w Z μ s.heap vs (f its).toList) (rb : RV w Z μ s.heap v b) (c : C v (σ.set l (.list vs))) : Q b { s with heap := s.heap.update a (Obj.mapSeq f), toks := k } := by
 obtain ⟨n', hn⟩ := Yo f its n
 have D : (s.heap.update a (Obj.mapSeq f)).get? a = some (yv (f its) n') := by rw [Heap.get?_update_self _ g (by rw [hn]; rfl), hn]
 have SB := Heap.SameBut.update s.heap a (Obj.mapSeq f)
 have L := S.liftBut hm SB
 obtain ⟨S', X⟩ := S.put (k := k) hk hm SB (.list D (r.lift L))
 exact H _ _ _ _ _ _ c S' (X _) (rb.lift L)
theorem RVs.erase {h : Heap} {vs : List PV} {as : List Value} (r : RVs w Z μ h vs as) (n : Nat) : RVs w Z μ h (vs.eraseIdx n) (as.eraseIdx n) := by
 induction vs generalizing as n with
 | nil => rw [r.nil_of]; exact .nil
 | cons v vs ih =>
  obtain ⟨a, as, x, q, rfl⟩ := r.inv
  cases n with
  | zero => exact q
  | succ n => exact .cons x (ih q n)
theorem DW {t : Addr} {its : Array Value} {k : Nat} {b : BA} {u : Tok} {n : Nat} {vs : List PV} (g : s.heap.get? t = some (qb its k)) (r : RVs w Z μ s.heap vs its.toList) (e : C1 b vs = some n) (hz : vs.length ≤ 10000)
  (h : Q (.int n s.toks) { s with toks := s.toks + 1 }) : wpAny (model P w) A (Builtin.«tuple.index» ⟨[.ref t, .bytes b u], []⟩) (xi Q) E s := by
 unfold Builtin.«tuple.index»
 refine YI rfl (by simp) (by simp) ?_
 refine wpAny_bind (tupleItemsOf_ (z8 g) ?_)
 dsimp only
 refine wpAny_bind (wpAny_pure ?_)
 refine wpAny_bind (wpAny_pure ?_)
 refine wpAny_bind ?_
 rw [Std.Legacy.Range.forIn_eq_forIn_range']
 suffices go : ∀ (Fb : Nat → Option PySem.Fin × Unit → Sem (ForInStep (Option PySem.Fin × Unit))) (G : Option PySem.Fin × Unit → Sem PySem.Fin),
   (∀ i c t' p, its[i]? = some (Value.bytes c t') → Fb i p = (do
       if ← eqBool (Value.bytes c t') (Value.bytes b u) then
         let __do_lift ← retInt (i : Int)
         pure (ForInStep.done (some __do_lift, ()))
        else pure (ForInStep.yield (none, ())))) → (∀ r, G (some r, ()) = pure r) →
   ∀ (vs : List PV) (i m n : Nat), RVs w Z μ s.heap vs (its.toList.drop i) → C1 b vs = some n → vs.length ≤ m →
   Q (.int (((i + n : Nat) : Nat) : Int) s.toks) { s with toks := s.toks + 1 } →
   wpAny (model P w) A (forIn (List.range' i m 1) ((none, ()) : Option PySem.Fin × Unit) Fb) (fun r s' => wpAny (model P w) A (G r) (xi Q) E s') E s by
  refine go _ _ ?_ (fun r => rfl) vs 0 _ n (by simpa using r) e ?_ (by rw [Nat.zero_add]; exact h)
  ·intro i c t' p hi
   simp only [hi]
  ·show vs.length ≤ (min its.size its.size - 0 + 1 - 1) / 1
   rw [Nat.min_self, Nat.div_one, r.size]; exact Nat.le_refl _
 intro Fb G hF hG
 intro vs
 induction vs with
 | nil => intro i m n _ e; cases e
 | cons v vs ih =>
  intro i m n r e hm h
  cases m with
  | zero => exact absurd hm (Nat.not_succ_le_zero _)
  | succ m =>
   obtain ⟨c, hc, e⟩ := zp e
   generalize hl : its.toList.drop i = l at r
   obtain ⟨a, as, r0, rs, rfl⟩ := r.inv
   obtain ⟨t', rfl⟩ := r0.y hc
   have hi : its[i]? = some (.bytes c t') := by rw [← Array.getElem?_toList, ← Nat.add_zero i, ← List.getElem?_drop, hl]; rfl
   have hd : its.toList.drop (i + 1) = as := by rw [← List.drop_drop, hl]; rfl
   rw [List.range'_succ, List.forIn_cons, hF _ _ _ _ hi]
   refine wpAny_bind (wpAny_bind (PySem.W.eqBool_bytes ?_))
   rw [qV]
   cases hb : xq c b with
   | true =>
    rw [hb] at e
    rw [← Option.some.inj e] at h
    refine wpAny_bind (wpAny_bind (wpAny_mkInt (wpAny_pure (wpAny_pure (wpAny_pure ?_)))))
    rw [hG]
    exact wpAny_pure ⟨_, rfl, h⟩
   | false =>
    rw [hb] at e
    obtain ⟨n', hn, e1⟩ := zL e
    rw [← e1] at h
    refine wpAny_pure ?_
    refine ih (i + 1) m n' (by rw [hd]; exact rs) hn (Nat.le_of_succ_le_succ hm) ?_
    rw [Nat.add_right_comm, Nat.add_assoc]; exact h
section
variable {R : Type} (an : Ans R) (hk : Low K base) {args : List PV} {as : List Value} {C : PV → za → R} (S : St w K base Z μ σ s) (ras : RVs w Z μ s.heap args as) (H : Ret w K base Z μ s (fun v σ => an.I (C v σ)) Q)
include S ras
theorem Y3 {k : Nat → List PV → PV → R} {f : Value} (c : an.I (B8 an σ args k))
  (F : ∀ l vs x d b its n, μ[l]? = some d → s.heap.get? d = some (yv its n) → RVs w Z μ s.heap vs its.toList → RV w Z μ s.heap x b → an.I (k l vs x) → wpC (model P w) A (call f [.ref d, b]) Q s) : wpC (model P w) A (call f as) Q s := by
 obtain ⟨v, x, a, b, r, r2, c, rfl⟩ := xQ an c ras
 obtain ⟨l, hl, c⟩ := an.om c
 obtain ⟨vs, hv, c⟩ := an.om c
 obtain ⟨d, hm, rfl⟩ := r.l hl
 obtain ⟨its, n, g, q⟩ := S.listAt hv hm
 exact F l vs x d b its n hm g q r2 c
omit S in
theorem Xt {k : Array UInt8 → Array UInt8 → R} {f : Value} (c : an.I (twoB an args k)) (F : ∀ b c t u, an.I (k b c) → wpC (model P w) A (call f [.bytes b t, .bytes c u]) Q s) : wpC (model P w) A (call f as) Q s := by
 obtain ⟨v, x, a, b, r, r2, c, rfl⟩ := xQ an c ras
 obtain ⟨b, hb, c⟩ := an.om c
 obtain ⟨d, hd, c⟩ := an.om c
 obtain ⟨t, rfl⟩ := r.y hb
 obtain ⟨u, rfl⟩ := r2.y hd
 exact F b d t u c
include H hk
theorem Eh (c : an.I (jT an σ .lAppend args C)) : wpC (model P w) A (call (.builtin "list.append") as) Q s := by
 refine Y3 an S ras c fun l vs x d b its n hm g q r2 c => ?_
 obtain ⟨hz, c⟩ := (zk an).mp c
 refine .of (call_meets F.slot_list_append ⟨_, g, rfl⟩ F.entry_list_append (F.args_list_append_2 _ _) (AutoListH.list_append_list_val_0 _ its n _ (by rw [sizeLine_eq, q.size]; exact Nat.le_trans (zu hz) (by decide))) ⟨g, ?_⟩)
 exact H.turnList hk S hm g (by rw [Array.toList_push]; exact q.append (.cons r2 .nil)) .none c
theorem Eg (c : an.I (jT an σ .lExtend args C)) : wpC (model P w) A (call (.builtin "list.extend") as) Q s := by
 refine Y3 an S ras c fun l vs x d b its n hm g q r2 c => ?_
 obtain ⟨ws, hv, c⟩ := an.om c
 obtain ⟨hz, c⟩ := (zk an).mp c
 have hz := zu hz
 obtain ⟨b2, its2, n2, rfl, g2, q2⟩ := z4 S r2 hv
 rw [← q.size, ← q2.size] at hz
 have h1 : its.size + its2.size ≤ sizeLine := Nat.le_trans hz (by rw [sizeLine_eq]; decide)
 refine .of (call_meets F.slot_list_extend ⟨_, g, rfl⟩ F.entry_list_extend (F.args_list_extend_2 _ _) (AutoSeq1.list_extend_list_list_0 _ its n _ its2 n2 ?_ (Nat.le_trans (Nat.le_add_right _ _) h1) (Nat.le_succ_of_le h1)) ⟨g, g2, ?_⟩)
 ·simp only [Builtin.List.listTooLong, sizeLine_eq, Bool.and_eq_true, decide_eq_true_eq]
  omega
 ·exact H.turnList hk S hm g (by rw [Array.toList_append]; exact q.append q2) .none c
theorem cm_pop (c : an.I (jT an σ .lPop args C)) : wpC (model P w) A (call (.builtin "list.pop") as) Q s := by
 refine Y3 an S ras c fun l vs x d b its n hm g q r2 c => ?_
 obtain ⟨k, hk', c⟩ := an.om c
 obtain ⟨t, rfl⟩ := r2.i hk'
 obtain ⟨hz, c⟩ := (zk an).mp c
 obtain ⟨j, hj, c⟩ := an.hN c
 obtain ⟨v, hv, c⟩ := an.hV c
 obtain ⟨h1, h2, h3, _⟩ := qB hj
 obtain ⟨b, hb, rb⟩ := q.get hv
 rw [Array.getElem?_toList] at hb
 refine .of (call_meets F.slot_list_pop ⟨_, g, rfl⟩ F.entry_list_pop (F.args_list_pop_2 _ _) (MeetsSeq.list_pop_at _ its n _ _ j b (by simp only [Builtin.List.listFitsIndex, Bool.and_eq_true, decide_eq_true_eq]; omega) (by rw [q.size]; exact h3) hb (by rw [sizeLine_eq, q.size]; exact Nat.le_trans (zu hz) (by decide))) ⟨g, ?_⟩)
 exact H.turnList hk S hm g (by rw [Array.toList_eraseIdxIfInBounds]; exact q.erase j) rb c
theorem cm_ba (c : an.I (jT an σ .aAppend args C)) : wpC (model P w) A (call (.builtin "bytearray.append") as) Q s := by
 obtain ⟨v, x, a, b, r, r2, c, rfl⟩ := xQ an c ras
 obtain ⟨l, hl, c⟩ := an.om c
 obtain ⟨k, hk', c⟩ := an.om c
 obtain ⟨d, hb, c⟩ := an.om c
 obtain ⟨hz, c⟩ := (zk an).mp c
 obtain ⟨i, hm, rfl⟩ := r.l hl
 obtain ⟨t, rfl⟩ := r2.i hk'
 refine Es (S.barAt hb hm) (dt (bl (br hz))) (dt (br (br hz))) (zu (bl hz)) fun h' sb g' => ?_
 obtain ⟨S', X⟩ := S.put (k := s.toks) hk hm sb (.barr g')
 exact H _ _ _ _ _ _ c S' (X _) .none
omit hk in
theorem cm_get (c : an.I (jT an σ .dGet args C)) : wpC (model P w) A (call (.builtin "dict.get") as) Q s := by
 obtain ⟨x, k, d, a, b, e, r, r2, r3, c, rfl⟩ := Dh an c ras
 obtain ⟨es, hv, c⟩ := an.om c
 obtain ⟨o, ho, c⟩ := an.om c
 obtain ⟨hc, ho⟩ := zQ ho
 obtain ⟨t, ds, n, rfl, g, q, hsm⟩ := YR S r hv
 refine jN (P := P) (w := w) (bl hc) fun {T} _ {knd} kk => ?_
 obtain ⟨kx, hkx⟩ := kk.is k rfl
 have f := REs.find kk hkx (br hc) q
 refine .of (call_meetsIn F.slot_dict_get ⟨_, g, rfl⟩ F.entry_dict_get (F.args_dict_get_3 _ _ _) (meets_dict_get_default knd t (kk.key hkx r2) (beq_eq_false_iff_ne.mpr hsm) e) ⟨_, Jh g (REs.keysOf kk (br hc) q), ?_⟩)
 show Q ((findBy knd.is ds kx).getD e) _
 rw [Yb]
 have ho := Option.some.inj ho
 cases o with
 | none => rw [f.1 ho]; exact H.tok S c r3
 | some v => obtain ⟨en, he, rv⟩ := f.2 v ho; rw [he]; exact H.tok S c rv
omit hk in
theorem cm_repl (c : an.I (jT an σ .bRepl args C)) : wpC (model P w) A (call (.builtin "bytes.replace") as) Q s := by
 obtain ⟨x, k, d, a, b, e, r, r2, r3, c, rfl⟩ := Dh an c ras
 obtain ⟨x, hx, c⟩ := an.om c
 obtain ⟨y, hy, c⟩ := an.om c
 obtain ⟨z, hz, c⟩ := an.om c
 obtain ⟨t, rfl⟩ := r.y hx
 obtain ⟨u, rfl⟩ := r2.y hy
 obtain ⟨v, rfl⟩ := r3.y hz
 obtain ⟨h, c⟩ := (zk an).mp c
 exact .of (jo ji (typeIs_bytes _ _ _) xV (xF _ _ _) (JE (zu (bl h)) (zu (br h)) fun t k => H.tok S c .bytes))
theorem Gj (c : an.I (jT an σ .bSplit args C)) : wpC (model P w) A (call (.builtin "bytes.split") as) Q s := by
 refine Xt an ras c fun b d t u c => ?_
 obtain ⟨h, c⟩ := (zk an).mp c
 exact .of (jo jI (typeIs_bytes _ _ _) qL (qm _ _) (QA (Z := Z) (μ := μ) ((Bool.not_eq_true' _).mp (bl h)) (zu (bl (br h))) (fun x hx => zu (List.all_eq_true.mp (br (br h)) x hx)) fun as k r => H.list hk S (r _) c))
omit hk in
theorem Gk (c : an.I (jT an σ .tIndex args C)) : wpC (model P w) A (call (.builtin "tuple.index") as) Q s := by
 obtain ⟨v, x, a, b, r, r2, c, rfl⟩ := xQ an c ras
 obtain ⟨vs, hv, c⟩ := an.om c
 obtain ⟨d, hd, c⟩ := an.om c
 obtain ⟨hz, c⟩ := (zk an).mp c
 obtain ⟨n, hn, c⟩ := an.om c
 obtain ⟨u, rfl⟩ := r2.y hd
 rw [PV.t?_eq hv] at r
 obtain ⟨t, its, k, rfl, g, q⟩ := r.tupAt
 exact .of (jo F.slot_tuple_index ⟨_, g, rfl⟩ F.entry_tuple_index (F.args_tuple_index_2 _ _) (DW g q hn (zu hz) (H.tok S c .int)))
theorem Yt {m : MK} (c : an.I (jT an σ m args C)) : wpC (model P w) A (call (.builtin m.id) as) Q s := by
 rcases m
 ·exact Eh an hk S ras H c
 ·exact Eg an hk S ras H c
 ·exact cm_pop an hk S ras H c
 ·exact cm_ba an hk S ras H c
 ·exact cm_get an S ras H c
 ·exact Xt an ras c fun b d t u c => .of (jo xc (typeIs_bytes _ _ _) Yd (qR _ _) (BD (H.tok S c .int)))
 ·exact Xt an ras c fun b d t u c => .of (jo FB.slot_bytes_startswith (typeIs_bytes _ _ _) FB.entry_bytes_startswith (FB.args_bytes_startswith_2 _ _) (Xw (H.here S c .bool)))
 ·exact cm_repl an S ras H c
 ·exact Gj an hk S ras H c
 ·exact Gk an S ras H c
end
end
end
section
section
variable {R : Type} (an : Ans R)
def XZ (ev : Expr → za → (PV → za → R) → R) : List (Option Expr) → List Expr → za → (List (PV × PV) → za → R) → R
 | [], vs, σ, C => (match vs with | [] => C [] σ | _ => an.bad)
 | k :: ks, vs, σ, C => zr an.bad k fun k => (match vs with | [] => an.bad | v :: vs => ev k σ fun a σ1 => ev v σ1 fun b σ2 => XZ ev ks vs σ2 fun es σ3 => C ((a, b) :: es) σ3)
def Ga : List (PV × PV) → List (PV × PV) → List (PV × PV)
 | acc, [] => acc
 | acc, e :: es => Ga (dset acc e.1 e.2) es
def dictE (l : Nat) (es : List (PV × PV)) (σ : za) (C : PV → za → R) : R := zr an.bad (σ[l]?.bind dctC) fun ds => match es with
 | e :: es => chk an (ds.isEmpty && keysOf e.1 (e :: es)) (C (.loc l) (σ.set l (.dict (Ga [] (e :: es)))))
 | [] => an.bad
end
def RPs (w : World) (Z : AP) (μ : LA) (h : Heap) : List (PV × PV) → List (Value × Value) → Prop
 | [], vs => vs = []
 | e :: es, vs => ∃ a b r, RV w Z μ h e.1 a ∧ RV w Z μ h e.2 b ∧ RPs w Z μ h es r ∧ vs = (a, b) :: r
section
variable {s s' s₁ : Shared} {Q : KV} {E : KV} {A : Around} {env : Env} {f : Fr0} {ρ : zc}
theorem P_nil {Q : List (Value × Value) → Shared → Prop} (h : Q [] s) : wpC (model P w) A (evalPairs []) Q s := .of (wpAny_pure h)
theorem Qq {k v : Sem Value} {rest : List (Sem Value × Sem Value)} {Q : List (Value × Value) → Shared → Prop}
  (h : wpC (model P w) A k (fun kv s₁ => wpC (model P w) A v (fun vv s₂ => wpC (model P w) A (evalPairs rest) (fun vs s3 => Q ((kv, vv) :: vs) s3) s₂) s₁) s) : wpC (model P w) A (evalPairs ((k, v) :: rest)) Q s := by
 rw [evalPairs]
 refine zb (zi h (fun kv s₁ h₁ => ?_))
 refine zb (zg (zi h₁ (fun vv s₂ h₂ => ?_)))
 exact zb (zg (zi h₂ (fun vs s3 h3 => zf h3)))
theorem JI {R : Type} (an : Ans R) {ev : Expr → za → (PV → za → R) → R} (hev : ∀ e σ C, an.I (ev e σ C) → y4 P w K base f e ρ σ (fun v σ => an.I (C v σ))) (am : Amb A f.dp) (ek : z3 env f) {pos : Pos} (ks : List (Option Expr)) :
  ∀ (vs : List Expr) {σ : za} {C : List (PV × PV) → za → R} {s : Shared} {Z : AP} {μ : LA} {Q : List (Value × Value) → Shared → Prop}, an.I (XZ an ev ks vs σ C) → St w K base Z μ σ s → LR w Z μ base s env ρ →
   (∀ es σ' s' Z' μ' as, an.I (C es σ') → St w K base Z' μ' σ' s' → Ext NoW Z μ s Z' μ' s' → RPs w Z' μ' s'.heap es as → as.length = ks.length → Q as s') → wpC (model P w) A (evalPairs (pairTrees ks vs env pos)) Q s := by
 induction ks with
 | nil =>
  intro vs σ C s Z μ Q c S L H
  cases vs with
  | nil => exact P_nil (H [] _ _ _ _ [] c S (Ext.refl ..) rfl rfl)
  | cons _ _ => exact an.no c
 | cons k ks ih =>
  intro vs σ C s Z μ Q c S L H
  cases k with
  | none => exact an.no c
  | some k =>
   cases vs with
   | nil => exact an.no c
   | cons v vs =>
    refine Qq (hev k _ _ c A env s Z μ _ am ek S L fun a σ1 s₁ Z1 μ1 av c1 S1 X1 r₁ => ?_)
    have L1 := L.ext S X1
    clear c L
    refine zb (hev v _ _ c1 A env s₁ Z1 μ1 _ am ek S1 L1 fun b σ2 s₂ Z2 μ2 bv c2 S2 X2 r2 => zj (zf ?_))
    refine ih vs c2 S2 (L1.ext S1 X2) fun es σ3 s3 Z3 μ3 as c3 S3 X3 r3 hl => ?_
    exact H _ _ _ _ _ ((av, bv) :: as) c3 S3 ((X1.trans X2).trans X3) ⟨av, bv, as, (r₁.later S1 X2).later S2 X3, r2.later S2 X3, r3, rfl⟩ (congrArg (· + 1) hl)

section
variable {T : Type} [DecidableEq T] {knd : KeyKind P w T} {n : Nat} (kk : KK P w knd n)
include kk
theorem RPs.carries {h : Heap} {es : List (PV × PV)} : ∀ {vs : List (Value × Value)}, xu n es = true → RPs w Z μ h es vs → ∃ kvs, Carries knd vs kvs ∧ RK w Z μ h kk.un es kvs := by
 induction es with
 | nil => intro vs _ r; rw [show vs = [] from r]; exact ⟨[], trivial, rfl⟩
 | cons e es ih =>
  intro vs ok r
  obtain ⟨a, b, r, x, y, z, rfl⟩ := r
  obtain ⟨⟨k, hk⟩, ok⟩ := kk.at ok
  obtain ⟨kvs, h1, h2⟩ := ih ok z
  exact ⟨(k, b) :: kvs, ⟨kk.key hk x, rfl, h1⟩, k, b, kvs, hk, y, h2, rfl⟩
theorem RK.merged {h : Heap} {es : List (PV × PV)} : ∀ {kvs : List (T × Value)} {acc : List (PV × PV)} {kacc : List (T × Value)}, RK w Z μ h kk.un es kvs → RK w Z μ h kk.un acc kacc → RK w Z μ h kk.un (Ga acc es) (merged kacc kvs) := by
 induction es with
 | nil => intro kvs acc kacc r ha; rw [show kvs = [] from r]; exact ha
 | cons e es ih =>
  intro kvs acc kacc r ha
  obtain ⟨k, a, r1, hu, hr, ht, rfl⟩ := r
  have := ih ht (ha.set kk hu hr)
  exact this
end
theorem GP {keys : List (Option Expr)} {values : List Expr} {pos : Pos}
  (hall : keys.all (·.isSome) = true) (hl : keys.length = values.length) (h0 : keys ≠ []) (hlen : keys.length ≤ 15)
  (h : wpC (model P w) A (evalPairs (pairTrees keys values env pos)) (fun vs s₁ => wpAny (model P w) A (storeAll s.heap.objs.size vs) (fun _ s₂ => Q (.ref s.heap.objs.size) s₂) NoE s₁)
   { s with heap := s.heap.push { cls := .type "dict", data := .dict #[] } }) :
  wpC (model P w) A (eval (.Dict keys values pos) env) Q s := by
 have hn := pairTrees_length keys values env pos hall hl
 have hp0 : pairTrees keys values env pos ≠ [] := by
  intro he
  rw [he] at hn
  exact h0 (List.length_eq_zero_iff.mp hn.symm)
 rw [arm_eval_Dict, zip_pairTrees keys values env pos hall hl, dictDisplay_pairs _ hp0 (by rw [hn]; exact Nat.lt_of_le_of_lt hlen (by decide))]
 refine zb (zj (zf (zb ?_)))
 unfold subDict
 refine ze (wpAny_alloc ?_)
 refine zb (zg ?_)
 rw [if_pos (by rw [hn]; exact hlen)]
 refine zb (zi h (fun vs s₁ h₁ => ?_))
 refine zg ?_
 exact zb (.of (wpAny_mono h₁ (fun _ s₂ h₂ => zf (zf (zf h₂))) fun _ _ e => e))

theorem Ak {R : Type} (an : Ans R) (hk : Low K base) {l : Nat} {d : Addr} {es : List (PV × PV)} {as : List (Value × Value)} {C : PV → za → R} (S : St w K base Z μ σ s) (hm : μ[l]? = some d) (r : RPs w Z μ s.heap es as) (c : an.I (dictE an l es σ C)) (hz : as.length ≤ 15)
  (H : Ret w K base Z μ s (fun v σ => an.I (C v σ)) Q) : wpAny (model P w) A (storeAll d as) (fun _ s₂ => Q (.ref d) s₂) E s := by
 obtain ⟨ds, hc, c⟩ := an.om c
 cases es with
 | nil => exact an.no c
 | cons e es =>
  obtain ⟨hb, c⟩ := (zk an).mp c
  rw [List.isEmpty_iff.mp (bl hb)] at hc
  refine jN (P := P) (w := w) (bl (br hb)) fun {T} _ {knd} kk => ?_
  obtain ⟨kvs, h1, h2⟩ := r.carries kk (br (br hb))
  obtain ⟨ds, m, g, q⟩ := S.dictAt hc hm
  have hq : ds.toList = [] := q.inv
  have D := Xg (knd := knd) (kvs := []) g (by rw [hq]; exact fun e h => nomatch h) (by rw [hq]; exact .nil) List.nodup_nil
  unfold storeAll
  refine wpAny_storeAll (knd := knd) as kvs [] s _ h1 D (by rw [sizeLine_eq, List.length_nil, Nat.zero_add, h1.length]; exact Nat.le_trans hz (by decide)) fun h' hm' hs' => ?_
  have L := S.liftBut hm hs'
  obtain ⟨ds', m', g', q'⟩ := Jp kk hm' ((RK.merged kk h2 (acc := []) (kacc := []) rfl).lift L)
  obtain ⟨S', X⟩ := S.put (k := s.toks + as.length) hk hm hs' (.dict g' q')
  exact H _ _ _ _ _ _ c S' (X _) (.loc hm)
end
end
section
section
variable {s s' s₁ : Shared} {Q : KV} {E : KV} {A : Around} {env : Env} {f : Fr0} {ρ : zc}
theorem St.own (hk : Low K base) (S : St w K base Z μ σ s) (L : LR w Z μ base s env ρ) {a : Addr} (ha : FS env a) {h' : Heap} {k : Nat} (hs : Heap.SameBut a s.heap h') (hh : ∃ o, h'.get? a = some o) :
  St w K base Z μ σ { s with heap := h', toks := k } ∧ Ext (FS env) Z μ s Z μ { s with heap := h', toks := k } := by
 refine ⟨S.turn (s' := { s with heap := h', toks := k }) hk (C := fun b => b = a) (fun b e => by subst e; exact L.priv b ha) (fun b o e n => (hs.2 b n).trans e),
  fun _ _ e => e, fun _ e => e, fun _ e => .inl e, fun _ e => .inl e, fun b o e _ hw => (hs.2 b fun q => hw (by subst q; exact ha)).trans e, fun b o e => ?_, rfl, rfl⟩
 by_cases q : b = a
 ·subst q; exact hh
 ·exact ⟨o, (hs.2 b q).trans e⟩

noncomputable def ownK : NameKind → Bool
 | .local => true
 | .cell => true
 | _ => false
def Jj (f : Fr0) (x : Str) : Bool := match lk f.kd x with | some k => ownK k | none => false
theorem FE {x : Str} (h : Jj f x = true) : lk f.kd x = some .local ∨ lk f.kd x = some .cell := by
 unfold Jj at h
 cases e : lk f.kd x with
 | none => rw [e] at h; exact nf h
 | some k => rw [e] at h; rcases k <;> first | exact nf h | exact .inl rfl | exact .inr rfl
theorem EY {x y : Str} {v u : PV} (e : lk (put ρ x v) y = some u) : (y = x ∧ v = u) ∨ (y ≠ x ∧ lk ρ y = some u) := by
 rw [Fv] at e
 by_cases hy : y = x
 ·rw [if_pos hy] at e; exact .inl ⟨hy, Option.some.inj e⟩
 ·rw [if_neg hy] at e; exact .inr ⟨hy, e⟩
theorem Ext.fs (x : Ext (· = env.locals) Z μ s Z1 μ1 s₁) : Ext (FS env) Z μ s Z1 μ1 s₁ := x.weak fun b q => .inl (.inl q)
theorem Qz (hk : Low K base) (ek : z3 env f) (S : St w K base Z μ σ s) (L : LR w Z μ base s env ρ) {x : Str} {v : PV} {a : Value} (r : RV w Z μ s.heap v a) {Q : KU}
  (H : ∀ s', St w K base Z μ σ s' → LR w Z μ base s' env (put ρ x v) → Ext (· = env.locals) Z μ s Z μ s' → Q () s') (hkind : env.kindOf x = some .local) : wpAny (model P w) A (storeName env x a) Q E s := by
 obtain ⟨m, hns, hv⟩ := L.ns
 refine wpAny_storeName_local hkind hns (fun h' hn hs => ?_) (by rw [ek.kind]; rfl)
 obtain ⟨S', X⟩ := S.own (k := s.toks + 1) hk L (.inl rfl) hs ⟨_, hn.choose_spec.choose_spec.choose_spec.1⟩
 have T := L.lifts S X
 refine H _ S' ⟨⟨_, hn, fun y u e => ?_⟩, L.priv, fun y c e => ?_, L.inj⟩ ⟨X.pre, X.sub, X.newZ, X.newM, fun b o e _ hw => (hs.2 b hw).trans e, X.has, X.gens, X.os⟩
 ·rcases EY e with ⟨rfl, rfl⟩ | ⟨hy, e⟩
  ·exact .inl ⟨hkind, a, if_pos rfl, r.lift T⟩
  ·rcases hv y u e with ⟨k, b, e1, r1⟩ | ⟨k, c, b, e1, ⟨o, ho, hd⟩, r1⟩
   ·exact .inl ⟨k, b, (if_neg hy).trans e1, r1.lift T⟩
   ·exact .inr ⟨k, c, b, e1, ⟨o, (hs.2 c (L.cel y c e1).1).trans ho, hd⟩, r1.lift T⟩
 ·obtain ⟨hn', v', o, ho, hd⟩ := L.cel y c e
  exact ⟨hn', v', o, (hs.2 c hn').trans ho, hd⟩
section
variable (hk : Low K base) (ek : z3 env f) (S : St w K base Z μ σ s) (L : LR w Z μ base s env ρ) {x : Str} {v : PV} {a : Value} (r : RV w Z μ s.heap v a) {Q : KU}
  (H : ∀ s', St w K base Z μ σ s' → LR w Z μ base s' env (put ρ x v) → Ext (FS env) Z μ s Z μ s' → Q () s')
include hk ek S L r H
theorem Dv (hkind : env.kindOf x = some .cell) : wpAny (model P w) A (storeName env x a) Q E s := by
 obtain ⟨m, hns, hv⟩ := L.ns
 obtain ⟨c, hc⟩ := Option.isSome_iff_exists.mp (ek.cel x ((ek.kindOf x).symm.trans hkind))
 obtain ⟨hne, vc, hcell⟩ := L.cel x c hc
 refine wpAny_storeName_cell ek.kind hkind hc hcell (fun h' hn hs => ?_)
 obtain ⟨S', X⟩ := S.own (k := s.toks) hk L (.inr ⟨x, hc⟩) hs ⟨_, hn.choose_spec.1⟩
 have T := L.lifts S X
 obtain ⟨o, es, ep, ho, q⟩ := hns
 refine H _ S' ⟨⟨m, ⟨o, es, ep, (hs.2 _ fun q => hne q.symm).trans ho, q⟩, fun y u e => ?_⟩, L.priv, fun y d e => ?_, L.inj⟩ X
 ·rcases EY e with ⟨rfl, rfl⟩ | ⟨hy, e⟩
  ·exact .inr ⟨hkind, c, a, hc, hn, r.lift T⟩
  ·rcases hv y u e with ⟨k, b, e1, r1⟩ | ⟨k, d, b, e1, ⟨o, ho, hd⟩, r1⟩
   ·exact .inl ⟨k, b, e1, r1.lift T⟩
   ·exact .inr ⟨k, d, b, e1, ⟨o, (hs.2 d fun q => hy (L.inj y x c (q ▸ e1) hc)).trans ho, hd⟩, r1.lift T⟩
 ·obtain ⟨hn', v', o, ho, hd⟩ := L.cel y d e
  refine ⟨hn', ?_⟩
  by_cases q : d = c
  ·exact q ▸ ⟨_, hn⟩
  ·exact ⟨v', o, (hs.2 d q).trans ho, hd⟩
theorem YU (hx : Jj f x = true) : wpAny (model P w) A (storeName env x a) Q E s :=
 (FE hx).elim (fun h => Qz hk ek S L r (fun s' S' L' X' => H s' S' L' X'.fs) ((ek.kindOf x).trans h)) fun h => Dv hk ek S L r H ((ek.kindOf x).trans h)
end
end
end
section
section
variable {R : Type} (an : Ans R)
def setC (l : Nat) (σ : za) (i v : PV) (C : za → R) : zU → R
 | .list vs => zr an.bad i.i? fun k => an.opN (idx vs.length k) fun j => C (σ.set l (.list (vs.set j v)))
 | .dict es => chk an (keysOf i es && Bc es && Nat.ble es.length 10000) (C (σ.set l (.dict (dset es i v))))
 | _ => an.bad
def setI (σ : za) (o i v : PV) (C : za → R) : R := zr an.bad o.l? fun l => zr an.bad σ[l]? fun c => setC an l σ i v C c
end
section
variable {s s' s₁ : Shared} {Q : KV} {E : KV} {A : Around} {env : Env} {f : Fr0} {ρ : zc}
theorem QF {l : Addr} {items : Array Value} {n : Nat} {k : Int} {t : Tok} {v : Value} {Q : KU} (ho : s.heap.get? l = some (yv items n)) (h0 : 0 ≤ k) (hfit : k < 2 ^ 63) (hn : k < items.size)
  (hQ : Q () { s with heap := s.heap.update l (Obj.mapSeq (·.setIfInBounds k.toNat v)) }) : wpAny (model P w) A (setItem (.ref l) (.int k t) v) Q E s := by
 have hl := zE ho
 unfold setItem
 try with_reducible refine wpAny_holding ?_
 first | refine wpAny_bind (wpAny_pure ?_) | skip
 refine wpAny_bind (wpAny_sequenceKey hl.typeIs (by decide) ?_)
 refine wpAny_bind (wpAny_callSpecial?_slot (name := Str.ofString "__setitem__") hl.typeIs slot_list_setitem
  (wpAny_call_entry slot_list_setitem hl.typeIs entry_list_setitem ?_ (args_list_setitem _ _ _)))
 show wpAny _ _ (Builtin.List.listSubscript? (.int k t) >>= _) _ _ s
 refine wpAny_bind (wpAny_listSubscript_int (fitsIndex_of h0 hfit) ?_)
 clear hfit
 obtain ⟨j, rfl⟩ := Int.eq_ofNat_of_zero_le h0
 have hj : j < items.size := Int.ofNat_lt.mp hn
 have hx' : items[j]? = some items[j] := Array.getElem?_eq_getElem hj
 show wpAny _ _ ((seqItemAt l j >>= fun r => pure (r.map (j, ·))) >>= _) _ _ s
 refine wpAny_bind (wpAny_bind (wpAny_seqItemAt ho rfl (wpAny_pure ?_)))
 rw [hx']
 show wpAny _ _ (setSeqItemAt l j v >>= _) _ _ s
 refine wpAny_bind (wpAny_setSeqItemAt ho rfl ?_)
 first
  | exact wpAny_bind (wpAny_pure (wpAny_pure ⟨.none, rfl, wpAny_pure hQ⟩))
  | exact wpAny_pure ⟨.none, rfl, wpAny_pure hQ⟩
theorem QE {l : Addr} {items : Array Value} {n : Nat} {k : Int} {t : Tok} {v : Value} {Q : KU} (ho : s.heap.get? l = some (yv items n)) (h0 : k < 0) (h1 : -(items.size : Int) ≤ k) (hfit : -(2 ^ 63) ≤ k)
  (hQ : Q () { s with heap := s.heap.update l (Obj.mapSeq (·.setIfInBounds (k + items.size).toNat v)) }) : wpAny (model P w) A (setItem (.ref l) (.int k t) v) Q E s := by
 have hl := zE ho
 unfold setItem
 try with_reducible refine wpAny_holding ?_
 first | refine wpAny_bind (wpAny_pure ?_) | skip
 refine wpAny_bind (wpAny_sequenceKey hl.typeIs (by decide) ?_)
 refine wpAny_bind (wpAny_callSpecial?_slot (name := Str.ofString "__setitem__") hl.typeIs slot_list_setitem
  (wpAny_call_entry slot_list_setitem hl.typeIs entry_list_setitem ?_ (args_list_setitem _ _ _)))
 show wpAny _ _ (Builtin.List.listSubscript? (.int k t) >>= _) _ _ s
 refine wpAny_bind (wpAny_listSubscript_int (fitsIndex_neg h0 hfit) ?_)
 clear hfit
 have hidx := seqIndex_neg h0 h1
 have hj : (k + items.size).toNat < items.size := (Int.toNat_lt (by rw [Int.add_comm]; have := Int.add_le_add_left h1 (items.size : Int); rwa [Int.add_right_neg] at this)).mpr (by have := Int.add_lt_add_right h0 (items.size : Int); rwa [Int.zero_add] at this)
 obtain ⟨jj, hjj⟩ : ∃ jj, (k + (items.size : Int)).toNat = jj := ⟨_, rfl⟩
 rw [hjj] at hQ hidx hj
 clear hjj
 have hx : items[jj]? = some items[jj] := Array.getElem?_eq_getElem hj
 obtain ⟨j, rfl⟩ : ∃ j : Nat, k = Int.negSucc j := by
  cases k with
  | ofNat n => exact absurd h0 (Int.not_lt.mpr (Int.ofNat_nonneg n))
  | negSucc n => exact ⟨n, rfl⟩
 show wpAny _ _ ((Builtin.List.listItems (.ref l) >>= fun xs => pure ((seqIndex? (Int.negSucc j) xs.size).bind fun i => xs[i]?.map (i, ·))) >>= _) _ _ s
 refine wpAny_bind (wpAny_bind ?_)
 show wpAny _ _ (seqItems? (.ref l) >>= _) _ _ s
 refine wpAny_bind (wpAny_seqItems ho rfl (wpAny_pure (wpAny_pure ?_)))
 rw [hidx, Option.bind_some, hx, Option.map_some]
 show wpAny _ _ (setSeqItemAt l jj v >>= _) _ _ s
 refine wpAny_bind (wpAny_setSeqItemAt ho rfl ?_)
 first
  | exact wpAny_bind (wpAny_pure (wpAny_pure ⟨.none, rfl, wpAny_pure hQ⟩))
  | exact wpAny_pure ⟨.none, rfl, wpAny_pure hQ⟩
section
variable {R : Type} (an : Ans R) (hk : Low K base) {o i v : PV} {b c : Value} {C : za → R} {Q : KU} (S : St w K base Z μ σ s) (rb : RV w Z μ s.heap i b) (rc : RV w Z μ s.heap v c) (H : ∀ σ' s', an.I (C σ') → St w K base Z μ σ' s' → (∀ W, Ext W Z μ s Z μ s') → Q () s') {l : Nat} {d : Addr} (hm : μ[l]? = some d)
include hk S rb rc H hm
theorem setL_at {vs : List PV} {its : Array Value} {n : Nat} (g : s.heap.get? d = some (yv its n)) (q : RVs w Z μ s.heap vs its.toList) (e : an.I (setC an l σ i v C (.list vs))) : wpAny (model P w) A (setItem (.ref d) b c) Q E s := by
 obtain ⟨k, hk', e⟩ := an.om e
 obtain ⟨j, hj, e⟩ := an.hN e
 obtain ⟨u, rfl⟩ := rb.i hk'
 have fin : Q () { s with heap := s.heap.update d (Obj.mapSeq (·.setIfInBounds j c)) } := by
  obtain ⟨n', hn'⟩ := Yo (·.setIfInBounds j c) its n
  have D := Heap.get?_update_self (Obj.mapSeq (·.setIfInBounds j c)) g (by rw [hn']; rfl)
  rw [hn'] at D
  have SB := Heap.SameBut.update s.heap d (Obj.mapSeq (·.setIfInBounds j c))
  have L := S.liftBut hm SB
  obtain ⟨S', X⟩ := S.put (k := s.toks) hk hm SB (.list D (by rw [Array.toList_setIfInBounds]; exact (q.lift L).set (rc.lift L) j))
  exact H _ _ e S' X
 clear e H rc S
 rw [← q.size] at hj
 obtain ⟨h1, h2, h3, ⟨h5, rfl⟩ | ⟨h5, h6, rfl⟩⟩ := qB hj
 ·unfold idx at hj
  rw [decide_eq_true h5] at hj
  exact QF g h5 h2 (dt (bl (zQ hj).1)) fin
 ·exact QE g h5 h6 h1 fin
theorem setD_at {es : List (PV × PV)} {ds : Array DictEntry} {n : Nat} (g : s.heap.get? d = some (zZ ds n)) (q : REs w Z μ s.heap es ds.toList) (e : an.I (setC an l σ i v C (.dict es))) : wpAny (model P w) A (setItem (.ref d) b c) Q E s := by
 obtain ⟨hb, e⟩ := (zk an).mp e
 have hc := bl (bl hb)
 refine jN (P := P) (w := w) (bl hc) fun {T} _ {knd} kk => ?_
 obtain ⟨k, hk'⟩ := kk.is i rfl
 obtain ⟨kvs, hp, hr⟩ := REs.pairs kk (br hc) q
 have D := Xg (knd := knd) g (REs.keysOf kk (br hc) q) hp (hr.nodup kk (br (bl hb)))
 refine wpAny_setItem_pairs (knd := knd) (kk.key hk' rb) D (fun h' hm' hs' => ?_) (by rw [hr.length, sizeLine_eq]; exact Nat.le_trans (zu (br hb)) (by decide))
 have L := S.liftBut hm hs'
 obtain ⟨ds', m', g', q'⟩ := Jp kk hm' ((hr.lift L).set kk hk' (rc.lift L))
 obtain ⟨S', X⟩ := S.put (k := s.toks + 1) hk hm hs' (.dict g' q')
 exact H _ _ e S' X
omit hm in
theorem AW {a : Value} (ra : RV w Z μ s.heap o a) (e : an.I (setI an σ o i v C)) : wpAny (model P w) A (setItem a b c) Q E s := by
 obtain ⟨l, hl, e⟩ := an.om e
 obtain ⟨ce, hc, e⟩ := an.om e
 obtain ⟨d, hm, rfl⟩ := ra.l hl
 have g := (S.cells _ _ _ hc hm).inv
 rcases ce <;> first | exact an.no e | skip
 ·obtain ⟨its, n, g, q⟩ := g; exact setL_at an hk S rb rc H hm g q e
 ·obtain ⟨ds, n, g, q⟩ := g; exact setD_at an hk S rb rc H hm g q e
end
end
end
section
noncomputable def lkA {α : Type} : List (Addr × α) → Addr → Option α
 | [], _ => none
 | (b, v) :: r, a => match Nat.beq b a with | true => some v | false => lkA r a
structure Wd where
 G : List (Str × PV)
 fn : List (Addr × FnI)
 cl : List (Addr × ClI)
structure WOk (w : World) (K : Heap) (base : AP) (kf : Frag) (W : Wd) : Prop where
 low : Low K base
 fin : kf.In K
 g : ∃ mg mb, K.Ns mainGlobals mg ∧ K.Ns builtinsNs mb ∧ ∀ x v, lk W.G x = some v → (∃ a, mg x = some a ∧ GV w K a v) ∨ (mg x = none ∧ ∃ a, mb x = some a ∧ GV w K a v)
 fn : ∀ a fi, lkA W.fn a = some fi → YA w K a fi
 cl : ∀ a ci, lkA W.cl a = some ci → xI kf a ci
section
variable {R : Type} (an : Ans R) (W : Wd)
def nameK (ρ : zc) (x : Str) : NameKind → Option PV
 | .local => lk ρ x
 | .cell => lk ρ x
 | .globalImplicit => lk W.G x
 | _ => .none
def J2 (f : Fr0) (x : Str) (ρ : zc) (C : PV → R) : R := zr an.bad (lk f.kd x) fun k => zr an.bad (nameK W ρ x k) C
def attrV (σ : za) (o : PV) (x : Str) (C : PV → R) : R := zr an.bad (Qw σ o) fun p => zr an.bad (lkA W.cl p.1) fun ci => zr an.bad (lk p.2 x) fun u => chk an (xM ci x && XH u) (C u)
def setA (σ : za) (o : PV) (x : Str) (v : PV) (C : za → R) : R := zr an.bad o.l? fun l => zr an.bad (σ[l]?.bind insC) fun p => zr an.bad (σ[p.2]?.bind fldC) fun fs => zr an.bad (lkA W.cl p.1) fun ci =>
 chk an (xM ci x && Nat.ble fs.length 1000) (C (σ.set p.2 (.fields (put fs x v))))
variable (ev : Expr → zc → za → (PV → za → R) → R)
def asgs (inner : Expr → PV → zc → za → (zc → za → R) → R) : List Expr → List PV → zc → za → (zc → za → R) → R
 | [], vs, ρ, σ, C => an.gd vs.isEmpty (C ρ σ)
 | e :: es, vs, ρ, σ, C => (match vs with | [] => an.bad | v :: vs => an.gd (!q9 e) (inner e v ρ σ fun ρ1 σ1 => asgs inner es vs ρ1 σ1 C))
def asgT (inner : Option (Expr → PV → zc → za → (zc → za → R) → R)) (f : Fr0) (e : Expr) (v : PV) (ρ : zc) (σ : za) (C : zc → za → R) : R := match e with
  | .Name x _ => chk an (Jj f x) (C (put ρ x v) σ)
  | .Attribute o x _ => ev o ρ σ fun ov σ1 => setA an W σ1 ov x v fun σ2 => C ρ σ2
  | .Subscript o i _ => ev o ρ σ fun ov σ1 => ev i ρ σ1 fun iv σ2 => setI an σ2 ov iv v fun σ3 => C ρ σ3
  | .Tuple es _ _ => zr an.bad inner fun inner => zr an.bad v.t? fun vs => chk an (Nat.beq es.length vs.length && yi es) (asgs an inner es vs ρ σ C)
  | _ => an.bad
def asg (f : Fr0) : Nat → Expr → PV → zc → za → (zc → za → R) → R
 | 0 => asgT an W ev none f
 | n + 1 => asgT an W ev (some (asg f n)) f
end
section
variable {s s' s₁ : Shared} {Q : KV} {E : KV} {A : Around} {env : Env} {f : Fr0} {ρ : zc} {kf : Frag} {W : Wd} {R : Type} (an : Ans R)
theorem nsIn {K h : Heap} {a : Addr} {m : Str → Option Value} (k : KIn K h) (n : K.Ns a m) : h.Ns a m := by
 obtain ⟨o, es, ep, ho, r⟩ := n
 exact ⟨o, es, ep, k _ _ ho, r⟩
theorem Jf (ok : WOk w K base kf W) (ek : z3 env f) (S : St w K base Z μ σ s) (L : LR w Z μ base s env ρ) {x : Str} {C : PV → R} (c : an.I (J2 an W f x ρ C))
  (H : ∀ v a, an.I (C v) → RV w Z μ s.heap v a → Q a s) : wpAny (model P w) A (loadName env x) Q E s ∧ env.kindOf x ≠ none := by
 obtain ⟨q, hl, c⟩ := an.om c
 obtain ⟨v, e, c1⟩ := an.om c
 clear c
 have hkind := (ek.kindOf x).trans hl
 refine ⟨?_, by rw [hkind]; exact fun q => nomatch q⟩
 clear hl
 rcases q <;> first | exact no e | skip
 ·obtain ⟨m, hns, hv⟩ := L.ns
  rcases hv x v e with ⟨k, b, e1, r1⟩ | ⟨k, c', b, e1, hcl, r1⟩
  ·exact wpAny_loadName_local ek.kind k hns e1 (H v b c1 r1)
  ·exact nomatch hkind.symm.trans k
 ·obtain ⟨m, hns, hv⟩ := L.ns
  rcases hv x v e with ⟨k, b, e1, r1⟩ | ⟨k, c', b, e1, hcl, r1⟩
  ·exact nomatch hkind.symm.trans k
  ·exact wpAny_loadName_cell ek.kind k e1 hcl (H v b c1 r1)
 ·obtain ⟨mg, mb, hg, hb, hG⟩ := ok.g
  have e1 : loadName env x = loadGlobal env x := by
   unfold loadName Env.blockKind
   rw [ek.kind, hkind]; rfl
  rw [e1]
  rcases hG x v e with ⟨a, h1, h2⟩ | ⟨h0, a, h1, h2⟩
  ·exact loadGlobal_global (by rw [ek.glob]; exact nsIn S.kin hg) h1 (H v a c1 (h2 Z μ s.heap S.kin S.kz))
  ·exact loadGlobal_builtin (by rw [ek.glob]; exact nsIn S.kin hg) h0 (by rw [ek.blt]; exact nsIn S.kin hb) h1 (H v a c1 (h2 Z μ s.heap S.kin S.kz))
theorem Ym (ok : WOk w K base kf W) (ek : z3 env f) (S : St w K base Z μ σ s) (L : LR w Z μ base s env ρ) {x : Str} {pos : Pos} {C : PV → R} (c : an.I (J2 an W f x ρ C))
  (H : ∀ v a, an.I (C v) → RV w Z μ s.heap v a → Q a s) : wpC (model P w) A (eval (.Name x pos) env) Q s := by
 obtain ⟨h, hn⟩ := Jf (P := P) (A := A) (E := NoE) an ok ek S L c H
 cases hk : env.kindOf x with
 | none => exact absurd hk hn
 | some q => exact C_Name h (ek.nd hk)
theorem AK (ok : WOk w K base kf W) (S : St w K base Z μ σ s) {v : PV} {a : Value} {x : Str} {ex : Bool} {C : PV → R} (r : RV w Z μ s.heap v a) (c : an.I (attrV an W σ v x C))
  (H : ∀ u b k, an.I (C u) → RV w Z μ s.heap u b → Q b { s with toks := k }) : wpAny (model P w) A (getAttr a x ex) Q E s := by
 obtain ⟨p, hv, c⟩ := an.om c
 obtain ⟨ci, h1, c⟩ := an.om c
 obtain ⟨u, h2, c⟩ := an.om c
 obtain ⟨h, c⟩ := (zk an).mp c
 exact getA_at ok.fin S (ok.cl _ _ h1) r hv (bl h) h2 (br h) fun b rb => H u b _ c rb
theorem AX (ok : WOk w K base kf W) (S : St w K base Z μ σ s) {o v : PV} {a b : Value} {x : Str} {C : za → R} {Q : KU} (ra : RV w Z μ s.heap o a) (rb : RV w Z μ s.heap v b) (c : an.I (setA an W σ o x v C))
  (H : ∀ σ' s', an.I (C σ') → St w K base Z μ σ' s' → (∀ W, Ext W Z μ s Z μ s') → Q () s') : wpAny (model P w) A (setAttr a x b) Q E s := by
 obtain ⟨l, hl, c⟩ := an.om c
 obtain ⟨p, h1, c⟩ := an.om c
 obtain ⟨fs, h2, c⟩ := an.om c
 obtain ⟨ci, h3, c⟩ := an.om c
 obtain ⟨h, c⟩ := (zk an).mp c
 obtain ⟨c1, h1, e1⟩ := zp h1
 obtain ⟨c2, h2, e2⟩ := zp h2
 rw [CN e1] at h1
 rw [C0 e2] at h2
 rw [PV.l?_eq hl] at ra
 exact setA_at ok.low ok.fin S (ok.cl _ _ h3) ra rb h1 h2 (bl h) (zu (br h)) fun s' S' X => H _ _ c S' X

def Qr (P : Program) (w : World) (K : Heap) (base : AP) (f : Fr0) (e : Expr) (v : PV) (ρ : zc) (σ : za) (C : zc → za → Prop) : Prop :=
 ∀ (A : Around) (env : Env) (s : Shared) (Z : AP) (μ : LA) (Q : KU) (a : Value), Amb A f.dp → z3 env f → St w K base Z μ σ s → LR w Z μ base s env ρ → RV w Z μ s.heap v a →
  (∀ ρ' σ' s' Z' μ', C ρ' σ' → St w K base Z' μ' σ' s' → LR w Z' μ' base s' env ρ' → Ext (FS env) Z μ s Z' μ' s' → Q () s') → wpC (model P w) A (assign e env a) Q s
theorem Ext.own {W Z Z' : AP} {μ μ' : LA} {s s' : Shared} (x : Ext NoW Z μ s Z' μ' s') : Ext W Z μ s Z' μ' s' := ⟨x.pre, x.sub, x.newZ, x.newM, fun b o e h _ => x.pres b o e h id, x.has, x.gens, x.os⟩
theorem RV.own (S : St w K base Z μ σ s) (L : LR w Z μ base s env ρ) (X : Ext (FS env) Z μ s Z1 μ1 s₁) {v : PV} {a : Value} (r : RV w Z μ s.heap v a) : RV w Z1 μ1 s₁.heap v a := r.lift (L.lifts S X)
theorem RVs.own (S : St w K base Z μ σ s) (L : LR w Z μ base s env ρ) (X : Ext (FS env) Z μ s Z1 μ1 s₁) {v : List PV} {a : List Value} (r : RVs w Z μ s.heap v a) : RVs w Z1 μ1 s₁.heap v a := r.lift (L.lifts S X)
theorem qY {Q : KU} {xs : List Value} (h : Q () s) : wpC (model P w) A (assignInOrder [] xs) Q s := .of (wpAny_pure h)
theorem jX {t : Value → Sem Unit} {ts : List (Value → Sem Unit)} {x : Value} {xs : List Value} {Q : KU}
  (h : wpC (model P w) A (t x) (fun _ s₁ => wpC (model P w) A (assignInOrder ts xs) Q s₁) s) : wpC (model P w) A (assignInOrder (t :: ts) (x :: xs)) Q s := by
 show wpC (model P w) A (do holding xs (t x); assignInOrder ts xs) Q s
 exact zb (zg h)
theorem jR {e : Expr} (h : q9 e = false) (es : List Expr) (env : Env) : assignEach (e :: es) env = (false, assign e env) :: assignEach es env := by
 rcases e <;> first | rfl | exact nf h.symm
theorem BR {inner : Expr → PV → zc → za → (zc → za → R) → R} (hin : ∀ e v ρ σ C, an.I (inner e v ρ σ C) → Qr P w K base f e v ρ σ (fun ρ σ => an.I (C ρ σ))) (am : Amb A f.dp) (ek : z3 env f) (es : List Expr) :
  ∀ (vs : List PV) {as : List Value} {ρ : zc} {σ : za} {C : zc → za → R} {s : Shared} {Z : AP} {μ : LA} {Q : KU}, an.I (asgs an inner es vs ρ σ C) → St w K base Z μ σ s → LR w Z μ base s env ρ → RVs w Z μ s.heap vs as →
   (∀ ρ' σ' s' Z' μ', an.I (C ρ' σ') → St w K base Z' μ' σ' s' → LR w Z' μ' base s' env ρ' → Ext (FS env) Z μ s Z' μ' s' → Q () s') →
   wpC (model P w) A (assignInOrder ((assignEach es env).map (·.2)) as) Q s := by
 induction es with
 | nil => intro vs as ρ σ C s Z μ Q c S L r H; exact qY (H _ _ _ _ _ (an.gdI c).2 S L (Ext.refl ..))
 | cons e es ih =>
  intro vs as ρ σ C s Z μ Q c S L r H
  cases vs with
  | nil => exact an.no c
  | cons v vs =>
   obtain ⟨hs, c⟩ := an.gdI c
   obtain ⟨a, as, r1, r2, rfl⟩ := r.inv
   rw [jR ((Bool.not_eq_true' _).mp hs), List.map_cons]
   refine jX (hin _ _ _ _ _ c A env s Z μ _ _ am ek S L r1 fun ρ1 σ1 s₁ Z1 μ1 c₁ S1 L1 X1 => ?_)
   exact ih vs c₁ S1 L1 (r2.own S L X1) fun ρ2 σ2 s₂ Z2 μ2 c₂ S2 L2 X2 => H _ _ _ _ _ c₂ S2 L2 (X1.trans X2)
theorem Ai (env : Env) {es : List Expr} : yi es = true → (assignEach es env).length = es.length ∧ (assignEach es env).findIdx? (·.1) = none := by
 induction es with
 | nil => exact fun _ => ⟨rfl, rfl⟩
 | cons e es ih =>
  intro h
  obtain ⟨h1, h2⟩ := ih (br h)
  rw [jR ((Bool.not_eq_true' _).mp (bl h))]
  exact ⟨congrArg (· + 1) h1, by rw [List.findIdx?_cons, h2]; rfl⟩
theorem St.ext' (hk : Low K base) (S : St w K base Z μ σ s) {h' : Heap} {k : Nat} (hp : Heap.ExtBut s.heap.objs.size s.heap h') : St w K base Z μ σ { s with heap := h', toks := k } ∧ ∀ W, Ext W Z μ s Z μ { s with heap := h', toks := k } :=
 S.grow hk fun b o e => hp b o (fun q => zn (q ▸ e) (zS _)) e
theorem Jy {ev : Expr → zc → za → (PV → za → R) → R} (hev : ∀ e ρ σ C, an.I (ev e ρ σ C) → y4 P w K base f e ρ σ (fun v σ => an.I (C v σ))) (ok : WOk w K base kf W) {inner : Option (Expr → PV → zc → za → (zc → za → R) → R)}
  (hin : ∀ i, inner = some i → ∀ e v ρ σ C, an.I (i e v ρ σ C) → Qr P w K base f e v ρ σ (fun ρ σ => an.I (C ρ σ))) (e : Expr) (v : PV) (ρ : zc) (σ : za) (C : zc → za → R) (c : an.I (asgT an W ev inner f e v ρ σ C)) : Qr P w K base f e v ρ σ (fun ρ σ => an.I (C ρ σ)) := by
 intro A env s Z μ Q a am ek S L r H
 rcases e <;> first | exact an.no c | skip
 ·rename_i o x pos
  rw [arm_assign_Attribute]
  refine zb (zg (hev _ _ _ _ c A env s Z μ _ am ek S L fun ov σ1 s₁ Z1 μ1 oa c₁ S1 X1 r₁ => zj ?_))
  refine zb (zg (.of (AX an ok S1 r₁ (r.later S X1) c₁ fun σ2 s₂ c₂ S2 X2 => xm ?_)))
  exact H _ _ _ _ _ c₂ S2 ((L.ext S X1).ext S1 (X2 _)) (X1.trans (X2 _)).own
 ·rename_i o i pos
  rw [arm_assign_Subscript]
  refine zb (zg (hev _ _ _ _ c A env s Z μ _ am ek S L fun ov σ1 s₁ Z1 μ1 oa c₁ S1 X1 r₁ => ?_))
  refine zb (zg (hev _ _ _ _ c₁ A env s₁ Z1 μ1 _ am ek S1 (L.ext S X1) fun iv σ2 s₂ Z2 μ2 ia c₂ S2 X2 r₂ => zj ?_))
  refine zb (zg (.of (AW an ok.low S2 r₂ ((r.later S X1).later S1 X2) (fun σ3 s3 c3 S3 X3 => xm ?_) (r₁.later S1 X2) c₂)))
  exact H _ _ _ _ _ c3 S3 (((L.ext S X1).ext S1 X2).ext S2 (X3 _)) ((X1.trans X2).trans (X3 _)).own
 ·have c := (zk an).mp c
  rw [arm_assign_Name]
  exact zj (yc (.of (YU ok.low ek S L r (fun s' S' L' X' => H _ _ _ _ _ c.2 S' L' X') c.1)))
 ·obtain ⟨i, hi, c⟩ := an.om c
  obtain ⟨vs, hv, c⟩ := an.om c
  obtain ⟨h, c⟩ := (zk an).mp c
  rw [PV.t?_eq hv] at r
  obtain ⟨l, its, n, z, g, q, rfl⟩ := r.inv
  obtain ⟨h1, h2⟩ := Ai env (br h)
  rw [arm_assign_Tuple]
  refine zj ?_
  unfold unpack
  rw [h1, Nat.eq_of_beq_eq_true (bl h), h2, show vs.length = _ from q.length]
  refine ze (wpAny_holding (unpackItems_tuple am.hd (z8 g) fun h' he => ?_))
  obtain ⟨S', X'⟩ := S.ext' (k := s.toks) ok.low he
  exact BR an (hin i hi) am ek _ vs c S' (L.ext S (X' _)) (q.later S (X' _)) fun ρ' σ' s'' Z' μ' c S'' L'' X'' => H _ _ _ _ _ c S'' L'' ((X' _).trans X'')
theorem Xm {ev : Expr → zc → za → (PV → za → R) → R} (hev : ∀ e ρ σ C, an.I (ev e ρ σ C) → y4 P w K base f e ρ σ (fun v σ => an.I (C v σ))) (ok : WOk w K base kf W) (n : Nat) : ∀ (e : Expr) (v : PV) (ρ : zc) (σ : za) (C : zc → za → R), an.I (asg an W ev f n e v ρ σ C) → Qr P w K base f e v ρ σ (fun ρ σ => an.I (C ρ σ)) := by
 induction n with
 | zero => exact Jy an hev ok fun i e => no e
 | succ n ih => exact Jy an hev ok fun i e => Option.some.inj e ▸ ih
end
end
section
section
variable {R : Type} (an : Ans R) (W : Wd) (ih : yg R → R)
noncomputable def Ge : Const → Option PV
 | .none => some .none
 | .bool b => some (.bool b)
 | .int i => some (.int i)
 | .str x => some (.str x)
 | .bytes b => some (.bytes b.toArray)
 | _ => none
def unV (op : UnaryOp) (x : PV) : Option PV := match op with
 | .USub => x.i?.bind fun i => some (.int (-i))
 | .Invert => x.i?.bind fun i => some (.int (Builtin.bitNot i))
 | .Not => x.o?.bind fun b => some (.bool (!b))
 | _ => none
noncomputable def boolK (op : BoolOp) (b : Bool) (x y : R) : R := match op with
 | .And => (match b with | false => x | true => y)
 | .Or => (match b with | true => x | false => y)
def Dc (f : Fr0) (op : BoolOp) (ρ : zc) : List Expr → za → (PV → za → R) → R
 | [], _, _ => an.bad
 | e :: es, σ, C => match es with
  | [] => ih (.ex f e ρ σ C)
  | e' :: es' => ih (.ex f e ρ σ fun v σ1 => zr an.bad v.o? fun b => boolK op b (C (.bool b) σ1) (Dc f op ρ es σ1 C))
end
section
variable (P : Program) (w : World) (K : Heap) (base : AP) {R : Type} (an : Ans R)
structure Sound (ih : yg R → R) : Prop where
 ex : ∀ f e ρ σ C, an.I (ih (.ex f e ρ σ C)) → y4 P w K base f e ρ σ (fun v σ => an.I (C v σ))
 exs : ∀ f es ρ σ C, an.I (ih (.exs f es ρ σ C)) → yi es = true → Di P w K base f es ρ σ (fun v σ => an.I (C v σ))
 tst : ∀ f e ρ σ C, an.I (ih (.tst f e ρ σ C)) → GL P w K base f e ρ σ (fun v σ => an.I (C v σ))
 sts : ∀ f ss ρ σ C, an.I (ih (.sts f ss ρ σ C)) → xH P w K base f ss ρ σ (fun fl ρ σ => an.I (C fl ρ σ))
 callV : ∀ dp v args σ C, an.I (ih (.callV dp v args σ C)) → yr P w K base dp v args σ (fun v σ => an.I (C v σ))
end
section
variable {s s' s₁ : Shared} {Q : KV} {E : KV} {A : Around} {env : Env} {f : Fr0} {ρ : zc} {kf : Frag} {W : Wd} {R : Type} (an : Ans R) {ih : yg R → R}
theorem Qa {c : Const} {v : PV} {k : Nat} {pos : Pos} {C : KD} (e : Ge c = some v) (S : St w K base Z μ σ s) (H : Ret w K base Z μ s C Q) (hc : C v σ) : wpC (model P w) A (eval (.Constant c k pos) env) Q s := by
 rcases c <;> first | exact no e | rw [← Option.some.inj e] at hc
 ·exact .of (wpAny_Constant_none (H.here S hc .none))
 ·exact .of (wpAny_Constant_bool (H.here S hc .bool))
 ·exact .of (wpAny_Constant_int (H.tok S hc .int))
 ·exact .of (wpAny_Constant_str (H.tok S hc .str))
 ·exact .of (fun _ _ _ => H.tok S hc .bytes)
theorem jt {b : Bool} {QB : KB} (h : QB b s) : wpAny (model P w) A (truthy (.bool b)) QB E s := wpAny_truthy_bool h
theorem RV.o {h : Heap} {v : PV} {a : Value} {b : Bool} (r : RV w Z μ h v a) (e : v.o? = some b) : a = .bool b := by rw [PV.o?_eq e] at r; exact r.inv
theorem Dt {op : UnaryOp} {x v : PV} {a : Value} {C : KD} (e : unV op x = some v) (S : St w K base Z μ σ s) (r : RV w Z μ s.heap x a) (H : Ret w K base Z μ s C Q) (hc : C v σ) : wpAny (model P w) A (unaryOp op a) Q E s := by
 rcases op <;> first | exact no e | skip
 ·obtain ⟨i, hi, e⟩ := zp e; obtain ⟨t, rfl⟩ := r.i hi; rw [← Option.some.inj e] at hc
  exact PyProof.Rows.invert_int (H.tok S hc .int)
 ·obtain ⟨i, hi, e⟩ := zp e; rw [r.o hi]; rw [← Option.some.inj e] at hc
  exact PyProof.Rows.not_of (jt (H.here S hc .bool))
 ·obtain ⟨i, hi, e⟩ := zp e; obtain ⟨t, rfl⟩ := r.i hi; rw [← Option.some.inj e] at hc
  exact PyProof.Rows.neg_int (H.tok S hc .int)
theorem AB (hs : Sound P w K base an ih) (am : Amb A f.dp) (ek : z3 env f) {op : BoolOp} {pos : Pos} (es : List Expr) : ∀ {σ : za} {C : PV → za → R} {s : Shared} {Z : AP} {μ : LA} {Q : KV}, an.I (Dc an ih f op ρ es σ C) → St w K base Z μ σ s → LR w Z μ base s env ρ → Ret w K base Z μ s (fun v σ => an.I (C v σ)) Q →
  wpC (model P w) A (boolOp pos op (evalEach es env)) Q s := by
 induction es with
 | nil => exact fun c => an.no c
 | cons e es ih2 =>
  intro σ C s Z μ Q c S L H
  cases es with
  | nil => exact hs.ex _ _ _ _ _ c A env _ _ _ _ am ek S L H
  | cons e' es =>
   show wpC (model P w) A (do
    let v ← eval e env
    standAt pos
    let t ← holding [v] (truthy v)
    match op, t with
    | .And, false | .Or, true => pure v
    | _, _ => boolOp pos op (evalEach (e' :: es) env)) Q s
   refine zb (hs.ex _ _ _ _ _ c A env _ _ _ _ am ek S L fun v σ1 s₁ Z1 μ1 a c1 S1 X1 r1 => zj ?_)
   obtain ⟨b, hb, c1⟩ := an.om c1
   rw [r1.o hb]
   have on : an.I (Dc an ih f op ρ (e' :: es) σ1 C) → _ := fun c => ih2 c S1 (L.ext S X1) (H.later X1)
   have fin : an.I (C (.bool b) σ1) → _ := fun c => (H.later X1).here S1 c .bool
   clear hs ih2 S S1 L H X1 r1 hb am ek c
   refine zb (zg (.of (jt ?_)))
   rcases op <;> rcases b <;> first | exact zf (fin c1) | exact on c1
end
end
section
section
variable {R : Type} (an : Ans R) (W : Wd) (ih : yg R → R)
noncomputable def retK (C : PV → za → R) (fl : Fl) (ρ : zc) (σ : za) : R := match fl with
 | .ret v => C v σ
 | .next => C .none σ
 | _ => an.bad
def madeK (l : Nat) (C : PV → za → R) (fl : Fl) (ρ : zc) (σ : za) : R := match fl with
 | .ret v => an.gd (isN v) (C (.loc l) σ)
 | .next => C (.loc l) σ
 | _ => an.bad
def Gr (dp : Nat) (a : Addr) (args : List PV) (σ : za) (C : PV → za → R) : R := match lkA W.fn a with
 | some fi => zr an.bad (Jw fi args) fun ρ => ih (.sts ⟨fi.names, dp⟩ fi.body ρ σ (retK an C))
 | none => zr an.bad (lkA W.cl a) fun ci => zr an.bad (lkA W.fn ci.init) fun fi => zr an.bad (Jw fi (.loc (σ.length + 1) :: args)) fun ρ =>
   ih (.sts ⟨fi.names, dp⟩ fi.body ρ (σ ++ [.fields [], .inst a σ.length]) (madeK an (σ.length + 1) C))
noncomputable def EU : Value → Option Addr
 | .ref a => some a
 | _ => none
def xE (dp : Nat) (v : PV) (args : List PV) (σ : za) (C : PV → za → R) : R := match v with
 | .bi k => callB an σ k args C
 | .con u => zr an.bad (EU u) fun a => (match dp with | 0 => an.bad | dp + 1 => Gr an W ih dp a args σ C)
 | _ => an.bad
def XR (v : PV) : Bool := match v with
 | .bi _ => true
 | .con u => (match EU u with | some a => (lkA W.fn a).isSome || (lkA W.cl a).isSome | none => false)
 | _ => false
def qx (f : Fr0) (name : Str) (args : List Expr) (ρ : zc) (v : PV) (σ : za) (C : PV → za → R) : R := match Fs σ v name with
 | some m => ih (.exs f args ρ σ fun vs σ2 => jT an σ2 m (v :: vs) C)
 | none => zr an.bad (Qw σ v) fun p => zr an.bad (lkA W.cl p.1) fun ci => (match lk p.2 name with
  | some _ => an.bad
  | none => zr an.bad (lk ci.meths name) fun fa => chk an (lkA W.fn fa).isSome (ih (.exs f args ρ σ fun vs σ2 => ih (.callV f.dp (.con (.ref fa)) (v :: vs) σ2 C))))
end
section
variable {s s' s₁ : Shared} {Q : KV} {E : KV} {A : Around} {env : Env} {f : Fr0} {ρ : zc} {kf : Frag} {W : Wd} {R : Type} (an : Ans R) {ih : yg R → R}
theorem xH.mono {ss : List Stmt} {C C' : KF} (h : xH P w K base f ss ρ σ C) (hc : ∀ fl ρ σ, C fl ρ σ → C' fl ρ σ) : xH P w K base f ss ρ σ C' :=
 fun A env s Z μ Q a1 a2 a3 a4 a5 => h A env s Z μ Q a1 a2 a3 a4 fun v ρ' σ' s' Z' μ' a c => a5 v ρ' σ' s' Z' μ' a (hc _ _ _ c)
theorem retK_at {C : PV → za → R} {fl : Fl} {ρ : zc} {σ : za} : an.I (retK an C fl ρ σ) → (match fl with | .ret v => an.I (C v σ) | .next => an.I (C .none σ) | _ => False) := by
 rcases fl <;> first | exact fun c => c | exact fun c => an.no c
theorem Ft {l : Nat} {C : PV → za → R} {fl : Fl} {ρ : zc} {σ : za} : an.I (madeK an l C fl ρ σ) → (match fl with | .ret .none => an.I (C (.loc l) σ) | .next => an.I (C (.loc l) σ) | _ => False) := by
 rcases fl with _ | _ | _ | v <;> first | exact fun c => c | exact fun c => an.no c | skip
 intro c
 obtain ⟨h, c⟩ := an.gdI c
 rw [Bq h]; exact c
theorem Cg {u : Value} {a : Addr} (e : EU u = some a) : u = .ref a := by rcases u <;> first | exact no e | exact congrArg _ (Option.some.inj e)
theorem Ax (hs : Sound P w K base an ih) (ok : WOk w K base kf W) {dp : Nat} {a : Addr} {args : List PV} {C : PV → za → R} (c : an.I (Gr an W ih dp a args σ C)) : yr P w K base (dp + 1) (.con (.ref a)) args σ (fun v σ => an.I (C v σ)) := by
 unfold Gr at c
 cases hf : lkA W.fn a with
 | some fi =>
  rw [hf] at c
  obtain ⟨ρ, hb, c⟩ := an.om c
  exact FY ok.low (ok.fn _ _ hf) hb ((hs.sts _ _ _ _ _ c).mono fun fl ρ σ hc => retK_at an hc)
 | none =>
  rw [hf] at c
  obtain ⟨ci, hci, c⟩ := an.om c
  obtain ⟨fi, hf, c⟩ := an.om c
  obtain ⟨ρ, hb, c⟩ := an.om c
  intro A s Z μ va as Q am S ra ras H
  rw [show va = _ from ra.inv]
  exact DS (C := fun v σ => an.I (C v σ)) ok.low ok.fin S (ok.cl _ _ hci) (ok.fn _ _ hf) hb ((hs.sts _ _ _ _ _ c).mono fun fl ρ σ hc => Ft an hc) am ras H
theorem jp (hs : Sound P w K base an ih) (ok : WOk w K base kf W) {dp : Nat} {v : PV} {args : List PV} {C : PV → za → R} (c : an.I (xE an W ih dp v args σ C)) : yr P w K base dp v args σ (fun v σ => an.I (C v σ)) := by
 rcases v <;> first | exact an.no c | skip
 ·obtain ⟨a, ha, c⟩ := an.om c
  rw [Cg ha]
  cases dp with
  | zero => exact an.no c
  | succ dp => exact Ax an hs ok c
 ·intro A s Z μ va as Q am S ra ras H
  rw [show va = _ from ra.inv]
  exact Az an ok.low am.hd S ras c H
theorem Bn (ok : WOk w K base kf W) {v : PV} {a : Value} {Z : AP} {h : Heap} (e : XR W v = true) (r : RV w Z μ h v a) :
  ∃ kp, (kp = Keeper.frame ∨ kp = Keeper.machine) ∧ ∀ s', KIn K s'.heap → ∀ R : Keeper → Shared → Prop, R kp s' → wpAny (model P w) A (keeperOf a) R NoE s' := by
 have r := r.inv
 rcases v <;> first | exact nf e | skip
 ·rename_i u _
  rw [show a = _ from r]
  have e : (match EU u with | some a => (lkA W.fn a).isSome || (lkA W.cl a).isSome | none => false) = true := e
  cases hu : EU u with
  | none => rw [hu] at e; exact nf e
  | some b =>
  rw [hu] at e
  rw [Cg hu]
  cases hf : lkA W.fn b with
  | some fi =>
   obtain ⟨o, fd, I⟩ := (ok.fn _ _ hf).is
   exact ⟨_, .inl rfl, fun s' k R h => CI (k _ _ I.ho) I.hd h⟩
  | none =>
   have e : ((lkA W.fn b).isSome || (lkA W.cl b).isSome) = true := e
   rw [hf] at e
   obtain ⟨ci, hc⟩ := Option.isSome_iff_exists.mp e
   exact ⟨_, .inr rfl, fun s' k R h => Fy (ok.fin.keeps k) (ok.cl _ _ hc).make h⟩
 ·rw [show a = _ from r]
  exact ⟨_, .inr rfl, fun s' _ R h => CJ _ h⟩
theorem GO (hs : Sound P w K base an ih) (ok : WOk w K base kf W) (am : Amb A f.dp) (ek : z3 env f) (S : St w K base Z μ σ s) (L : LR w Z μ base s env ρ) {fn : Expr} {args : List Expr} {pos : Pos} {C : PV → za → R} (hn : Ct fn = true) (ns : yi args = true)
  (c : an.I (ih (.ex f fn ρ σ fun v σ1 => chk an (XR W v) (ih (.exs f args ρ σ1 fun vs σ2 => ih (.callV f.dp v vs σ2 C)))))) (H : Ret w K base Z μ s (fun v σ => an.I (C v σ)) Q) : wpC (model P w) A (eval (.Call fn args [] pos) env) Q s := by
 refine Dj hn (hs.ex _ _ _ _ _ c A env _ _ _ _ am ek S L fun v σ1 s₁ Z1 μ1 a c1 S1 X1 r1 => ?_)
 replace c1 : an.I (chk an (XR W v) (ih (.exs f args ρ σ1 fun vs σ2 => ih (.callV f.dp v vs σ2 C)))) := c1
 obtain ⟨hk, c1⟩ := (zk an).mp c1
 obtain ⟨kp, hkp, hke⟩ := Bn (P := P) (A := A) ok hk r1
 refine jA hkp ns (hs.exs _ _ _ _ _ c1 ns A env _ _ _ _ am ek S1 (L.ext S X1) (fun vs σ2 s₂ Z2 μ2 as c2 S2 X2 r2 => ⟨hke _ S2.kin, ?_⟩) pos)
 exact hs.callV _ _ _ _ _ c2 A _ _ _ _ _ _ am S2 (r1.later S1 X2) r2 (H.later (X1.trans X2))
theorem Qs (hs : Sound P w K base an ih) (ok : WOk w K base kf W) (am : Amb A f.dp) (ek : z3 env f) (S : St w K base Z μ σ s) (L : LR w Z μ base s env ρ) {o : Expr} {name : Str} {apos : Pos} {args : List Expr} {pos : Pos} {C : PV → za → R} (hb : Yi o = true) (ns : yi args = true)
  (hl : Nat.ble args.length 20 = true) (hp : Nat.beq apos.endLine pos.line = true)
  (c : an.I (ih (.ex f o ρ σ fun v σ1 => qx an W ih f name args ρ v σ1 C))) (H : Ret w K base Z μ s (fun v σ => an.I (C v σ)) Q) : wpC (model P w) A (eval (.Call (.Attribute o name apos) args [] pos) env) Q s := by
 refine Ex hb ns hl hp (hs.ex _ _ _ _ _ c A env _ _ _ _ am ek S L fun v σ1 s₁ Z1 μ1 a c1 S1 X1 r1 pl => ?_)
 replace c1 : an.I (qx an W ih f name args ρ v σ1 C) := c1
 unfold qx at c1
 cases hm : Fs σ1 v name with
 | some m =>
  rw [hm] at c1
  refine Fr S1 r1 hm ?_
  refine jA (.inr rfl) ns (hs.exs _ _ _ _ _ c1 ns A env _ _ _ _ am ek S1 (L.ext S X1) (fun vs σ2 s₂ Z2 μ2 as c2 S2 X2 r2 => ⟨fun R h => XQ h, ?_⟩) pos)
  exact Yt an ok.low S2 (.cons (r1.later S1 X2) r2) (H.later (X1.trans X2)) c2
 | none =>
  rw [hm] at c1
  obtain ⟨p, hv, c1⟩ := an.om c1
  obtain ⟨ci, h1, c1⟩ := an.om c1
  cases h2 : lk p.2 name with
  | some _ => rw [h2] at c1; exact an.no c1
  | none =>
   rw [h2] at c1
   obtain ⟨fa, h3, c1⟩ := an.om c1
   obtain ⟨hf, c1⟩ := (zk an).mp c1
   obtain ⟨fi, hf⟩ := Option.isSome_iff_exists.mp hf
   obtain ⟨o, fd, I⟩ := (ok.fn _ _ hf).is
   refine getM_at ok.fin S1 (ok.cl _ _ h1) r1 hv h3 h2 ?_
   refine jA (.inl rfl) ns (hs.exs _ _ _ _ _ c1 ns A env _ _ _ _ am ek S1 (L.ext S X1) (fun vs σ2 s₂ Z2 μ2 as c2 S2 X2 r2 => ⟨fun R h => CI (S2.kin _ _ I.ho) I.hd h, ?_⟩) pos)
   exact hs.callV _ _ _ _ _ c2 A _ _ _ _ _ _ am S2 .con (.cons (r1.later S1 X2) r2) (H.later (X1.trans X2))
end
end
section
section
variable {R : Type} (an : Ans R) (W : Wd) (ih : yg R → R)
noncomputable def E7 (f : Fr0) (ρ : zc) : Option Expr → za → (PV → za → R) → R
 | none, σ, C => C .none σ
 | some e, σ, C => ih (.ex f e ρ σ C)
noncomputable def one? {α : Type} : List α → Option α
 | [a] => some a
 | _ => none
theorem one?_eq {α : Type} {l : List α} {a : α} (e : one? l = some a) : l = [a] := by
 rcases l with _ | ⟨b, _ | _⟩ <;> first | exact no e | rw [← Option.some.inj e]
def Cf (σ : za) (x i : PV) (C : PV → R) : R := zr an.bad i.i? fun k => chk an (decide (k = -1)) (zr an.bad (revV σ x) C)
def JU (f : Fr0) (ρ : zc) (v : Expr) (lo up st : Option Expr) (σ : za) (C : PV → za → R) : R := match st with
 | none => ih (.ex f v ρ σ fun x σ1 => E7 ih f ρ lo σ1 fun l σ2 => E7 ih f ρ up σ2 fun u σ3 => zr an.bad (QR l) fun i => zr an.bad (QR u) fun j => an.opV (qM σ3 x i j) fun r => C r σ3)
 | some e => an.gd (lo.isNone && up.isNone) (ih (.ex f v ρ σ fun x σ1 => ih (.ex f e ρ σ1 fun i σ2 => Cf an σ2 x i fun r => C r σ2)))
def B5 (f : Fr0) (ρ : zc) (v s : Expr) (σ : za) (C : PV → za → R) : R := match s with
 | .Slice lo up st _ => JU an ih f ρ v lo up st σ C
 | s => ih (.ex f v ρ σ fun x σ1 => ih (.ex f s ρ σ1 fun i σ2 => an.opV (yI σ2 x i) fun r => C r σ2))
def Aj (f : Fr0) (ρ : zc) (ks : List (Option Expr)) (vs : List Expr) (σ : za) (C : PV → za → R) : R := match ks with
 | [] => an.gd vs.isEmpty (C (.loc σ.length) (σ ++ [.dict []]))
 | k :: ks => chk an ((k :: ks).all (·.isSome) && Nat.beq (k :: ks).length vs.length && Nat.ble (k :: ks).length 15)
   (XZ an (fun e σ C => ih (.ex f e ρ σ C)) (k :: ks) vs (σ ++ [.dict []]) fun es σ1 => dictE an σ.length es σ1 C)
def callX (f : Fr0) (ρ : zc) (fn : Expr) (args : List Expr) (pos : Pos) (σ : za) (C : PV → za → R) : R := match fn with
 | .Attribute o name apos => chk an (Yi o && yi args && Nat.ble args.length 20 && Nat.beq apos.endLine pos.line) (ih (.ex f o ρ σ fun v σ1 => qx an W ih f name args ρ v σ1 C))
 | fn => chk an (yi args) (ih (.ex f fn ρ σ fun v σ1 => chk an (XR W v) (ih (.exs f args ρ σ1 fun vs σ2 => ih (.callV f.dp v vs σ2 C)))))
def F5 (f : Fr0) (e : Expr) (ρ : zc) (σ : za) (C : PV → za → R) : R := match e with
 | .Constant c _ _ => zr an.bad (Ge c) fun v => C v σ
 | .Name x _ => J2 an W f x ρ fun v => C v σ
 | .Attribute o x _ => chk an (Yi o) (ih (.ex f o ρ σ fun v σ1 => attrV an W σ1 v x fun u => C u σ1))
 | .BinOp l op r _ => ih (.ex f l ρ σ fun a σ1 => ih (.ex f r ρ σ1 fun b σ2 => binop an σ2 op a b fun v => C v σ2))
 | .UnaryOp op x _ => ih (.ex f x ρ σ fun v σ1 => zr an.bad (unV op v) fun r => C r σ1)
 | .BoolOp op es _ => Dc an ih f op ρ es σ C
 | .Compare l ops rs _ => zr an.bad (one? ops) fun op => zr an.bad (one? rs) fun r => chk an (!behindInMarks op r) (ih (.ex f l ρ σ fun a σ1 => ih (.ex f r ρ σ1 fun b σ2 => zr an.bad (z0 σ2 op a b) fun t => C (.bool t) σ2)))
 | .IfExp t b o _ => ih (.tst f t ρ σ fun c σ1 => match c with | true => ih (.ex f b ρ σ1 C) | false => ih (.ex f o ρ σ1 C))
 | .Tuple es _ _ => chk an (yi es) (ih (.exs f es ρ σ fun vs σ1 => chk an (Nat.ble vs.length 1000) (C (.tup vs) σ1)))
 | .List es _ => chk an (yi es) (ih (.exs f es ρ σ fun vs σ1 => chk an (Nat.ble vs.length 1000) (C (.loc σ1.length) (σ1 ++ [.list vs]))))
 | .Dict ks vs _ => Aj an ih f ρ ks vs σ C
 | .Subscript v s _ => B5 an ih f ρ v s σ C
 | .Call fn args kws pos => an.gd kws.isEmpty (callX an W ih f ρ fn args pos σ C)
 | _ => an.bad
end
section
variable {s s' s₁ : Shared} {Q : KV} {E : KV} {A : Around} {env : Env} {f : Fr0} {ρ : zc} {kf : Frag} {W : Wd} {R : Type} (an : Ans R) {ih : yg R → R}
theorem Yl (hs : Sound P w K base an ih) (am : Amb A f.dp) (ek : z3 env f) (S : St w K base Z μ σ s) (L : LR w Z μ base s env ρ) {o : Option Expr} {C : PV → za → R} (c : an.I (E7 ih f ρ o σ C)) (H : Ret w K base Z μ s (fun v σ => an.I (C v σ)) Q) : wpC (model P w) A (evalPart o env) Q s := by
 cases o with
 | none => exact .of (wpAny_pure (H.here S c .none))
 | some e => exact hs.ex _ _ _ _ _ c A env _ _ _ _ am ek S L H
section
variable (hs : Sound P w K base an ih) (am : Amb A f.dp) (ek : z3 env f) (S : St w K base Z μ σ s) (L : LR w Z μ base s env ρ) {C : PV → za → R} (H : Ret w K base Z μ s (fun v σ => an.I (C v σ)) Q)
include hs am ek S L H
theorem Ed (lk : Low K base) {v : Expr} {lo up : Option Expr} {sp pos : Pos} (c : an.I (JU an ih f ρ v lo up none σ C)) : wpC (model P w) A (eval (.Subscript v (.Slice lo up none sp) pos) env) Q s := by
 refine xJ (hs.ex _ _ _ _ _ c A env _ _ _ _ am ek S L fun x σ1 s₁ Z1 μ1 a c1 S1 X1 r1 => ?_)
 have L1 := L.ext S X1
 have H1 := H.later X1
 clear H L S c X1
 refine Dk (Yl an hs am ek S1 L1 c1 fun l σ2 s₂ Z2 μ2 la c2 S2 X2 r2 => ?_)
 have L2 := L1.ext S1 X2
 have H₂ := H1.later X2
 have r1 := r1.later S1 X2
 clear H1 L1 S1 c1 X2
 refine Yl an hs am ek S2 L2 c2 fun u σ3 s3 Z3 μ3 ua c3 S3 X3 r3 => ?_
 obtain ⟨i, hi, c3⟩ := an.om c3
 obtain ⟨j, hj, c3⟩ := an.om c3
 obtain ⟨r, hr, c3⟩ := an.hV c3
 obtain ⟨T, id, h1, h2, h3⟩ := cut_at (P := P) (A := A) (E := NoE) an lk S3 (r1.later S2 X3) (r2.later S2 X3) r3 hi hj hr c3 (H₂.later X3)
 exact .of (wpAny_pure (EI h1 h2 h3 rfl))
theorem DA (lk : Low K base) {v e : Expr} {sp pos : Pos} (c : an.I (ih (.ex f v ρ σ fun x σ1 => ih (.ex f e ρ σ1 fun i σ2 => Cf an σ2 x i fun r => C r σ2)))) : wpC (model P w) A (eval (.Subscript v (.Slice none none (some e) sp) pos) env) Q s := by
 refine xJ (hs.ex _ _ _ _ _ c A env _ _ _ _ am ek S L fun x σ1 s₁ Z1 μ1 a c1 S1 X1 r1 => ?_)
 have L1 := L.ext S X1
 have H1 := H.later X1
 clear H L S c X1
 refine Dk (.of (wpAny_pure (.of (wpAny_pure ?_))))
 refine hs.ex _ _ _ _ _ c1 A env _ _ _ _ am ek S1 L1 fun i σ2 s₂ Z2 μ2 b c2 S2 X2 r2 => ?_
 obtain ⟨k, hk, c2⟩ := an.om c2
 obtain ⟨hk1, c2⟩ := (zk an).mp c2
 obtain ⟨r, hr, c2⟩ := an.om c2
 obtain ⟨t, rfl⟩ := r2.i hk
 rw [dt hk1]
 obtain ⟨T, id, h1, h2, h3⟩ := rev_at (P := P) (A := A) (E := NoE) (t := t) an lk S2 (r1.later S1 X2) hr c2 (H1.later X2)
 exact EI h1 h2 h3 rfl
theorem Bp {v sl : Expr} (hn : Cu sl = true) {pos : Pos} (c : an.I (ih (.ex f v ρ σ fun x σ1 => ih (.ex f sl ρ σ1 fun i σ2 => an.opV (yI σ2 x i) fun r => C r σ2)))) : wpC (model P w) A (eval (.Subscript v sl pos) env) Q s := by
 refine xJ (hs.ex _ _ _ _ _ c A env _ _ _ _ am ek S L fun x σ1 s₁ Z1 μ1 a c1 S1 X1 r1 => ?_)
 have L1 := L.ext S X1
 have H1 := H.later X1
 clear H L S c X1
 refine hs.ex _ _ _ _ _ c1 A env _ _ _ _ am ek S1 L1 fun i σ2 s₂ Z2 μ2 b c2 S2 X2 r2 => ?_
 obtain ⟨r, hr, c2⟩ := an.hV c2
 have H2 := H1.later X2
 obtain ⟨T, id, h1, h2, h3⟩ := Bu (P := P) (A := A) (E := NoE) (Q := Q) S2 (r1.later S1 X2) r2 hr fun b k rb => H2.tok S2 c2 rb
 exact EI h1 h2 h3 (qp hn _ _)
theorem JC (lk : Low K base) {v sl : Expr} {pos : Pos} (c : an.I (B5 an ih f ρ v sl σ C)) : wpC (model P w) A (eval (.Subscript v sl pos) env) Q s := by
 rcases sl <;> first | exact Bp an hs am ek S L H rfl c | skip
 rename_i lo up st sp
 cases st with
 | none => exact Ed an hs am ek S L H lk c
 | some e =>
  obtain ⟨h, c⟩ := an.gdI c
  rw [Option.isNone_iff_eq_none.mp (bl h), Option.isNone_iff_eq_none.mp (br h)]
  exact DA an hs am ek S L H lk c
end
theorem St.newDict (hk : Low K base) (S : St w K base Z μ σ s) : St w K base Z (μ ++ [s.heap.objs.size]) (σ ++ [.dict []]) { s with heap := s.heap.push { cls := .type "dict", data := .dict #[] } } ∧ (∀ W, Ext W Z μ s Z (μ ++ [s.heap.objs.size]) { s with heap := s.heap.push { cls := .type "dict", data := .dict #[] } }) :=
 S.new (k := s.toks) (c := .dict []) (a := s.heap.objs.size) hk (fun b o e => Heap.get?_push_of_some _ e) (zS _) (.dict (n := 0) (ds := #[]) (Heap.get?_push_size _ rfl) .nil)
section
variable (hs : Sound P w K base an ih) (ok : WOk w K base kf W) (am : Amb A f.dp) (ek : z3 env f) (S : St w K base Z μ σ s) (L : LR w Z μ base s env ρ) {C : PV → za → R} (H : Ret w K base Z μ s (fun v σ => an.I (C v σ)) Q)
include hs ok am ek S L H
theorem Ef {l r : Expr} {op : CmpOp} {pos : Pos} (c : an.I (chk an (!behindInMarks op r) (ih (.ex f l ρ σ fun a σ1 => ih (.ex f r ρ σ1 fun b σ2 => zr an.bad (z0 σ2 op a b) fun t => C (.bool t) σ2))))) : wpC (model P w) A (eval (.Compare l [op] [r] pos) env) Q s := by
 obtain ⟨hb, c⟩ := (zk an).mp c
 refine BY (hs.ex _ _ _ _ _ c A env _ _ _ _ am ek S L fun a σ1 s₁ Z1 μ1 av c1 S1 X1 r1 => ?_) ((Bool.not_eq_true' _).mp hb)
 have L1 := L.ext S X1
 have H1 := H.later X1
 clear H L S c X1 hb
 refine hs.ex _ _ _ _ _ c1 A env _ _ _ _ am ek S1 L1 fun b σ2 s₂ Z2 μ2 bv c2 S2 X2 r2 => ?_
 obtain ⟨t, ht, c2⟩ := an.om c2
 refine Ju am.hd (Nat.lt_of_le_of_lt (Nat.add_le_add (Nat.le_add_right _ _) (by decide)) am.units) S2 (r1.later S1 X2) r2 ht fun h' k g => ?_
 exact (H1.later X2).grow ok.low S2 g c2 .bool
theorem tupL {es : List Expr} {x : Nat} {pos : Pos} (c : an.I (chk an (yi es) (ih (.exs f es ρ σ fun vs σ1 => chk an (Nat.ble vs.length 1000) (C (.tup vs) σ1))))) : wpC (model P w) A (eval (.Tuple es x pos) env) Q s := by
 obtain ⟨hn, c⟩ := (zk an).mp c
 refine C_Tuple (hs.exs _ _ _ _ _ c hn A env _ _ _ _ am ek S L (fun vs σ1 s₁ Z1 μ1 as c1 S1 X1 r1 => ?_) _)
 obtain ⟨hl, c1⟩ := (zk an).mp c1
 exact ⟨by rw [← r1.length, sizeLine_eq]; exact Nat.le_trans (zu hl) (by decide), (H.later X1).tup ok.low S1 r1 c1⟩
theorem lstL {es : List Expr} {pos : Pos} (c : an.I (chk an (yi es) (ih (.exs f es ρ σ fun vs σ1 => chk an (Nat.ble vs.length 1000) (C (.loc σ1.length) (σ1 ++ [.list vs])))))) : wpC (model P w) A (eval (.List es pos) env) Q s := by
 obtain ⟨hn, c⟩ := (zk an).mp c
 refine C_List (hs.exs _ _ _ _ _ c hn A env _ _ _ _ am ek S L (fun vs σ1 s₁ Z1 μ1 as c1 S1 X1 r1 => ?_) _)
 obtain ⟨hl, c1⟩ := (zk an).mp c1
 exact ⟨by rw [← r1.length, sizeLine_eq]; exact Nat.le_trans (zu hl) (by decide), (H.later X1).newList ok.low S1 r1 c1⟩
theorem BF {ks : List (Option Expr)} {vs : List Expr} {pos : Pos} (c : an.I (Aj an ih f ρ ks vs σ C)) : wpC (model P w) A (eval (.Dict ks vs pos) env) Q s := by
 obtain ⟨S', X⟩ := S.newDict ok.low
 cases ks with
 | nil =>
  obtain ⟨h, c⟩ := an.gdI c
  rw [List.isEmpty_iff.mp h]
  exact .of (wpAny_Dict_empty (H _ _ _ _ _ _ c S' (X _) (.loc (S.at_end _))))
 | cons k ks =>
  obtain ⟨hb, c⟩ := (zk an).mp c
  refine GP (bl (bl hb)) (Nat.eq_of_beq_eq_true (br (bl hb))) (fun q => nomatch q) (zu (br hb)) ?_
  refine JI an (fun e σ C c => hs.ex _ _ _ _ _ c) am ek _ _ c S' (L.ext S (X _)) fun es σ1 s₁ Z1 μ1 as c1 S1 X1 r1 hl => ?_
  exact Ak an ok.low S1 (X1.pre _ _ (S.at_end _)) r1 c1 (by rw [hl]; exact zu (br hb)) (H.later ((X _).trans X1))
theorem Aw {fn : Expr} {args : List Expr} {pos : Pos} (c : an.I (callX an W ih f ρ fn args pos σ C)) : wpC (model P w) A (eval (.Call fn args [] pos) env) Q s := by
 rcases fn <;> first | exact GO an hs ok am ek S L rfl ((zk an).mp c).1 ((zk an).mp c).2 H | skip
 obtain ⟨hb, c⟩ := (zk an).mp c
 exact Qs an hs ok am ek S L (bl (bl (bl hb))) (br (bl (bl hb))) (br (bl hb)) (br hb) c H
end
theorem XY (hs : Sound P w K base an ih) (ok : WOk w K base kf W) {e : Expr} {C : PV → za → R} (c : an.I (F5 an W ih f e ρ σ C)) : y4 P w K base f e ρ σ (fun v σ => an.I (C v σ)) := by
 intro A env s Z μ Q am ek S L H
 replace H : Ret w K base Z μ s (fun v σ => an.I (C v σ)) Q := H
 rcases e <;> first | exact an.no c | skip
 ·exact AB an hs am ek _ c S L H
 ·refine C_BinOp (hs.ex _ _ _ _ _ c A env _ _ _ _ am ek S L fun a σ1 s₁ Z1 μ1 av c1 S1 X1 r1 => ?_)
  refine hs.ex _ _ _ _ _ c1 A env _ _ _ _ am ek S1 (L.ext S X1) fun b σ2 s₂ Z2 μ2 bv c2 S2 X2 r2 => ?_
  exact AC an ok.low S2 (r1.later S1 X2) r2 c2 (H.later (X1.trans X2))
 ·refine Ey (hs.ex _ _ _ _ _ c A env _ _ _ _ am ek S L fun v σ1 s₁ Z1 μ1 a c1 S1 X1 r1 => ?_)
  obtain ⟨r, hr, c1⟩ := an.om c1
  exact Dt hr S1 r1 (H.later X1) c1
 ·refine C_IfExp (hs.tst _ _ _ _ _ c A env _ _ _ _ am ek S L fun b σ1 s₁ Z1 μ1 c1 S1 X1 => ?_)
  rcases b
  ·exact hs.ex _ _ _ _ _ c1 A env _ _ _ _ am ek S1 (L.ext S X1) (H.later X1)
  ·exact hs.ex _ _ _ _ _ c1 A env _ _ _ _ am ek S1 (L.ext S X1) (H.later X1)
 ·exact BF an hs ok am ek S L H c
 ·obtain ⟨op, ho, c⟩ := an.om c
  obtain ⟨r, hr, c⟩ := an.om c
  rw [one?_eq ho, one?_eq hr]
  exact Ef an hs ok am ek S L H c
 ·obtain ⟨hk, c⟩ := an.gdI c
  rw [List.isEmpty_iff.mp hk]
  exact Aw an hs ok am ek S L H c
 ·obtain ⟨v, hv, c⟩ := an.om c
  exact Qa hv S H c
 ·have c := (zk an).mp c
  refine C_Attr c.1 (hs.ex _ _ _ _ _ c.2 A env _ _ _ _ am ek S L fun v σ1 s₁ Z1 μ1 a c1 S1 X1 r1 => ?_)
  exact AK an ok S1 r1 c1 fun u b k c rb => (H.later X1).tok S1 c rb
 ·exact JC an hs am ek S L H ok.low c
 ·exact Ym an ok ek S L c fun v a c r => H.here S c r
 ·exact lstL an hs ok am ek S L H c
 ·exact tupL an hs ok am ek S L H c
end
end
section
section
variable {R : Type} (an : Ans R) (W : Wd) (ih : yg R → R)
noncomputable def C2 (f : Fr0) (es : List Expr) (ρ : zc) (σ : za) (C : List PV → za → R) : R := match es with
 | [] => C [] σ
 | e :: es => ih (.ex f e ρ σ fun v σ1 => ih (.exs f es ρ σ1 fun vs σ2 => C (v :: vs) σ2))
def YM (f : Fr0) (op : BoolOp) (ρ : zc) : List Expr → za → (Bool → za → R) → R
 | [], σ, C => C (match op with | .And => true | .Or => false) σ
 | e :: es, σ, C => ih (.tst f e ρ σ fun b σ1 => boolK op b (C b σ1) (YM f op ρ es σ1 C))
def Yh (f : Fr0) (ρ : zc) : List CmpOp → PV → List Expr → za → (Bool → za → R) → R
 | [], _, _, _, _ => an.bad
 | op :: ops, a, rs, σ, C => (match rs with
  | [] => an.bad
  | r :: rs => (match ops with
   | [] => an.gd rs.isEmpty (ih (.ex f r ρ σ fun b σ1 => an.opB (z0 σ1 op a b) fun t => C t σ1))
   | _ :: _ => an.gd (!rs.isEmpty) (ih (.ex f r ρ σ fun b σ1 => an.opB (z0 σ1 op a b) fun t => (match t with
    | true => Yh f ρ ops b rs σ1 C
    | false => C false σ1)))))
noncomputable def A6 (e : Expr) : Bool := [16, 19, 20, 21, 23].any (Nat.beq e.ctorIdx)
def JP (v : PV) (C : Bool → R) : R := zr an.bad v.o? fun b => an.opB (some b) C
noncomputable def notT (o : UnaryOp) : Bool := Nat.beq o.ctorIdx 1
theorem notT_eq {o : UnaryOp} (h : notT o = true) : o = .Not := by rcases o <;> first | exact nf h | rfl
def B4 (f : Fr0) (e : Expr) (ρ : zc) (σ : za) (C : Bool → za → R) : R := match e with
 | .UnaryOp op x _ => an.gd (notT op) (ih (.tst f x ρ σ fun b σ1 => C (!b) σ1))
 | .BoolOp op es _ => YM ih f op ρ es σ C
 | .Compare l ops rs _ => chk an (!lastMarks ops rs) (ih (.ex f l ρ σ fun a σ1 => Yh an ih f ρ ops a rs σ1 C))
 | e => chk an (A6 e) (ih (.ex f e ρ σ fun v σ1 => JP an v fun b => C b σ1))
end
section
variable {s s' s₁ : Shared} {E : KV} {A : Around} {env : Env} {f : Fr0} {ρ : zc} {kf : Frag} {W : Wd} {R : Type} (an : Ans R) {ih : yg R → R}
theorem x7 (hs : Sound P w K base an ih) {es : List Expr} {C : List PV → za → R} (c : an.I (C2 ih f es ρ σ C)) (ns : yi es = true) : Di P w K base f es ρ σ (fun v σ => an.I (C v σ)) := by
 intro A env s Z μ Q am ek S L H pos
 cases es with
 | nil =>
  rw [jH ns]
  exact .of (wpAny_pure (H [] _ _ _ _ [] c S (Ext.refl ..) .nil))
 | cons e es =>
  have ns' : yi es = true := br ns
  rw [jH ns, List.map_cons, ← jH ns' pos env]
  refine JA (hs.ex _ _ _ _ _ c A env _ _ _ _ am ek S L fun v σ1 s₁ Z1 μ1 a c1 S1 X1 r1 => ?_)
  exact hs.exs _ _ _ _ _ c1 ns' A env _ _ _ _ am ek S1 (L.ext S X1) (fun vs σ2 s₂ Z2 μ2 as c2 S2 X2 r2 => H _ _ _ _ _ _ c2 S2 (X1.trans X2) (.cons (r1.later S1 X2) r2)) pos
theorem JM (hs : Sound P w K base an ih) (am : Amb A f.dp) (ek : z3 env f) {op : BoolOp} (es : List Expr) : ∀ {σ : za} {C : Bool → za → R} {s : Shared} {Z : AP} {μ : LA} {Q : KB}, an.I (YM ih f op ρ es σ C) → St w K base Z μ σ s → LR w Z μ base s env ρ → AN w K base Z μ s (fun v σ => an.I (C v σ)) Q →
  wpC (model P w) A (allTrue op es env) Q s := by
 induction es with
 | nil =>
  intro σ C s Z μ Q c S L H
  show wpC _ _ (pure (op == .And)) _ _
  refine zf ?_
  rcases op <;> exact H.here S c
 | cons e es ih2 =>
  intro σ C s Z μ Q c S L H
  refine T_all (hs.tst _ _ _ _ _ c A env _ _ _ _ am ek S L fun b σ1 s₁ Z1 μ1 c1 S1 X1 => ?_)
  have on : an.I (YM ih f op ρ es σ1 C) → _ := fun c => ih2 c S1 (L.ext S X1) (H.later X1)
  have fin : an.I (C b σ1) → _ := fun c => (H.later X1).here S1 c
  clear hs ih2 S S1 L H X1 am ek c
  rcases op <;> rcases b <;> first | exact fin c1 | exact on c1
theorem cmpT (hk : Low K base) (am : Amb A f.dp) (S : St w K base Z μ σ s) {op : CmpOp} {x y : PV} {a c : Value} {t : Bool} (ra : RV w Z μ s.heap x a) (rb : RV w Z μ s.heap y c) (e : z0 σ op x y = some t) {QB : KB}
  (h : ∀ s', St w K base Z μ σ s' → Ext NoW Z μ s Z μ s' → QB t s') : wpAny (model P w) A (compareOp op a c) (fun c s₂ => wpAny (model P w) A (truthy c) QB NoE s₂) NoE s := by
 refine Ju am.hd (Nat.lt_of_le_of_lt (Nat.add_le_add (Nat.le_add_right _ _) (by decide)) am.units) S ra rb e fun h' k g => ?_
 obtain ⟨S', X⟩ := S.grow (k := k) hk g
 exact jt (h _ S' (X _))
theorem Yx (hs : Sound P w K base an ih) (ok : WOk w K base kf W) (am : Amb A f.dp) (ek : z3 env f) {pos : Pos} (ops : List CmpOp) : ∀ (rs : List Expr) {a : PV} {av : Value} {σ : za} {C : Bool → za → R} {s : Shared} {Z : AP} {μ : LA} {Q : KB}, an.I (Yh an ih f ρ ops a rs σ C) → St w K base Z μ σ s → LR w Z μ base s env ρ → RV w Z μ s.heap a av → AN w K base Z μ s (fun v σ => an.I (C v σ)) Q →
  wpC (model P w) A (testChain pos av ops (evalEach rs env)) Q s := by
 induction ops with
 | nil => intro rs a av σ C s Z μ Q c; exact an.no c
 | cons op ops ih2 =>
  intro rs a av σ C s Z μ Q c S L ra H
  cases rs with
  | nil => exact an.no c
  | cons r rs =>
   cases ops with
   | nil =>
    obtain ⟨h, c⟩ := an.gdI c
    rw [List.isEmpty_iff.mp h]
    refine T_last (hs.ex _ _ _ _ _ c A env _ _ _ _ am ek S L fun b σ1 s₁ Z1 μ1 bv c1 S1 X1 r1 => ?_)
    obtain ⟨t, ht, c1⟩ := an.hB c1
    exact cmpT ok.low am S1 (ra.later S X1) r1 ht fun s' S' X' => H _ _ _ _ _ c1 S' (X1.trans X')
   | cons op' ops =>
    obtain ⟨h, c⟩ := an.gdI c
    cases rs with
    | nil => exact nf h
    | cons r' rs =>
     refine T_link (hs.ex _ _ _ _ _ c A env _ _ _ _ am ek S L fun b σ1 s₁ Z1 μ1 bv c1 S1 X1 r1 => ?_)
     obtain ⟨t, ht, c1⟩ := an.hB c1
     refine cmpT ok.low am S1 (ra.later S X1) r1 ht fun s' S' X' => ?_
     cases t with
     | true => exact ih2 (r' :: rs) c1 S' ((L.ext S X1).ext S1 X') (r1.later S1 X') (H.later (X1.trans X'))
     | false => exact H _ _ _ _ _ c1 S' (X1.trans X')
theorem E1 {e : Expr} {whole : Sem Value} (hp : A6 e = true) : isTrue e env whole = (do let v ← whole; standAt e.pos; holding [v] (truthy v)) := by
 rcases e <;> first | rfl | exact nf hp
theorem xW (hs : Sound P w K base an ih) (ok : WOk w K base kf W) {e : Expr} {C : Bool → za → R} (c : an.I (B4 an ih f e ρ σ C)) : GL P w K base f e ρ σ (fun v σ => an.I (C v σ)) := by
 intro A env s Z μ Q am ek S L H
 have other : an.I (chk an (A6 e) (ih (.ex f e ρ σ fun v σ1 => JP an v fun b => C b σ1))) → wpC (model P w) A (isTrue e env (eval e env)) Q s := fun c => by
  obtain ⟨hp, c⟩ := (zk an).mp c
  refine T_plain (hs.ex _ _ _ _ _ c A env _ _ _ _ am ek S L fun v σ1 s₁ Z1 μ1 a c1 S1 X1 r1 => ?_) (E1 hp)
  obtain ⟨b, hb, c1⟩ := an.om c1
  obtain ⟨t, ht, c1⟩ := an.hB c1
  rw [r1.o hb, Option.some.inj ht]
  exact jt (H _ _ _ _ _ c1 S1 X1)
 rcases e <;> first | exact other c | skip
 ·exact GI (JM an hs am ek _ c S L H)
 ·obtain ⟨h, c⟩ := an.gdI c
  rw [notT_eq h]
  exact T_Not (hs.tst _ _ _ _ _ c A env _ _ _ _ am ek S L fun b σ1 s₁ Z1 μ1 c1 S1 X1 => H _ _ _ _ _ c1 S1 X1)
 ·have c := (zk an).mp c
  refine T_chain (hs.ex _ _ _ _ _ c.2 A env _ _ _ _ am ek S L fun a σ1 s₁ Z1 μ1 av c1 S1 X1 r1 => ?_) ((Bool.not_eq_true' _).mp c.1)
  exact Yx an hs ok am ek _ _ c1 S1 (L.ext S X1) r1 (AN.later H X1)
end
end
section
def nmOf (f : Fr0) (line : Nat) : Expr → Option Str
 | .Name id pos => if lk f.kd id == some .local && pos.line == line then some id else none
 | _ => none
def nms (f : Fr0) (ts : List Expr) : List Str := ts.filterMap (nmOf f ((ts.head?.map (·.pos.line)).getD 0))
def EJ (f : Fr0) (ts vs : List Expr) : Option (Option (List Str)) :=
 if (!(ts.length == 2 || ts.length == 3) || vs.length != ts.length) = true then some none
 else bOf (yi vs)
   (if ((nms f ts).length != ts.length || (nms f ts).eraseDups.length != (nms f ts).length) = true then some none
   else if vs.all (foldedForSure 8) = true then some none
   else bOf (!vs.all (constantsAlone 8)) (some (some (nms f ts))))
def EL (f : Fr0) (t value : Expr) : Option (Option (List Str)) := match t with
 | .Tuple ts _ _ => (match value with | .Tuple vs _ _ => EJ f ts vs | _ => some none)
 | .List _ _ => none
 | _ => some none
noncomputable def YH (e : Expr) : Bool := ![8, 9, 10].any (Nat.beq e.ctorIdx)
section
variable {s s' s₁ : Shared} {E : KV} {A : Around} {env : Env} {f : Fr0} {ρ : zc} {kf : Frag} {W : Wd} {R : Type} (an : Ans R) {ih : yg R → R}
theorem Bd {vs : List Expr} : yi vs = true → (vs.any fun | .Starred .. => true | _ => false) = false := by
 induction vs with
 | nil => exact fun _ => rfl
 | cons e es ih =>
  intro h
  have hs := bl h
  rw [List.any_cons, ih (br h), Bool.or_false]
  clear ih h
  rcases e <;> first | rfl | exact nf hs
theorem FZ {g g' : Expr → Option Str} {ts : List Expr} (h : ∀ e, g e = g' e) : ts.filterMap g = ts.filterMap g' := by rw [funext h]
theorem Et {g g' : Expr → Bool} {vs : List Expr} (h : ∀ e, g e = g' e) : vs.any g = vs.any g' := by rw [funext h]
theorem Qx (ek : z3 env f) {ts vs : List Expr} {q1 q2 : Nat} {p1 p2 : Pos} {sw : Option (List Str)} (h : EJ f ts vs = some sw) : swappedStores [.Tuple ts q1 p1] (.Tuple vs q2 p2) env = pure sw := by
 have hb : env.blockKind = .function := by unfold Env.blockKind; rw [ek.kind]; rfl
 unfold EJ at h
 unfold swappedStores
 dsimp only
 rw [hb, FZ (g' := nmOf f ((ts.head?.map (·.pos.line)).getD 0)) (ts := ts) (fun e => by
  rcases e <;> first | rfl | (show (if (env.kindOf _ == some .local && _) = true then some _ else none) = (if (lk f.kd _ == some .local && _) = true then some _ else none); rw [ek.kindOf]))]
 by_cases h1 : (!(ts.length == 2 || ts.length == 3) || vs.length != ts.length) = true
 ·rw [if_pos h1] at h
  rw [if_pos (by rw [h1]; rfl), Option.some.inj h]
 ·rw [if_neg h1] at h
  obtain ⟨h2, h⟩ := zQ h
  rw [Bool.not_eq_true] at h1
  rw [if_neg (by rw [h1]; decide), if_neg (by rw [Et (g' := fun | .Starred .. => true | _ => false) (vs := vs) (fun e => by rcases e <;> rfl), Bd h2]; exact Bool.false_ne_true)]
  show (if ((nms f ts).length != ts.length || (nms f ts).eraseDups.length != (nms f ts).length) = true then _ else _) = _
  by_cases h3 : ((nms f ts).length != ts.length || (nms f ts).eraseDups.length != (nms f ts).length) = true
  ·rw [if_pos h3] at h
   rw [if_pos h3, Option.some.inj h]
  ·rw [if_neg h3] at h ⊢
   by_cases h4 : vs.all (foldedForSure 8) = true
   ·rw [if_pos h4] at h
    rw [if_pos h4, Option.some.inj h]
   ·rw [if_neg h4] at h ⊢
    obtain ⟨h5, h⟩ := zQ h
    rw [(Bool.not_eq_true' _).mp h5, if_neg Bool.false_ne_true, ← Option.some.inj h]; rfl
theorem qo (ek : z3 env f) {t value : Expr} {sw : Option (List Str)} (h : EL f t value = some sw) : swappedStores [t] value env = pure sw := by
 rcases t <;> first | (rw [← Option.some.inj h]; rfl) | exact no h | skip
 rcases value <;> first | (rw [← Option.some.inj h]; rfl) | skip
 exact Qx ek h
theorem YT {e : Expr} {line : Nat} (h : YH e = true) : swapsWith e none line env = pure false := by
 rcases e <;> first | rfl | exact nf h
theorem JQ {t e : Expr} {line : Nat} (h : YH e = true) : swapsWithSole [t] e line env = pure false := by
 rcases e <;> first | rfl | exact nf h
end
end
section
section
variable {R : Type} (an : Ans R) (W : Wd) (ih : yg R → R)
noncomputable def addT (o : Operator) : Bool := Nat.beq o.ctorIdx 0
def FG (σ : za) (op : Operator) (x y : PV) (C : PV → za → R) : R := an.gd (addT op) (match x with
  | .int a => zr an.bad y.i? fun b => C (.int (a + b)) σ
  | .loc l => zr an.bad y.y? fun c => zr an.bad (σ[l]?.bind Eo) fun b => chk an (Nat.ble (b.size + c.size) 10000) (C (.loc l) (σ.set l (.barr (b ++ c))))
  | _ => an.bad)
def A4 (f : Fr0) : List Str → List PV → zc → (zc → R) → R
 | [], vs, ρ, C => an.gd vs.isEmpty (C ρ)
 | x :: xs, vs, ρ, C => (match vs with | [] => an.bad | v :: vs => chk an (Jj f x) (A4 f xs vs (put ρ x v) C))
def swStep (f : Fr0) (xs : List Str) (v : PV) (ρ : zc) (C : zc → R) : R := zr an.bad v.t? fun vs => chk an (Nat.beq vs.length xs.length) (A4 an f xs.reverse vs.reverse ρ C)
def Df (f : Fr0) (t e : Expr) (ρ : zc) (σ : za) (C : Fl → zc → za → R) : R := chk an (YH e && !q9 t) (zr an.bad (EL f t e) fun sw => match sw with
  | none => ih (.ex f e ρ σ fun v σ1 => asg an W (fun e ρ σ C => ih (.ex f e ρ σ C)) f 2 t v ρ σ1 fun ρ2 σ2 => C .next ρ2 σ2)
  | some xs => ih (.ex f e ρ σ fun v σ1 => swStep an f xs v ρ fun ρ2 => C .next ρ2 σ1))
noncomputable def nam? : Expr → Option Str
 | .Name x _ => some x
 | _ => none
noncomputable def nextK (k : zc → za → R) (C : Fl → zc → za → R) (fl : Fl) (ρ : zc) (σ : za) : R := match fl with | .next => k ρ σ | fl => C fl ρ σ
def EN (f : Fr0) (s : Stmt) (ρ : zc) (σ : za) (C : Fl → zc → za → R) : R := match s with
 | .Expr e _ => chk an (YH e) (ih (.ex f e ρ σ fun _ σ1 => C .next ρ σ1))
 | .Assign ts e _ => zr an.bad (one? ts) fun t => Df an W ih f t e ρ σ C
 | .AugAssign t op e _ => zr an.bad (nam? t) fun x => J2 an W f x ρ fun old => ih (.ex f e ρ σ fun v σ1 => FG an σ1 op old v fun r σ2 => chk an (Jj f x) (C .next (put ρ x r) σ2))
 | .If t b o _ => ih (.tst f t ρ σ fun c σ1 => ih (.sts f (match c with | true => b | false => o) ρ σ1 C))
 | .Return e _ => (match e with | some e => ih (.ex f e ρ σ fun v σ1 => C (.ret v) ρ σ1) | none => C (.ret .none) ρ σ)
 | .Pass _ => C .next ρ σ
 | .While t b o _ => ih (.whl f t b o ρ σ C)
 | .Try b hs o fin _ => an.gd fin.isEmpty (ih (.sts f b ρ σ (nextK (fun ρ1 σ1 => ih (.sts f o ρ1 σ1 C)) C)))
 | _ => an.bad
end
section
variable (P : Program) (w : World) (K : Heap) (base : AP) {R : Type} (an : Ans R)
def GK (f : Fr0) (t : Expr) (b o : List Stmt) (ρ : zc) (σ : za) (C : KF) : Prop :=
 ∀ (A : Around) (env : Env) (s : Shared) (Z : AP) (μ : LA) (Q : KG), Amb A f.dp → z3 env f → St w K base Z μ σ s → LR w Z μ base s env ρ →
  (∀ v ρ' σ' s' Z' μ' a, C v ρ' σ' → St w K base Z' μ' σ' s' → LR w Z' μ' base s' env ρ' → Ext (FS env) Z μ s Z' μ' s' → v.R w Z' μ' s'.heap a → Q a s') → zV (model P w) A (.whileLoop t b o env) Q s
structure SoundW (ih : yg R → R) : Prop extends Sound P w K base an ih where
 whl : ∀ f t b o ρ σ C, an.I (ih (.whl f t b o ρ σ C)) → GK P w K base f t b o ρ σ (fun fl ρ σ => an.I (C fl ρ σ))
def YN (f : Fr0) (st : Stmt) (ρ : zc) (σ : za) (C : KF) : Prop :=
 ∀ (A : Around) (env : Env) (s : Shared) (Z : AP) (μ : LA) (Q : KG), Amb A f.dp → z3 env f → St w K base Z μ σ s → LR w Z μ base s env ρ →
  (∀ v ρ' σ' s' Z' μ' a, C v ρ' σ' → St w K base Z' μ' σ' s' → LR w Z' μ' base s' env ρ' → Ext (FS env) Z μ s Z' μ' s' → v.R w Z' μ' s'.heap a → Q a s') → wpC (model P w) A (exec st env) Q s
end
section
variable {s s' s₁ : Shared} {Q : KV} {E : KV} {A : Around} {env : Env} {f : Fr0} {ρ : zc} {kf : Frag} {W : Wd} {R : Type} (an : Ans R) {ih : yg R → R}
theorem Q4 (hk : Low K base) {op : Operator} {x y : PV} {a b : Value} {C : PV → za → R} (S : St w K base Z μ σ s) (ra : RV w Z μ s.heap x a) (rb : RV w Z μ s.heap y b) (c : an.I (FG an σ op x y C)) (H : Ret w K base Z μ s (fun v σ => an.I (C v σ)) Q) :
  wpC (model P w) A (inplaceOp op a b) Q s := by
 obtain ⟨ho, c⟩ := an.gdI c
 rw [show op = .Add by rcases op <;> first | rfl | exact nf ho]
 have r := ra.inv
 rcases x <;> first | exact an.no c | skip
 ·obtain ⟨t, rfl⟩ := r
  obtain ⟨j, hj, c⟩ := an.om c
  obtain ⟨u, rfl⟩ := rb.i hj
  exact .of (AutoIntOps.iadd_0 (H.tok S c .int))
 ·obtain ⟨d, hm, rfl⟩ := r
  obtain ⟨y, hy, c⟩ := an.om c
  obtain ⟨b, hb, c⟩ := an.om c
  obtain ⟨hz, c⟩ := (zk an).mp c
  obtain ⟨u, rfl⟩ := rb.y hy
  refine iadd_ba (S.barAt hb hm) (zu hz) fun h' hs hg => ?_
  obtain ⟨S', X⟩ := S.put (k := s.toks) hk hm hs (.barr hg)
  exact H _ _ _ _ _ _ c S' (X _) (.loc hm)
theorem XE (hk : Low K base) (am : Amb A f.dp) (ek : z3 env f) (xs : List Str) : ∀ (vs : List PV) {as : List Value} {ρ : zc} {C : zc → R} {s : Shared} {Q : KU}, an.I (A4 an f xs vs ρ C) → St w K base Z μ σ s → LR w Z μ base s env ρ → RVs w Z μ s.heap vs as →
   (∀ ρ' s', an.I (C ρ') → St w K base Z μ σ s' → LR w Z μ base s' env ρ' → Ext (FS env) Z μ s Z μ s' → Q () s') →
   wpC (model P w) A (assignInOrder (xs.map fun n => bindName env n) as) Q s := by
 induction xs with
 | nil => intro vs as ρ C s Q c S L r H; exact qY (H _ _ (an.gdI c).2 S L (Ext.refl ..))
 | cons x xs ih2 =>
  intro vs as ρ C s Q c S L r H
  cases vs with
  | nil => exact an.no c
  | cons v vs =>
   obtain ⟨a, as, r1, r2, rfl⟩ := r.inv
   obtain ⟨h, c⟩ := (zk an).mp c
   rw [List.map_cons]
   refine jX (yc (.of (YU hk ek S L r1 (fun s' S' L' X' => ?_) h)))
   exact ih2 vs c S' L' (r2.own S L X') fun ρ' s'' c'' S'' L'' X'' => H _ _ c'' S'' L'' (X'.trans X'')
end
end
section
section
variable {s s' s₁ : Shared} {E : KV} {A : Around} {env : Env} {f : Fr0} {ρ : zc} {kf : Frag} {W : Wd} {R : Type} (an : Ans R) {ih : yg R → R}
theorem Jl (ek : z3 env f) : interactive env = false := by
 unfold interactive; rw [ek.kind]; rfl
theorem nam?_eq {e : Expr} {x : Str} (h : nam? e = some x) : ∃ p, e = .Name x p := by rcases e <;> first | exact no h | (rw [← Option.some.inj h]; exact ⟨_, rfl⟩)
section
variable (hs : SoundW P w K base an ih) (ok : WOk w K base kf W) (am : Amb A f.dp) (ek : z3 env f) (S : St w K base Z μ σ s) (L : LR w Z μ base s env ρ) {C : Fl → zc → za → R} {Q : KG}
  (H : ∀ v ρ' σ' s' Z' μ' a, an.I (C v ρ' σ') → St w K base Z' μ' σ' s' → LR w Z' μ' base s' env ρ' → Ext (FS env) Z μ s Z' μ' s' → v.R w Z' μ' s'.heap a → Q a s')
include hs ok am ek S L H
theorem asgS {t e : Expr} {pos : Pos} (c : an.I (Df an W ih f t e ρ σ C)) : wpC (model P w) A (exec (.Assign [t] e pos) env) Q s := by
 obtain ⟨hb, c⟩ := (zk an).mp c
 obtain ⟨sw, hsw, c⟩ := an.om c
 cases sw with
 | none =>
  refine Jz (sw := none) (hs.ex _ _ _ _ _ c A env _ _ _ _ am ek S L fun v σ1 s₁ Z1 μ1 a c1 S1 X1 r1 => AM ?_) (JQ (bl hb)) (qo ek hsw)
  rw [jR ((Bool.not_eq_true' _).mp (br hb))]
  show wpC _ _ (assignAll a [assign t env]) _ _
  exact Xm an (fun e ρ σ C c => hs.ex _ _ _ _ _ c) ok 2 _ _ _ _ _ c1 A env s₁ Z1 μ1 _ a am ek S1 (L.ext S X1) r1 fun ρ2 σ2 s₂ Z2 μ2 c2 S2 L2 X2 => H .next _ _ _ _ _ .next c2 S2 L2 (X1.own.trans X2) trivial
 | some xs =>
  refine Jz (sw := some xs) (hs.ex _ _ _ _ _ c A env _ _ _ _ am ek S L fun v σ1 s₁ Z1 μ1 a c1 S1 X1 r1 => ?_) (JQ (bl hb)) (qo ek hsw)
  have L1 := L.ext S X1
  clear L S c hsw hb
  obtain ⟨vs, hv, c1⟩ := an.om c1
  obtain ⟨hl, c1⟩ := (zk an).mp c1
  rw [PV.t?_eq hv] at r1
  obtain ⟨l, its, n, z, g, q, rfl⟩ := r1.inv
  unfold assignStores
  refine ze (wpAny_rule ?_)
  rw [show xs.length = _ from (Nat.eq_of_beq_eq_true hl).symm.trans q.length]
  refine ze (unpackItems_tuple am.hd (z8 g) fun h' he => ?_)
  obtain ⟨S', X'⟩ := S1.ext' (k := s₁.toks) ok.low he
  exact zb (XE an ok.low am ek _ _ c1 S' (L1.ext S1 (X' _)) (q.later S1 (X' _)).reverse fun ρ' s'' c'' S'' L'' X'' => zf (H .next _ _ _ _ _ .next c'' S'' L'' ((X1.own.trans (X' _)).trans X'') trivial))
theorem augS {x : Str} {px pos : Pos} {op : Operator} {e : Expr} (c : an.I (J2 an W f x ρ fun old => ih (.ex f e ρ σ fun v σ1 => FG an σ1 op old v fun r σ2 => chk an (Jj f x) (C .next (put ρ x r) σ2)))) : wpC (model P w) A (exec (.AugAssign (.Name x px) op e pos) env) Q s := by
 refine Ew (Jf an ok ek S L c fun old a c1 r1 => ?_).1
 refine hs.ex _ _ _ _ _ c1 A env _ _ _ _ am ek S L fun v σ2 s₂ Z2 μ2 b c2 S2 X2 r2 => ?_
 have L2 := L.ext S X2
 have r1 := r1.later S X2
 clear L S c c1
 refine Q4 an ok.low S2 r1 r2 c2 fun r σ3 s3 Z3 μ3 rv c3 S3 X3 r3 => ?_
 have c3 := (zk an).mp c3
 exact YU ok.low ek S3 (L2.ext S2 X3) r3 (fun s' S' L' X' => H .next _ _ _ _ _ .next c3.2 S' L' ((X2.trans X3).own.trans X') trivial) c3.1
end
theorem Xy (hs : SoundW P w K base an ih) (ok : WOk w K base kf W) {st : Stmt} {C : Fl → zc → za → R} (c : an.I (EN an W ih f st ρ σ C)) : YN P w K base f st ρ σ (fun fl ρ σ => an.I (C fl ρ σ)) := by
 intro A env s Z μ Q am ek S L H
 rcases st <;> first | exact an.no c | skip
 ·rename_i e pos
  cases e with
  | some e => exact GH (hs.ex _ _ _ _ _ c A env _ _ _ _ am ek S L fun v σ1 s₁ Z1 μ1 a c1 S1 X1 r1 => H (.ret v) _ _ _ _ _ (.ret a) c1 S1 (L.ext S X1) X1.own r1)
  | none => exact JN (H (.ret .none) _ _ _ _ _ (.ret .none) c S L (Ext.refl ..) .none)
 ·obtain ⟨t, ht, c⟩ := an.om c
  rw [one?_eq ht]
  exact asgS an hs ok am ek S L H c
 ·obtain ⟨x, hx, c⟩ := an.om c
  obtain ⟨p, rfl⟩ := nam?_eq hx
  exact augS an hs ok am ek S L H c
 ·exact X_While (hs.whl _ _ _ _ _ _ _ c A env _ _ _ _ am ek S L H)
 ·refine X_If (hs.tst _ _ _ _ _ c A env _ _ _ _ am ek S L fun b σ1 s₁ Z1 μ1 c1 S1 X1 => ?_)
  exact hs.sts _ _ _ _ _ c1 A env _ _ _ _ am ek S1 (L.ext S X1) fun v ρ' σ' s' Z' μ' a c S' L' X' r => H _ _ _ _ _ _ _ c S' L' (X1.own.trans X') r
 ·obtain ⟨h, c⟩ := an.gdI c
  rw [List.isEmpty_iff.mp h]
  refine X_Try (hs.sts _ _ _ _ _ c A env _ _ _ _ am ek S L fun v ρ1 σ1 s₁ Z1 μ1 a c1 S1 L1 X1 r1 => ?_)
  have H1 := fun v a c r => H v ρ1 σ1 s₁ Z1 μ1 a c S1 L1 X1 r
  rcases v <;> rcases a <;> first | exact r1.elim | exact H1 _ _ c1 r1 | skip
  exact hs.sts _ _ _ _ _ c1 A env _ _ _ _ am ek S1 L1 fun v ρ' σ' s' Z' μ' a c S' L' X' r => H _ _ _ _ _ _ _ c S' L' (X1.trans X') r
 ·have c := (zk an).mp c
  exact X_Expr (hs.ex _ _ _ _ _ c.2 A env _ _ _ _ am ek S L fun v σ1 s₁ Z1 μ1 a c1 S1 X1 r1 => H .next _ _ _ _ _ .next c1 S1 (L.ext S X1) X1.own trivial) (Jl ek) (YT c.1)
 ·exact X_Pass (H .next _ _ _ _ _ .next c S L (Ext.refl ..) trivial)
end
end
section
section
variable {R : Type} (an : Ans R) (ih : yg R → R)
noncomputable def Qo (k : zc → za → R) (C : Fl → zc → za → R) (fl : Fl) (ρ : zc) (σ : za) : R := match fl with
 | .next => k ρ σ
 | .cont => k ρ σ
 | .brk => C .next ρ σ
 | .ret v => C (.ret v) ρ σ
def B0 (f : Fr0) (t : Expr) (b o : List Stmt) (ρ : zc) (σ : za) (C : Fl → zc → za → R) : R :=
 ih (.tst f t ρ σ fun c σ1 => match c with
  | true => ih (.sts f b ρ σ1 (Qo (fun ρ2 σ2 => ih (.whl f t b o ρ2 σ2 C)) C))
  | false => ih (.sts f o ρ σ1 C))
end
def GM (I : Nat → Shared → Prop) (Q : KG) (n : Nat) (f : Flow) (s : Shared) : Prop := match f with
 | .next | .cont => ∃ m, m < n ∧ I m s
 | .brk => Q .next s
 | .ret v => Q (.ret v) s
def WhQ (P : Program) (w : World) (A : Around) (env : Env) (b o : List Stmt) (I : Nat → Shared → Prop) (Q : KG) (n : Nat) (c : Bool) (s : Shared) : Prop := match c with
 | true => wpC (model P w) A (execs b env) (GM I Q n) s
 | false => wpC (model P w) A (execs o env) Q s
section
variable {P : Program} {w : World} {K : Heap} {base : AP} {f : Fr0} {R : Type} (an : Ans R)
def RetS (w : World) (K : Heap) (base : AP) (env : Env) (Z : AP) (μ : LA) (s : Shared) (C : KF) (Q : KG) : Prop :=
 ∀ v ρ' σ' s' Z' μ' a, C v ρ' σ' → St w K base Z' μ' σ' s' → LR w Z' μ' base s' env ρ' → Ext (FS env) Z μ s Z' μ' s' → v.R w Z' μ' s'.heap a → Q a s'
theorem QZ {I : Nat → Shared → Prop} {Q : KG} {n : Nat} {fl : Fl} {a : Flow} {k : zc → za → R} {C : Fl → zc → za → R} {ρ : zc} {σ : za} {s : Shared} {Z : AP} {μ : LA} {h : Heap} (c : an.I (Qo k C fl ρ σ)) (r : fl.R w Z μ h a)
  (on : an.I (k ρ σ) → ∃ m, m < n ∧ I m s) (out : ∀ fl a, an.I (C fl ρ σ) → fl.R w Z μ h a → Q a s) : GM I Q n a s := by
 rcases fl <;> rcases a <;> first | exact r.elim | exact on c | exact out .next .next c trivial | exact out (.ret _) (.ret _) c r
noncomputable def WI (w : World) (K : Heap) (base : AP) {R : Type} (an : Ans R) (ev : Nat → zc → za → R) (N : Nat) (env : Env) (Z0 : AP) (μ0 : LA) (s0 : Shared) (k : Nat) (s : Shared) : Prop :=
 k ≤ N ∧ ∃ ρ σ Z μ, an.I (ev k ρ σ) ∧ St w K base Z μ σ s ∧ LR w Z μ base s env ρ ∧ Ext (FS env) Z0 μ0 s0 Z μ s
theorem WI.elim {ev : Nat → zc → za → R} {N : Nat} {env : Env} {Z0 : AP} {μ0 : LA} {s0 : Shared} {k : Nat} {s : Shared} {G : Prop} (h : WI w K base an ev N env Z0 μ0 s0 k s)
  (F : k ≤ N → ∀ ρ σ Z μ, an.I (ev k ρ σ) → St w K base Z μ σ s → LR w Z μ base s env ρ → Ext (FS env) Z0 μ0 s0 Z μ s → G) : G :=
 by obtain ⟨h, ρ, σ, Z, μ, c, S, L, X⟩ := h; exact F h ρ σ Z μ c S L X
theorem Dr (ev : Nat → yg R → R) (h0 : ∀ t, ev 0 t = an.bad) {t : Expr} {b o : List Stmt} {C : Fl → zc → za → R} (h : ∀ k ρ σ, ev (k + 1) (.whl f t b o ρ σ C) = B0 (ev k) f t b o ρ σ C) (N : Nat)
  (hs : ∀ k, k < N → Sound P w K base an (ev k)) {ρ : zc} {σ : za} (c : an.I (ev N (.whl f t b o ρ σ C))) : GK P w K base f t b o ρ σ (fun fl ρ σ => an.I (C fl ρ σ)) := by
 intro A env s0 Z0 μ0 Q am ek S0 L0 H
 replace H : RetS w K base env Z0 μ0 s0 (fun fl ρ σ => an.I (C fl ρ σ)) Q := H
 have turn : ∀ k s, WI w K base an (fun k ρ σ => ev k (.whl f t b o ρ σ C)) N env Z0 μ0 s0 k s → wpC (model P w) A (isTrue t env (eval t env)) (WhQ P w A env b o (WI w K base an (fun k ρ σ => ev k (.whl f t b o ρ σ C)) N env Z0 μ0 s0) Q k) s := by
  intro k s hI
  refine hI.elim an fun hk ρ σ Z μ c S L X => ?_
  clear S0 L0 hI
  cases k with
  | zero => rw [h0] at c; exact an.no c
  | succ k =>
   have hs := hs k hk
   rw [h] at c
   refine hs.tst _ _ _ _ _ c A env _ _ _ _ am ek S L fun v σ1 s₁ Z1 μ1 c1 S1 X1 => ?_
   have L1 := L.ext S X1
   have X1 := X.trans X1.own
   clear c S L X h h0
   cases v with
   | false => exact hs.sts _ _ _ _ _ c1 A env _ _ _ _ am ek S1 L1 fun v ρ' σ' s' Z' μ' a c S' L' X' r => H _ _ _ _ _ _ _ c S' L' (X1.trans X') r
   | true => exact hs.sts _ _ _ _ _ c1 A env _ _ _ _ am ek S1 L1 fun v ρ' σ' s' Z' μ' a c' S' L' X' r => QZ an c' r (fun c => ⟨k, Nat.lt_succ_self k, Nat.le_of_succ_le hk, ρ', σ', Z', μ', c, S', L', X1.trans X'⟩) (fun v a c r => H v ρ' σ' s' Z' μ' a c S' L' (X1.trans X') r)
 exact whileC (R := Q) _ turn N ⟨Nat.le_refl _, ρ, σ, Z0, μ0, c, S0, L0, Ext.refl ..⟩
end
end
section
def yU (σ : za) (src : Src) (i : Nat) : Option (Option PV) := match src with
 | .list v => (ym σ v).bind fun vs => some vs[i]?
 | .tup vs => some vs[i]?
 | .bts b => some (b[i]?.bind fun c => some (.int (c.toNat : Int)))
 | .rng n => some (bOf (decide ((i : Int) < n)) (some (.int i)))
 | .enm v => (ym σ v).bind fun vs => some (vs[i]?.bind fun x => some (.tup [.int i, x]))
noncomputable def Yk (s : Src) (t : Expr) : Bool := match s with
 | .enm _ => Nat.beq t.ctorIdx 25
 | _ => true
section
variable (w : World) (Z : AP) (μ : LA) (h : Heap)
inductive ItR : Src → Nat → Addr → (AP) → Prop
 | list {v l it i} : RV w Z μ h v (.ref l) → h.IsListIter it l i → ItR (.list v) i it (· = it)
 | tup {vs t it i} : RV w Z μ h (.tup vs) (.ref t) → IsTupIter h it t i → ItR (.tup vs) i it (· = it)
 | bts {b it i t} : KBw.IsBytesIter h it b t i → ItR (.bts b) i it (· = it)
 | rng {n it} {i : Nat} : IsRangeIter h it i (n - i) 1 → ItR (.rng n) i it (· = it)
 | enm {v l e it old} {i : Nat} : RV w Z μ h v (.ref l) → IsEnum h e it i old → h.IsListIter it l i → e ≠ it → ItR (.enm v) i e (fun b => b = e ∨ b = it)
inductive ItM : Src → Nat → Addr → (AP) → Value → Prop
 | plain {src i it own a} : (∀ v, src ≠ .enm v) → ItR w Z μ h src i it own → ItM src i it own a
 | enm {v l e it x a} {i : Nat} : RV w Z μ h v (.ref l) → IsEnumOut h e it i x a → h.IsListIter it l i → e ≠ it → ItM (.enm v) i e (fun b => b = e ∨ b = it) (.ref a)
end
def ya (base : AP) (env : Env) (Z : AP) (μ : LA) (s : Shared) (own : AP) : Prop := ∀ b, own b → b ∉ μ ∧ ¬ Z b ∧ ¬ base b ∧ ¬ FS env b ∧ ∃ o, s.heap.get? b = some o
section
variable {s s' s₁ : Shared} {E : KV} {A : Around} {env : Env} {f : Fr0} {ρ : zc} {kf : Frag} {W : Wd} {own : AP}
theorem Y8 (hk : Low K base) (S : St w K base Z μ σ s) (L : LR w Z μ base s env ρ) (O : ya base env Z μ s own) {h' : Heap} {k : Nat} (hp : ∀ b o, ¬ own b → s.heap.get? b = some o → h'.get? b = some o) (hh : ∀ b, own b → ∃ o, h'.get? b = some o) :
  St w K base Z μ σ { s with heap := h', toks := k } ∧ LR w Z μ base { s with heap := h', toks := k } env ρ ∧ ya base env Z μ { s with heap := h', toks := k } own ∧ Ext own Z μ s Z μ { s with heap := h', toks := k } ∧ jd Z μ s.heap Z μ h' := by
 have T : jd Z μ s.heap Z μ h' := ⟨fun _ _ e => e, fun _ e => e, fun b o z e => hp b o (fun q => (O b q).2.1 z) e⟩
 refine ⟨S.turn (s' := { s with heap := h', toks := k }) hk (C := own) (fun b q => ⟨(O b q).1, (O b q).2.1, (O b q).2.2.1⟩) (fun b o e n => hp b o n e), L.turn T (fun b o hb e => hp b o (fun q => (O b q).2.2.2.1 hb) e) L.priv, fun b q => ⟨(O b q).1, (O b q).2.1, (O b q).2.2.1, (O b q).2.2.2.1, hh b q⟩,
  ⟨fun _ _ e => e, fun _ e => e, fun _ e => .inl e, fun _ e => .inl e, fun b o e _ n => hp b o n e, fun b o e => ?_, rfl, rfl⟩, T⟩
 by_cases q : own b
 ·exact hh b q
 ·exact ⟨o, hp b o q e⟩
theorem jk (S : St w K base Z μ σ s) (L : LR w Z μ base s env ρ) (O : ya base env Z μ s own) (X : Ext (FS env) Z μ s Z1 μ1 s₁) : ya base env Z1 μ1 s₁ own ∧ ∀ b o, own b → s.heap.get? b = some o → s₁.heap.get? b = some o := by
 refine ⟨fun b q => ?_, fun b o q e => X.pres b o e (O b q).1 (O b q).2.2.2.1⟩
 obtain ⟨h1, h2, h3, h4, o, h5⟩ := O b q
 exact ⟨fun m => (X.newM b m).elim h1 fun n => zn h5 n, fun z => (X.newZ b z).elim h2 fun n => zn h5 n, h3, h4, o, X.pres b o h5 h1 h4⟩
theorem ItR.keep {src : Src} {i : Nat} {it : Addr} (r : ItR w Z μ s.heap src i it own) (T : jd Z μ s.heap Z1 μ1 s₁.heap) (ho : ∀ b o, own b → s.heap.get? b = some o → s₁.heap.get? b = some o) : ItR w Z1 μ1 s₁.heap src i it own := by
 induction r with
 | list r q => obtain ⟨o, h1, h2⟩ := q; exact .list (r.lift T) ⟨o, ho _ _ rfl h1, h2⟩
 | tup r q => obtain ⟨o, h1, h2⟩ := q; exact .tup (r.lift T) ⟨o, ho _ _ rfl h1, h2⟩
 | bts q => obtain ⟨o, h1, h2⟩ := q; exact .bts ⟨o, ho _ _ rfl h1, h2⟩
 | rng q => exact .rng (ho _ _ rfl q)
 | enm r q g n => obtain ⟨o, h1, h2⟩ := g; exact .enm (r.lift T) (ho _ _ (.inl rfl) q) ⟨o, ho _ _ (.inr rfl) h1, h2⟩ n
theorem St.addZ (S : St w K base Z μ σ s) {n : Addr} {o : Obj} (hn : s.heap.get? n = some o) (hm : n ∉ μ) (hs : n ≠ sysModules) : St w K base (fun a => Z a ∨ a = n) μ σ s := by
 have T : jd Z μ s.heap (fun a => Z a ∨ a = n) μ s.heap := ⟨fun _ _ e => e, fun _ e => .inl e, fun _ _ _ e => e⟩
 refine ⟨S.kin, S.lim, S.big, fun a z => ?_, S.len, S.nd, S.low, fun l c a e1 e2 => ?_, S.stat, S.smod, fun a z => z.elim (S.nsm a) fun q => q ▸ hs, fun a o h n => .inl (S.kz a o h n)⟩
 ·rcases z with z | rfl
  ·exact S.zok a z
  ·exact ⟨⟨_, hn⟩, hm⟩
 ·exact (S.cells l c a e1 e2).lift T fun _ e => e
theorem LR.addZ (L : LR w Z μ base s env ρ) {n : Addr} (hn : ¬ FS env n) : LR w (fun a => Z a ∨ a = n) μ base s env ρ :=
 L.turn ⟨fun _ _ e => e, fun _ e => .inl e, fun _ _ _ e => e⟩ (fun _ _ _ e => e) fun b hb => ⟨(L.priv b hb).1, fun z => z.elim (L.priv b hb).2.1 fun q => hn (q ▸ hb), (L.priv b hb).2.2⟩
theorem RVs.noneA {h : Heap} {vs : List PV} {its : Array Value} {i : Nat} (r : RVs w Z μ h vs its.toList) (e : vs[i]? = none) : its[i]? = none := by
 rw [Array.getElem?_eq_none_iff, r.size]; exact List.getElem?_eq_none_iff.mp e
theorem RVs.getA {h : Heap} {vs : List PV} {its : Array Value} {i : Nat} {v : PV} (r : RVs w Z μ h vs its.toList) (e : vs[i]? = some v) : ∃ a, its[i]? = some a ∧ RV w Z μ h v a := by
 rw [← Array.getElem?_toList]; exact r.get e
theorem DH (hk : Low K base) (S : St w K base Z μ σ s) (L : LR w Z μ base s env ρ) {h' : Heap} {k : Nat} (hp : ∀ b o, s.heap.get? b = some o → h'.get? b = some o) (ho : ∀ b, own b → s.heap.get? b = none ∧ ∃ o, h'.get? b = some o) :
  St w K base Z μ σ { s with heap := h', toks := k } ∧ LR w Z μ base { s with heap := h', toks := k } env ρ ∧ ya base env Z μ { s with heap := h', toks := k } own ∧ (∀ W, Ext W Z μ s Z μ { s with heap := h', toks := k }) := by
 obtain ⟨S', X⟩ := S.grow (k := k) hk hp
 refine ⟨S', L.ext S (X _), fun b q => ?_, X⟩
 obtain ⟨n, h2⟩ := ho b q
 obtain ⟨n1, n2, n3⟩ := S.fresh n
 exact ⟨n1, n2, n3, fun z => by obtain ⟨o, e⟩ := L.has _ z; exact zn e n, h2⟩
end
end
section
section
variable {s s' s₁ : Shared} {E : KV} {A : Around} {env : Env} {f : Fr0} {ρ : zc} {kf : Frag} {W : Wd} {own : AP}
theorem Cr (hk : Low K base) (S : St w K base Z μ σ s) (L : LR w Z μ base s env ρ) (O : ya base env Z μ s own) {h' : Heap} {k : Nat} (hp : ∀ b o, ¬ own b → s.heap.get? b = some o → h'.get? b = some o) :
  St w K base Z μ σ { s with heap := h', toks := k } ∧ LR w Z μ base { s with heap := h', toks := k } env ρ := by
 have T : jd Z μ s.heap Z μ h' := ⟨fun _ _ e => e, fun _ e => e, fun b o z e => hp b o (fun q => (O b q).2.1 z) e⟩
 exact ⟨S.turn (s' := { s with heap := h', toks := k }) hk (C := own) (fun b q => ⟨(O b q).1, (O b q).2.1, (O b q).2.2.1⟩) (fun b o e n => hp b o n e), L.turn T (fun b o hb e => hp b o (fun q => (O b q).2.2.2.1 hb) e) L.priv⟩
section
variable (hk : Low K base) (hh : A.handled = none) (S : St w K base Z μ σ s) (L : LR w Z μ base s env ρ)
structure NxQ (w : World) (K : Heap) (base : AP) (Z : AP) (μ : LA) (σ : za) (s : Shared) (env : Env) (ρ : zc) (own : AP) (src : Src) (i : Nat) (it : Addr) (x : Option PV) (Q : Option Value → Shared → Prop) : Prop where
 fin : x = none → ∀ h' k, (∀ b o, ¬ own b → s.heap.get? b = some o → h'.get? b = some o) → Q none { s with heap := h', toks := k }
 item : ∀ v, x = some v → ∀ Z' s' a, St w K base Z' μ σ s' → LR w Z' μ base s' env ρ → ya base env Z' μ s' own → Ext own Z μ s Z' μ s' → RV w Z' μ s'.heap v a → ItM w Z' μ s'.heap src (i + 1) it own a → Q (some a) s'
variable {src : Src} {i : Nat} {it : Addr} {x : Option PV} {Q : Option Value → Shared → Prop}
include hk S L in
theorem NxQ.one (O : ya base env Z μ s (· = it)) (H : NxQ w K base Z μ σ s env ρ (· = it) src i it x Q) {v : PV} {a : Value} {h' : Heap} {k : Nat} {oi : Obj} (hx : x = some v) (hs : Heap.SameBut it s.heap h') (hi : h'.get? it = some oi) (hn : ∀ u, src ≠ .enm u)
  (F : jd Z μ s.heap Z μ h' → RV w Z μ h' v a ∧ ItR w Z μ h' src (i + 1) it (· = it)) : Q (some a) { s with heap := h', toks := k } := by
 obtain ⟨S', L', O', X', T⟩ := Y8 (k := k) hk S L O (h' := h') (fun b o nb eb => (hs.2 b nb).trans eb) (fun b hb => hb ▸ ⟨oi, hi⟩)
 exact H.item v hx Z _ a S' L' O' X' (F T).1 (.plain hn (F T).2)
include hk hh S L
theorem DO {v : PV} {l : Addr} (O : ya base env Z μ s (· = it)) (r : RV w Z μ s.heap v (.ref l)) (q : s.heap.IsListIter it l i) (e : yU σ (.list v) i = some x) (H : NxQ w K base Z μ σ s env ρ (· = it) (.list v) i it x Q) : wpAny (model P w) A (pyNext (.ref it)) Q E s := by
 obtain ⟨vs, hv, rfl⟩ := zL e
 obtain ⟨b, its, n, hb, g, rs⟩ := z4 S r hv
 cases hb
 cases hx : vs[i]? with
 | none => exact wpAny_pyNext_list_end hh q (zE g) (rs.noneA hx) fun h' he => H.fin hx h' s.toks fun b o nb eb => he b o nb eb
 | some v =>
  obtain ⟨a, ha, rv⟩ := rs.getA hx
  exact wpAny_pyNext_list_item q (zE g) ha fun h' hi hs => H.one hk S L O hx hs hi.choose_spec.1 (fun _ q => nomatch q) fun T => ⟨rv.lift T, .list (r.lift T) hi⟩
theorem Fg {vs : List PV} {t : Addr} (O : ya base env Z μ s (· = it)) (r : RV w Z μ s.heap (.tup vs) (.ref t)) (q : IsTupIter s.heap it t i) (H : NxQ w K base Z μ σ s env ρ (· = it) (.tup vs) i it vs[i]? Q) : wpAny (model P w) A (pyNext (.ref it)) Q E s := by
 obtain ⟨b, its, n, hb, g, rs⟩ := r.tupAt
 cases hb
 cases hx : vs[i]? with
 | none => exact next_tuple_end hh q (z8 g) (rs.noneA hx) fun h' he => H.fin hx h' s.toks fun b o nb eb => he b o nb eb
 | some v =>
  obtain ⟨a, ha, rv⟩ := rs.getA hx
  exact next_tuple_item q (z8 g) ha fun h' hi hs => H.one hk S L O hx hs hi.choose_spec.1 (fun _ q => nomatch q) fun T => ⟨rv.lift T, .tup (r.lift T) hi⟩
theorem Fj {b : BA} {t : Tok} (O : ya base env Z μ s (· = it)) (q : KBw.IsBytesIter s.heap it b t i) (H : NxQ w K base Z μ σ s env ρ (· = it) (.bts b) i it (b[i]?.bind fun c => some (.int (c.toNat : Int))) Q) : wpAny (model P w) A (pyNext (.ref it)) Q E s := by
 cases hx : b[i]? with
 | none => exact KBw.next_end hh q hx fun h' he => H.fin (by rw [hx]; rfl) h' s.toks fun b o nb eb => he b o nb eb
 | some c => exact KBw.next_item q hx fun h' hi hs => H.one hk S L O (by rw [hx]; rfl) hs hi.choose_spec.1 (fun _ q => nomatch q) fun T => ⟨.int, .bts hi⟩
theorem Fh {n : Int} (O : ya base env Z μ s (· = it)) (q : IsRangeIter s.heap it i (n - i) 1) (H : NxQ w K base Z μ σ s env ρ (· = it) (.rng n) i it (bOf (decide ((i : Int) < n)) (some (.int i))) Q) : wpAny (model P w) A (pyNext (.ref it)) Q E s := by
 by_cases hlt : (i : Int) < n
 ·exact wpAny_pyNext_range_item q (Int.sub_pos.mpr hlt) fun h' hi hs => H.one hk S L O (v := .int i) (by rw [decide_eq_true hlt]; rfl) hs hi (fun _ q => nomatch q) fun T => ⟨.int, .rng (by rw [show ((i + 1 : Nat) : Int) = (i : Int) + 1 from rfl, ← Int.sub_sub]; exact hi)⟩
 ·exact wpAny_pyNext_range_end hh q (Int.sub_nonpos_of_le (Int.not_lt.mp hlt)) fun h' he => H.fin (by rw [decide_eq_false hlt]; rfl) h' s.toks fun b o nb eb => he b o nb eb
theorem Fi {v : PV} {l il : Addr} {old : Value} (O : ya base env Z μ s (fun b => b = it ∨ b = il)) (r : RV w Z μ s.heap v (.ref l)) (q : IsEnum s.heap it il i old) (g : s.heap.IsListIter il l i) (ne : it ≠ il) (e : yU σ (.enm v) i = some x) (H : NxQ w K base Z μ σ s env ρ (fun b => b = it ∨ b = il) (.enm v) i it x Q) : wpAny (model P w) A (pyNext (.ref it)) Q E s := by
 obtain ⟨vs, hv, rfl⟩ := zL e
 obtain ⟨b, its, n, hb, gl, rs⟩ := z4 S r hv
 cases hb
 cases hx : vs[i]? with
 | none => exact wpAny_pyNext_enum_end hh q g (zE gl) (rs.noneA hx) fun h' he => H.fin (by rw [hx]; rfl) h' s.toks fun b o nb eb => he b o (fun q => nb (.inr q)) eb
 | some v =>
  obtain ⟨a, ha, rv⟩ := rs.getA hx
  refine wpAny_pyNext_enum_item q g (zE gl) ha ne fun h' h1 h2 h3 h4 h5 => ?_
  obtain ⟨S', L', O', X', T⟩ := Y8 (k := s.toks + 1) hk S L O (h' := h') (fun b o nb eb => h5 b o (fun q => nb (.inl q)) (fun q => nb (.inr q)) eb) (fun b hb => hb.elim (fun e => e ▸ ⟨_, h1⟩) fun e => e ▸ ⟨_, h2.choose_spec.1⟩)
  have nn := zS s.heap
  obtain ⟨nm, _, nb⟩ := S.fresh nn
  have ns : s.heap.objs.size ≠ sysModules := fun q => nb (q ▸ S.smod)
  have T2 : jd Z μ s.heap (fun a => Z a ∨ a = s.heap.objs.size) μ h' := ⟨T.pre, fun a z => .inl (T.sub a z), T.frz⟩
  refine H.item (.tup [.int i, v]) (by rw [hx]; rfl) (fun a => Z a ∨ a = s.heap.objs.size) _ _ (S'.addZ h3 nm ns) (L'.addZ fun q => by obtain ⟨o, e⟩ := L.has _ q; exact zn e nn) (fun b hb => ?_) ?_ ?_ ?_
  ·obtain ⟨o1, o2, o3⟩ := O' b hb
   obtain ⟨_, _, _, _, o, e⟩ := O b hb
   exact ⟨o1, fun z => z.elim o2 fun q => zn e (q ▸ nn), o3⟩
  ·exact ⟨X'.pre, fun a z => .inl (X'.sub a z), fun a z => z.elim (X'.newZ a) fun q => .inr (by rw [q]; exact nn), X'.newM, X'.pres, X'.has, X'.gens, X'.os⟩
  ·exact .tup (.inr rfl) h3 (.cons .int (.cons (rv.lift T2) .nil))
  ·exact .enm (r.lift T2) h1 h2 ne
theorem Jd (O : ya base env Z μ s own) (r : ItR w Z μ s.heap src i it own) (e : yU σ src i = some x)
  (Hend : x = none → ∀ h' k, (∀ b o, ¬ own b → s.heap.get? b = some o → h'.get? b = some o) → Q none { s with heap := h', toks := k })
  (Hit : ∀ v, x = some v → ∀ Z' s' a, St w K base Z' μ σ s' → LR w Z' μ base s' env ρ → ya base env Z' μ s' own → Ext own Z μ s Z' μ s' → RV w Z' μ s'.heap v a → ItM w Z' μ s'.heap src (i + 1) it own a → Q (some a) s') :
  wpAny (model P w) A (pyNext (.ref it)) Q E s := by
 have H : NxQ w K base Z μ σ s env ρ own src i it x Q := ⟨Hend, Hit⟩
 clear Hend Hit
 induction r with
 | list r q => exact DO hk hh S L O r q e H
 | tup r q => exact Fg hk hh S L O r q (Option.some.inj e ▸ H)
 | bts q => exact Fj hk hh S L O q (Option.some.inj e ▸ H)
 | rng q => exact Fh hk hh S L O q (Option.some.inj e ▸ H)
 | enm r q g ne => exact Fi hk hh S L O r q g ne e H
end
theorem xy {target : Expr} {I : Addr} {v : Value} {o : Obj} {Q : KU} {T : String} {xs : Array Value} (ho : s.heap.get? I = some o) (hc : o.cls = .type T) (hd : o.data = .fields xs) (hT : ["enumerate", "zip", "dict_itemiterator", "dict_reverseitemiterator", "odict_iterator", "itertools.zip_longest", "itertools.pairwise"].contains T = false) (h : Q () s) : wpAny (model P w) A (letOwnedTupleGo target (.ref I) v) Q E s := by
 have two : wpAny (model P w) A (letOwnedTupleGo (.Tuple [] 0 default) (.ref I) v) Q E s := by
  rcases v <;> first | exact wpAny_pure h | skip
  refine wpAny_bind (wpAny_load ho ?_)
  rw [hc, hd]
  show wpAny _ _ (if (List.contains _ T && _) = true then _ else _) _ _ _
  rw [hT, Bool.false_and, if_neg Bool.false_ne_true]
  exact wpAny_pure h
 rcases target <;> first | exact wpAny_pure h | exact two
theorem Yp (hk : Low K base) (S : St w K base Z μ σ s) (L : LR w Z μ base s env ρ) (O : ya base env Z μ s own) {src : Src} {i : Nat} {it : Addr} {v : PV} {a : Value} {target : Expr} (r : ItM w Z μ s.heap src i it own a) (rv : RV w Z μ s.heap v a) (ht : Yk src target = true) {Q : KU}
  (H : ∀ s', St w K base Z μ σ s' → LR w Z μ base s' env ρ → ya base env Z μ s' own → Ext own Z μ s Z μ s' → RV w Z μ s'.heap v a → ItR w Z μ s'.heap src i it own → Q () s') : wpAny (model P w) A (letOwnedTupleGo target (.ref it) a) Q E s := by
 induction r with
 | plain hn r =>
  have h := H s S L O (Ext.refl ..) rv r
  clear H rv O S L
  induction r with
  | list r q => obtain ⟨o, ho, hc, hd⟩ := q; exact xy ho hc hd (by decide) h
  | tup r q => exact letGo_tupleiter q h
  | bts q => obtain ⟨o, ho, hc, hd⟩ := q; exact xy ho hc hd (by decide) h
  | rng q => exact xy q rfl rfl (by decide) h
  | enm => exact (hn _ rfl).elim
 | enm r q g ne =>
  rcases target <;> first | exact nf ht | skip
  refine wpAny_letOwnedTupleGo_enum q fun h' h1 h2 => ?_
  obtain ⟨o, ho, g2⟩ := g
  have hit := (h2.2 _ (Ne.symm ne)).trans ho
  obtain ⟨S', L', O', X', T⟩ := Y8 (k := s.toks) hk S L O (h' := h') (fun b o nb eb => (h2.2 b fun q => nb (.inl q)).trans eb) (fun b hb => hb.elim (fun e => e ▸ ⟨_, h1⟩) fun e => e ▸ ⟨_, hit⟩)
  exact H _ S' L' O' X' (rv.lift T) (.enm (r.lift T) h1 ⟨o, hit, g2⟩ ne)
end
end
section
section
variable {R : Type} (an : Ans R) (W : Wd) (ih : yg R → R)
def CX (f : Fr0) (target : Expr) (src : Src) (i : Nat) (b o : List Stmt) (ρ : zc) (σ : za) (C : Fl → zc → za → R) : R := zr an.bad (yU σ src i) fun x => match x with
 | none => ih (.sts f o ρ σ C)
 | some v => chk an (Yk src target) <| asg an W (fun e ρ σ C => ih (.ex f e ρ σ C)) f 2 target v ρ σ fun ρ1 σ1 => ih (.sts f b ρ1 σ1 (Qo (fun ρ2 σ2 => ih (.forL f target src (i + 1) b o ρ2 σ2 C)) C))
def FoQ (P : Program) (w : World) (A : Around) (env : Env) (target : Expr) (it : Addr) (b o : List Stmt) (I : Nat → Shared → Prop) (Q : KG) (n : Nat) (x : Option Value) (s : Shared) : Prop := match x with
 | none => wpC (model P w) A (execs o env) Q s
 | some v => wpAny (model P w) A (letOwnedTupleGo target (.ref it) v) (fun _ s => wpC (model P w) A (assign target env v) (fun _ s => wpC (model P w) A (execs b env) (GM I Q n) s) s) NoE s
def FI (w : World) (K : Heap) (base : AP) (src : Src) (it : Addr) (own : AP) (env : Env) (Z0 : AP) (μ0 : LA) (s0 : Shared) (D : Nat → Nat → zc → za → Prop) (k : Nat) (s : Shared) : Prop :=
 ∃ i ρ σ Z μ, D k i ρ σ ∧ St w K base Z μ σ s ∧ LR w Z μ base s env ρ ∧ ya base env Z μ s own ∧ ItR w Z μ s.heap src i it own ∧ Ext (fun b => FS env b ∨ own b) Z0 μ0 s0 Z μ s
end
section
variable {P : Program} {w : World} {K : Heap} {base : AP} {f : Fr0} {kf : Frag} {W : Wd} {R : Type} (an : Ans R)
theorem FI.elim {src : Src} {it : Addr} {own : AP} {env : Env} {Z0 : AP} {μ0 : LA} {s0 : Shared} {D : Nat → Nat → zc → za → Prop} {k : Nat} {s : Shared} {G : Prop} (h : FI w K base src it own env Z0 μ0 s0 D k s)
  (F : ∀ i ρ σ Z μ, D k i ρ σ → St w K base Z μ σ s → LR w Z μ base s env ρ → ya base env Z μ s own → ItR w Z μ s.heap src i it own → Ext (fun b => FS env b ∨ own b) Z0 μ0 s0 Z μ s → G) : G :=
 by obtain ⟨i, ρ, σ, Z, μ, c, S, L, O, I, X⟩ := h; exact F i ρ σ Z μ c S L O I X
theorem Ext.widen {W W' Z Z' : AP} {μ μ' : LA} {s s' : Shared} (x : Ext W Z μ s Z' μ' s') (h : ∀ b, W b → W' b) : Ext W' Z μ s Z' μ' s' := x.weak fun b q => .inl (h b q)
theorem Ad (ok : WOk w K base kf W) {ih : yg R → R} (hs : Sound P w K base an ih) {target : Expr} {src : Src} {b o : List Stmt} {A : Around} {env : Env} {s0 s : Shared} {Z0 Z : AP} {μ0 μ : LA} {Q : KG} {it : Addr} {own : AP} {D : Nat → Nat → zc → za → Prop} {i k : Nat} {ρ : zc} {σ : za}
  (am : Amb A f.dp) (ek : z3 env f) (fr : ∀ b, own b → s0.heap.get? b = none) {Co : Fl → zc → za → R} {k' : zc → za → R} {C' B : Fl → zc → za → R} {x : Option PV} (e : yU σ src i = some x)
  (c0 : x = none → an.I (ih (.sts f o ρ σ Co))) (c1 : ∀ v, x = some v → Yk src target = true ∧ an.I (asg an W (fun e ρ σ C => ih (.ex f e ρ σ C)) f 2 target v ρ σ fun ρ1 σ1 => ih (.sts f b ρ1 σ1 B))) (hB : ∀ fl ρ σ, an.I (B fl ρ σ) → an.I (Qo k' C' fl ρ σ))
  (H : RetS w K base env Z0 μ0 s0 (fun fl ρ σ => an.I (Co fl ρ σ)) Q) (H' : RetS w K base env Z0 μ0 s0 (fun fl ρ σ => an.I (C' fl ρ σ)) Q) (hk : ∀ ρ σ, an.I (k' ρ σ) → ∃ m, m < k ∧ D m (i + 1) ρ σ)
  (S : St w K base Z μ σ s) (L : LR w Z μ base s env ρ) (O : ya base env Z μ s own) (I : ItR w Z μ s.heap src i it own) (X : Ext (fun b => FS env b ∨ own b) Z0 μ0 s0 Z μ s) :
  wpAny (model P w) A (pyNext (.ref it)) (FoQ P w A env target it b o (FI w K base src it own env Z0 μ0 s0 D) Q k) NoE s := by
 have no : ∀ b o, s0.heap.get? b = some o → ¬ own b := fun b o e q => zn e (fr b q)
 refine Jd ok.low am.hd S L O I e (fun q h' k' hp => ?_) (fun v q Z1 sx a Sx Lx Ox Xx rx Ix => ?_)
 ·obtain ⟨S', L'⟩ := Cr (k := k') ok.low S L O hp
  have X' : Ext (FS env) Z0 μ0 s0 Z μ { s with heap := h', toks := k' } := ⟨X.pre, X.sub, X.newZ, X.newM, fun b o e hn hw => hp b o (no b o e) (X.pres b o e hn fun q => q.elim hw (no b o e)), fun b o e =>
   let ⟨o', e'⟩ := X.has b o e; ⟨o', hp b o' (no b o e) e'⟩, X.gens, X.os⟩
  exact hs.sts _ _ _ _ _ (c0 q) A env _ _ _ _ am ek S' L' fun v ρ' σ' s' Z' μ' a c S'' L'' X'' r => H _ _ _ _ _ _ _ c S'' L'' (X'.trans X'') r
 ·obtain ⟨ct, c⟩ := c1 v q
  clear S L O I c0 c1 e H
  refine Yp ok.low Sx Lx Ox Ix rx ct fun s₁ S1 L1 O1 X1 r1 I1 => ?_
  have X1 : Ext (fun b => FS env b ∨ own b) Z0 μ0 s0 Z1 μ s₁ := X.trans ((Xx.trans X1).widen fun b q => .inr q)
  clear X Sx Lx Ox Xx Ix rx
  refine Xm an (fun e ρ σ C c => hs.ex _ _ _ _ _ c) ok 2 _ _ _ _ _ c A env _ Z1 μ _ a am ek S1 L1 r1 fun ρ2 σ2 s₂ Z2 μ2 c2 S2 L2 X2 => ?_
  obtain ⟨O2, k2⟩ := jk S1 L1 O1 X2
  have I2 := I1.keep (L1.lifts S1 X2) k2
  have X2 := X1.trans (X2.widen fun b q => Or.inl q)
  clear X1 S1 L1 O1 I1 r1 c k2
  refine hs.sts _ _ _ _ _ c2 A env _ _ _ _ am ek S2 L2 fun v ρ' σ' s' Z' μ' a c' S' L' X' r => ?_
  obtain ⟨O3, k3⟩ := jk S2 L2 O2 X'
  have I3 := I2.keep (L2.lifts S2 X') k3
  have X3 := X2.trans (X'.widen fun b q => Or.inl q)
  exact QZ an (hB _ _ _ c') r (fun c => (hk _ _ c).imp fun m h => ⟨h.1, i + 1, ρ', σ', Z', μ', h.2, S', L', O3, I3, X3⟩) (fun v a c r => H' v ρ' σ' s' Z' μ' a c S' L' (X3.weak fun b q => q.imp id (fr b)) r)
theorem D7 (ok : WOk w K base kf W) (ev : Nat → yg R → R) (h0 : ∀ t, ev 0 t = an.bad) {target : Expr} {src : Src} {b o : List Stmt} {C : Fl → zc → za → R} (h : ∀ k i ρ σ, ev (k + 1) (.forL f target src i b o ρ σ C) = CX an W (ev k) f target src i b o ρ σ C) (N : Nat)
  (hs : ∀ k, k < N → Sound P w K base an (ev k)) {ρ : zc} {σ : za} {i : Nat} (c : an.I (ev N (.forL f target src i b o ρ σ C))) {A : Around} {env : Env} {s0 s : Shared} {Z0 Z : AP} {μ0 μ : LA} {Q : KG} {it : Addr} {own : AP}
  (am : Amb A f.dp) (ek : z3 env f) (S : St w K base Z μ σ s) (L : LR w Z μ base s env ρ) (O : ya base env Z μ s own) (I : ItR w Z μ s.heap src i it own) (fr : ∀ b, own b → s0.heap.get? b = none) (X : Ext (fun b => FS env b ∨ own b) Z0 μ0 s0 Z μ s)
  (H : ∀ v ρ' σ' s' Z' μ' a, an.I (C v ρ' σ') → St w K base Z' μ' σ' s' → LR w Z' μ' base s' env ρ' → Ext (FS env) Z0 μ0 s0 Z' μ' s' → v.R w Z' μ' s'.heap a → Q a s') : zV (model P w) A (.forLoop target (.ref it) b o env) Q s := by
 have turn : ∀ k s, FI w K base src it own env Z0 μ0 s0 (fun k i ρ σ => k ≤ N ∧ an.I (ev k (.forL f target src i b o ρ σ C))) k s → wpAny (model P w) A (pyNext (.ref it)) (FoQ P w A env target it b o (FI w K base src it own env Z0 μ0 s0 (fun k i ρ σ => k ≤ N ∧ an.I (ev k (.forL f target src i b o ρ σ C)))) Q k) NoE s := by
  intro k s hI
  refine hI.elim fun i ρ σ Z μ c S L O I X => ?_
  obtain ⟨hk, c⟩ := c
  cases k with
  | zero => rw [h0] at c; exact an.no c
  | succ k =>
   rw [h] at c
   obtain ⟨x, e, c⟩ := an.om c
   exact Ad an ok (hs k hk) am ek fr e (fun q => by rw [q] at c; exact c) (fun v q => by rw [q] at c; exact (zk an).mp c) (fun _ _ _ c => c) H H (fun ρ σ c => ⟨k, Nat.lt_succ_self k, Nat.le_of_succ_le hk, c⟩) S L O I X
 exact forC (R := Q) _ turn N ⟨i, ρ, σ, Z, μ, ⟨Nat.le_refl _, c⟩, S, L, O, I, X⟩
end
end
section
def Fu (σ : za) (v : PV) : Option Src := (ym σ v).bind fun _ => some (.list v)
def srcOf (σ : za) (v : PV) : Option Src := match v with
 | .tup vs => some (.tup vs)
 | .bytes b => some (.bts b)
 | v => Fu σ v
noncomputable def Fc (e : Expr) : Bool := !Nat.beq e.ctorIdx 7
def GJ (w : World) (K : Heap) (base : AP) (Z : AP) (μ : LA) (s : Shared) (env : Env) (ρ : zc) (C : Src → za → Prop) (Q : KV) : Prop :=
 ∀ src σ' s' Z' μ' it own, C src σ' → St w K base Z' μ' σ' s' → LR w Z' μ' base s' env ρ → ya base env Z' μ' s' own → ItR w Z' μ' s'.heap src 0 it own → (∀ b, own b → s.heap.get? b = none) → Ext NoW Z μ s Z' μ' s' → Q (.ref it) s'
section
variable {s s' s₁ : Shared} {E : KV} {A : Around} {env : Env} {f : Fr0} {ρ : zc} {kf : Frag} {W : Wd}
theorem Cq (hk : Low K base) (S : St w K base Z μ σ s) (L : LR w Z μ base s env ρ) {o : Obj} (hf : o.isFreed = false) {k : Nat} :
  St w K base Z μ σ { s with heap := s.heap.push o, toks := k } ∧ LR w Z μ base { s with heap := s.heap.push o, toks := k } env ρ ∧ ya base env Z μ { s with heap := s.heap.push o, toks := k } (· = s.heap.objs.size) ∧ (∀ W, Ext W Z μ s Z μ { s with heap := s.heap.push o, toks := k }) ∧ (s.heap.push o).get? s.heap.objs.size = some o := by
 obtain ⟨S', X⟩ := S.grow (k := k) hk (yz.push s.heap o)
 have g := Heap.get?_push_size s.heap hf
 refine ⟨S', L.ext S (X _), fun b q => ?_, X, g⟩
 subst q
 have n := zS s.heap
 obtain ⟨n1, n2, n3⟩ := S.fresh n
 exact ⟨n1, n2, n3, fun z => by obtain ⟨o, e⟩ := L.has _ z; exact zn e n, o, g⟩
theorem GJ.new (hk : Low K base) (S : St w K base Z μ σ s) (L : LR w Z μ base s env ρ) {C : Src → za → Prop} {Q : KV} (H : GJ w K base Z μ s env ρ C Q) {o : Obj} (hf : o.isFreed = false) {src : Src} (c : C src σ) {k : Nat}
  (F : (s.heap.push o).get? s.heap.objs.size = some o → Ext NoW Z μ s Z μ { s with heap := s.heap.push o, toks := k } → ItR w Z μ (s.heap.push o) src 0 s.heap.objs.size (· = s.heap.objs.size)) : Q (.ref s.heap.objs.size) { s with heap := s.heap.push o, toks := k } := by
 obtain ⟨S', L', O', X', g'⟩ := Cq (k := k) hk S L hf
 exact H _ _ _ _ _ _ _ c S' L' O' (F g' (X' _)) (fun b q => q ▸ zS _) (X' _)
theorem Bo (hk : Low K base) (S : St w K base Z μ σ s) (L : LR w Z μ base s env ρ) {v : PV} {a : Value} {src : Src} (r : RV w Z μ s.heap v a) (e : srcOf σ v = some src) {C : Src → za → Prop} (c : C src σ) {Q : KV} (H : GJ w K base Z μ s env ρ C Q) : wpAny (model P w) A (pyIter a) Q E s := by
 have lists : Fu σ v = some src → wpAny (model P w) A (pyIter a) Q E s := fun e => by
  obtain ⟨vs, hv, rfl⟩ := zL e
  obtain ⟨l, its, n, rfl, g, q⟩ := z4 S r hv
  exact wpAny_pyIter_list (zE g) (H.new (k := s.toks) hk S L (o := { cls := .type "list_iterator", data := .fields #[.ref l, .int 0 0] }) rfl c fun g' X' => .list (r.later S X') ⟨_, g', rfl, rfl⟩)
 rcases v <;> first | exact lists e | skip
 ·obtain ⟨t, rfl⟩ := r.inv
  rw [← Option.some.inj e] at c
  exact KBw.pyIter_bytes (H.new (k := s.toks) hk S L (o := { cls := .type "bytes_iterator", data := .fields #[.bytes _ t, .int 0 0] }) rfl c fun g' X' => .bts ⟨_, g', rfl, rfl⟩)
 ·obtain ⟨t, its, n, rfl, g, q⟩ := r.tupAt
  rw [← Option.some.inj e] at c
  exact iter_tuple (z8 g) (H.new (k := s.toks) hk S L (o := { cls := .type "tuple_iterator", data := .fields #[.ref t, .int 0 0] }) rfl c fun g' X' => .tup (r.later S X') ⟨_, g', rfl, rfl⟩)
end
end
section
section
variable {R : Type} (an : Ans R) (W : Wd) (ih : yg R → R)
noncomputable def biIs (n : Nat) : PV → Bool
 | .bi k => Nat.beq k.ctorIdx n
 | _ => false
theorem biIs_eq {n : Nat} {v : PV} (h : biIs n v = true) : ∃ k : BI, v = .bi k ∧ Nat.beq k.ctorIdx n = true := by rcases v <;> first | exact nf h | exact ⟨_, rfl, h⟩
def Gs (n : Nat) (f : Fr0) (x : Str) (arg : Expr) (ρ : zc) (σ : za) (C : PV → za → R) : R :=
 chk an (!q9 arg) (J2 an W f x ρ fun fv => an.gd (biIs n fv) (ih (.exs f [arg] ρ σ fun vs σ2 => zr an.bad (one? vs) fun v => C v σ2)))
def Ce (f : Fr0) (x : Str) (arg : Expr) (ρ : zc) (σ : za) (C : Src → za → R) : R :=
 Gs an W ih 8 f x arg ρ σ fun v σ2 => zr an.bad v.i? fun n => chk an (decide (0 ≤ n) && decide (n ≤ 1000)) (C (.rng n) σ2)
def C7 (f : Fr0) (x : Str) (arg : Expr) (ρ : zc) (σ : za) (C : Src → za → R) : R :=
 Gs an W ih 9 f x arg ρ σ fun v σ2 => zr an.bad (ym σ2 v) fun _ => C (.enm v) σ2
end
section
variable {s s' s₁ : Shared} {E : KV} {A : Around} {env : Env} {f : Fr0} {ρ : zc} {kf : Frag} {W : Wd} {R : Type} (an : Ans R) {ih : yg R → R}
theorem AZ {n : Int} {r : Addr} {t u v : Tok} (h0 : 0 ≤ n) (h1 : n ≤ 1000) (g : s.heap.get? r = some { cls := .type "range", data := .fields #[.int 0 t, .int n u, .int 1 v] }) {Q : KV}
  (H : Q (.ref s.heap.objs.size) { s with heap := s.heap.push { cls := .type "range_iterator", data := .fields #[rawInt 0, rawInt n, rawInt 1] } }) : wpAny (model P w) A (pyIter (.ref r)) Q E s := by
 have e : Builtin.Range.rangeSize 0 n 1 = n := by unfold Builtin.Range.rangeSize; simp; omega
 refine wpAny_pyIter_range (a := 0) (b := n) (c := 1) (t := t) (u := u) (v := v) g ?_ (by rw [e]; exact H)
 unfold Builtin.Range.small
 rw [e]
 simp [Builtin.Range.rangeFitsLong]
 omega
section
variable (hs : Sound P w K base an ih) (ok : WOk w K base kf W) (am : Amb A f.dp) (ek : z3 env f) (S : St w K base Z μ σ s) (L : LR w Z μ base s env ρ) {x : Str} {px pos : Pos} {arg : Expr}
include hs ok am ek S L
theorem Yu {n : Nat} {k : BI} (hn : ∀ j : BI, Nat.beq j.ctorIdx n = true → j = k) {C : PV → za → R} (c : an.I (Gs an W ih n f x arg ρ σ C)) {Q : KV}
  (H : ∀ v σ' s' Z' μ' a, an.I (C v σ') → St w K base Z' μ' σ' s' → Ext NoW Z μ s Z' μ' s' → RV w Z' μ' s'.heap v a → wpC (model P w) A (call k.val [a]) Q s') : wpC (model P w) A (eval (.Call (.Name x px) [arg] [] pos) env) Q s := by
 obtain ⟨ha, c⟩ := (zk an).mp c
 have ns : yi [arg] = true := Bool.and_eq_true_iff.mpr ⟨ha, rfl⟩
 refine Dj rfl (Ym an ok ek S L c fun v a c1 r1 => ?_)
 obtain ⟨hb, c1⟩ := an.gdI c1
 obtain ⟨j, hv, hj⟩ := biIs_eq hb
 rw [hv] at r1
 rw [show a = _ from r1.inv, hn j hj]
 refine jA (.inr rfl) ns (hs.exs _ _ _ _ _ c1 ns A env _ _ _ _ am ek S L (fun vs σ2 s₂ Z2 μ2 as c2 S2 X2 r2 => ⟨fun R h => CJ _ h, ?_⟩) pos)
 obtain ⟨v, hv, c2⟩ := an.om c2
 rw [one?_eq hv] at r2
 obtain ⟨b, rb, rfl⟩ := r2.one
 exact H v σ2 s₂ Z2 μ2 b c2 S2 X2 rb
variable {C : Src → za → R} {Q : KV} (H : GJ w K base Z μ s env ρ (fun src σ => an.I (C src σ)) Q)
include H
theorem QK (c : an.I (Ce an W ih f x arg ρ σ C)) : wpC (model P w) A (eval (.Call (.Name x px) [arg] [] pos) env) (fun a s₁ => wpAny (model P w) A (pyIter a) Q NoE s₁) s := by
 refine Yu an hs ok am ek S L (k := .range) (fun j h => by rcases j <;> first | rfl | exact nf h) c fun v σ2 s₂ Z2 μ2 a c2 S2 X2 r2 => ?_
 obtain ⟨n, hn, c2⟩ := an.om c2
 obtain ⟨h, c2⟩ := (zk an).mp c2
 obtain ⟨t, rfl⟩ := r2.i hn
 have L2 := L.ext S X2
 refine .of (call_range_1 ?_)
 obtain ⟨S3, X3⟩ := S2.grow (k := s₂.toks + 1 + 1) ok.low (yz.push s₂.heap { cls := .type "range", data := .fields #[.int 0 s₂.toks, .int n t, .int 1 (s₂.toks + 1)] })
 have X3 := X2.trans (X3 _)
 refine AZ (dt (bl h)) (dt (br h)) (Heap.get?_push_size _ rfl) ?_
 obtain ⟨S4, L4, O4, X4, g4⟩ := Cq (k := s₂.toks + 1 + 1) (o := { cls := .type "range_iterator", data := .fields #[rawInt 0, rawInt n, rawInt 1] }) ok.low S3 (L.ext S X3) rfl
 exact H (.rng n) σ2 _ Z2 μ2 _ _ c2 S4 L4 O4 (.rng (by rw [show (((0 : Nat) : Int)) = 0 from rfl, Int.sub_zero]; exact g4)) (fun b q => q ▸ X3.back (zS _)) (X3.trans (X4 NoW))
theorem Ea (c : an.I (C7 an W ih f x arg ρ σ C)) : wpC (model P w) A (eval (.Call (.Name x px) [arg] [] pos) env) (fun a s₁ => wpAny (model P w) A (pyIter a) Q NoE s₁) s := by
 refine Yu an hs ok am ek S L (k := .enumerate) (fun j h => by rcases j <;> first | rfl | exact nf h) c fun v σ2 s₂ Z2 μ2 a c2 S2 X2 r => ?_
 obtain ⟨vs, hv, c2⟩ := an.om c2
 obtain ⟨l, its, n, rfl, g, q⟩ := z4 S2 r hv
 have L2 := L.ext S X2
 refine .of (call_enumerate_list (zE g) fun h' h1 h2 h3 h4 => ?_)
 refine wpAny_pyIter_enum h1 ?_
 have n2 : s₂.heap.get? (s₂.heap.objs.size + 1) = none := Heap.get?_none_of_le (Nat.le_succ _)
 obtain ⟨S3, L3, O3, X3⟩ := DH (k := s₂.toks) (own := fun b => b = s₂.heap.objs.size + 1 ∨ b = s₂.heap.objs.size) ok.low S2 L2 h4 (fun b q => q.elim (fun q => q ▸ ⟨n2, _, h1⟩) fun q => q ▸ ⟨zS _, _, h2.choose_spec.1⟩)
 exact H (.enm v) σ2 _ Z2 μ2 _ _ c2 S3 L3 O3 (.enm (r.later S2 (X3 _)) h1 h2 (Nat.succ_ne_self _)) (fun b q => X2.back (q.elim (fun q => q ▸ n2) fun q => q ▸ zS _)) (X2.trans (X3 _))
end
end
end
section
def cArg : Expr → Option (Str × Expr)
 | .Call fn args kws _ => (nam? fn).bind fun x => (one? args).bind fun a => bOf kws.isEmpty (some (x, a))
 | _ => none
theorem cArg_eq {e : Expr} {p : Str × Expr} (h : cArg e = some p) : ∃ px pos, e = .Call (.Name p.1 px) [p.2] [] pos := by
 rcases e <;> first | exact no h | skip
 obtain ⟨x, hx, h⟩ := zp h
 obtain ⟨a, ha, h⟩ := zp h
 obtain ⟨hk, h⟩ := zQ h
 obtain ⟨px, hx⟩ := nam?_eq hx
 rw [hx, one?_eq ha, List.isEmpty_iff.mp hk, ← Option.some.inj h]
 exact ⟨px, _, rfl⟩
section
variable {R : Type} (an : Ans R) (W : Wd) (ih : yg R → R)
def srcX (f : Fr0) (iter : Expr) (ρ : zc) (σ : za) (C : Src → za → R) : R := ih (.ex f iter ρ σ fun v σ1 => zr an.bad (srcOf σ1 v) fun src => C src σ1)
def srcC (f : Fr0) (iter : Expr) (p : Str × Expr) (ρ : zc) (σ : za) (C : Src → za → R) : R := match sq p.1 "range" with
 | true => Ce an W ih f p.1 p.2 ρ σ C
 | false => (match sq p.1 "enumerate" with
  | true => C7 an W ih f p.1 p.2 ρ σ C
  | false => srcX an ih f iter ρ σ C)
def YC (f : Fr0) (iter : Expr) (ρ : zc) (σ : za) (C : Src → za → R) : R := match cArg iter with
 | some p => srcC an W ih f iter p ρ σ C
 | none => srcX an ih f iter ρ σ C
def YB (f : Fr0) (s : Stmt) (ρ : zc) (σ : za) (C : Fl → zc → za → R) : R := match s with
 | .For target iter b o _ => chk an (Fc iter) (YC an W ih f iter ρ σ fun src σ1 => ih (.forL f target src 0 b o ρ σ1 C))
 | s => EN an W ih f s ρ σ C
end
section
variable (P : Program) (w : World) (K : Heap) (base : AP) {R : Type} (an : Ans R)
def yJ (f : Fr0) (target : Expr) (src : Src) (i : Nat) (b o : List Stmt) (ρ : zc) (σ : za) (C : KF) : Prop :=
 ∀ (A : Around) (env : Env) (s0 s : Shared) (Z0 Z : AP) (μ0 μ : LA) (Q : KG) (it : Addr) (own : AP), Amb A f.dp → z3 env f → St w K base Z μ σ s → LR w Z μ base s env ρ →
  ya base env Z μ s own → ItR w Z μ s.heap src i it own → (∀ b, own b → s0.heap.get? b = none) → Ext (fun b => FS env b ∨ own b) Z0 μ0 s0 Z μ s →
  (∀ v ρ' σ' s' Z' μ' a, C v ρ' σ' → St w K base Z' μ' σ' s' → LR w Z' μ' base s' env ρ' → Ext (FS env) Z0 μ0 s0 Z' μ' s' → v.R w Z' μ' s'.heap a → Q a s') → zV (model P w) A (.forLoop target (.ref it) b o env) Q s
structure SoundF (ih : yg R → R) : Prop extends SoundW P w K base an ih where
 forL : ∀ f target src i b o ρ σ C, an.I (ih (.forL f target src i b o ρ σ C)) → yJ P w K base f target src i b o ρ σ (fun fl ρ σ => an.I (C fl ρ σ))
end
section
variable {P : Program} {w : World} {K : Heap} {base : AP} {σ : za} {f : Fr0} {ρ : zc} {kf : Frag} {W : Wd} {R : Type} (an : Ans R) {ih : yg R → R}
theorem qG {e : Expr} {env : Env} (h : Fc e = true) (x : Value) : foldedSetIterable e env x = pure x := by
 rcases e <;> first | rfl | exact nf h
section
variable {A : Around} {env : Env} {s : Shared} {Z : AP} {μ : LA} (hs : Sound P w K base an ih) (ok : WOk w K base kf W) (am : Amb A f.dp) (ek : z3 env f) (S : St w K base Z μ σ s) (L : LR w Z μ base s env ρ) {iter : Expr} {C : Src → za → R} {Q : KV} (H : GJ w K base Z μ s env ρ (fun src σ => an.I (C src σ)) Q)
include hs ok am ek S L H
theorem YV (c : an.I (srcX an ih f iter ρ σ C)) : wpC (model P w) A (eval iter env) (fun a s₁ => wpAny (model P w) A (pyIter a) Q NoE s₁) s := by
 refine hs.ex _ _ _ _ _ c A env _ _ _ _ am ek S L fun v σ1 s₁ Z1 μ1 a c1 S1 X1 r1 => ?_
 obtain ⟨src, hsrc, c1⟩ := an.om c1
 exact Bo ok.low S1 (L.ext S X1) r1 hsrc (C := fun src σ => an.I (C src σ)) c1 fun src σ2 s₂ Z2 μ2 it own c2 S2 L2 O2 I2 fr X2 => H _ _ _ _ _ _ _ c2 S2 L2 O2 I2 (fun b q => X1.back (fr b q)) (X1.trans X2)
theorem JR (c : an.I (YC an W ih f iter ρ σ C)) : wpC (model P w) A (eval iter env) (fun a s₁ => wpAny (model P w) A (pyIter a) Q NoE s₁) s := by
 unfold YC at c
 cases hp : cArg iter with
 | none => rw [hp] at c; exact YV an hs ok am ek S L H c
 | some p =>
  rw [hp] at c
  have go : an.I (srcX an ih f iter ρ σ C) → _ := YV an hs ok am ek S L H
  obtain ⟨px, pos, he⟩ := cArg_eq hp
  have c : an.I (srcC an W ih f iter p ρ σ C) := c
  unfold srcC at c
  cases h1 : sq p.1 "range" with
  | true => rw [h1] at c; rw [he]; exact QK an hs ok am ek S L H c
  | false =>
   rw [h1] at c
   cases h2 : sq p.1 "enumerate" with
   | true => rw [h2] at c; rw [he]; exact Ea an hs ok am ek S L H c
   | false => rw [h2] at c; exact go c
end
theorem xY (hs : SoundF P w K base an ih) (ok : WOk w K base kf W) {st : Stmt} {C : Fl → zc → za → R} (c : an.I (YB an W ih f st ρ σ C)) : YN P w K base f st ρ σ (fun fl ρ σ => an.I (C fl ρ σ)) := by
 rcases st <;> first | exact Xy an hs.toSoundW ok c | skip
 intro A env s Z μ Q am ek S L H
 obtain ⟨c0, c⟩ := (zk an).mp c
 exact X_For (JR an hs.toSound ok am ek S L (fun src σ1 s₁ Z1 μ1 it own c1 S1 L1 O1 I1 fr X1 => hs.forL _ _ _ _ _ _ _ _ _ c1 A env s s₁ Z Z1 μ μ1 Q it own am ek S1 L1 O1 I1 fr X1.own H) c) (qG c0)
end
end
section
section
variable {P : Program} {w : World} {A : Around} {s : Shared} {env : Env} {R : KG}
theorem compC {elt target iter : Expr} {ifs : List Expr} {scope : Scope} {pos : Pos} {it acc : Value} (I : Nat → Shared → Prop)
  (turn : ∀ n s, I n s → wpAny (model P w) A (pyNext it) (fun r s₁ => match r with
   | none => R .next s₁
   | some v => wpAny (model P w) A (letOwnedTupleGo target it v) (fun _ s1' => wpC (model P w) A (assign target env v) (fun _ s₂ =>
     wpC (model P w) A (forIn ifs true fun c r => if r = true then do let ok ← isTrue c env (eval c env); pure (ForInStep.yield ok) else pure (ForInStep.yield r)) (fun ok s3 => match ok with
      | true => wpC (model P w) A (eval elt env) (fun x s4 => wpC (model P w) A (call (.builtin "list.append") [acc, x]) (fun _ s5 => ∃ m, m < n ∧ I m s5) s4) s3
      | false => ∃ m, m < n ∧ I m s3) s₂) s1') NoE s₁) NoE s)
  (n : Nat) (h : I n s) : zV (model P w) A (.compLoop (.ListComp elt [⟨target, iter, ifs, 0⟩] scope pos) 0 it acc env) R s := by
 refine qj rfl rfl I (fun n s hI => ?_) n h
 show wpC _ A ((compTurn (.ListComp elt [⟨target, iter, ifs, 0⟩] scope pos) 0 it acc env).onRaise (fun x => do noteFrame x env; theTreesLotGoes x)) _ s
 refine yl ?_
 rw [compTurn_list]
 refine zj (zb (zi (.of (turn n s hI)) fun r s₁ h₁ => ?_))
 cases r with
 | none => exact zf h₁
 | some v =>
  refine ze (wpAny_mono h₁ (fun _ s1' h1' => ?_) fun _ _ h' => h')
  refine zb (zi h1' fun _ s₂ h2 => zb (zi h2 fun ok s3 h3 => ?_))
  cases ok with
  | false => exact zf (.inl ⟨rfl, h3⟩)
  | true => exact zb (zb (zi h3 fun x s4 h4 => zb (zi h4 fun _ s5 h5 => zf (zf (.inl ⟨rfl, h5⟩)))))
theorem BK {elt target iter : Expr} {ifs : List Expr} {scope : Scope} {pos : Pos} {it acc : Value} {env : Env}
  (h0 : zV (model P w) A (.compLoop (.ListComp elt [⟨target, iter, ifs, 0⟩] scope pos) 0 it acc env) R s)
  (h : wpAny (model P w) A (pyIter it) (fun it' s' => zV (model P w) A (.compLoop (.ListComp elt [⟨target, iter, ifs, 0⟩] scope pos) 0 it' acc env) R s') NoE s) :
  zV (model P w) A (.compStart (.ListComp elt [⟨target, iter, ifs, 0⟩] scope pos) 0 it acc env) R s := by
 refine zC rfl ?_
 show wpC _ _ ((compStart (.ListComp elt [⟨target, iter, ifs, 0⟩] scope pos) 0 it acc env).onRaise (fun x => do noteFrame x env; standAt theWindowsPlace)) _ s
 refine yl ?_
 unfold compStart
 show wpC _ _ (ask >>= _) _ s
 refine ze (wpAny_askSetting ?_)
 split
 ·exact zb (zf (zf ⟨rfl, h0⟩))
 ·refine ze (wpAny_rule ?_)
  exact zj (ze (wpAny_mono h (fun it' s' h' => zf ⟨rfl, h'⟩) fun _ _ x => x))
def EZ (M : Model) (A : Around) (use : Option (Value → Sem Unit)) (Q : KV) (acc : Value) (C : Addr) (s' : Shared) : Prop := match use with
 | none => ∃ m, s'.heap.Ns C m ∧ ∀ h', Heap.SameBut C s'.heap h' → Q acc { s' with heap := h' }
 | some u => wpC M A (u acc) (fun _ s'' => ∃ m, s''.heap.Ns C m ∧ ∀ h', Heap.SameBut C s''.heap h' → Q .none { s'' with heap := h' }) s'
theorem Js {e : Expr} {scope : Scope} {pos : Pos} {newAcc first : Sem Value} {g : Comprehension} {gs : List Comprehension} {cl : List (Str × Addr)} {use : Option (Value → Sem Unit)} {Q : KV}
  (hcl : clausesOf e = g :: gs) (hs : ∀ x, foldedSetIterable g.iter env x = pure x) (hclos : closureFor scope env = pure cl)
  (hkind : scope.kind = .function) (hnames : ∀ x ∈ scope.names, x.2 = .local → scope.names.lookup x.1 = some .local)
  (h : wpC (model P w) A first (fun x s₁ => wpAny (model P w) A (pyIter x) (fun it s₂ => wpAny (model P w) A newAcc (fun acc s3 =>
   wpAny (model P w) A (newFunctionEnv scope env.globals cl [] env.qual none .none (some env)) (fun cenv s4 =>
    zV (model P w) A (.compStart e 0 it acc { cenv with scope := relabel scope env }) (fun _ s' => EZ (model P w) A use Q acc cenv.locals s') s4) NoE s3) NoE s₂) NoE s₁) s) :
  wpC (model P w) A (comprehension e scope env pos newAcc false first use) Q s := by
 unfold comprehension
 rw [hclos, hcl]
 refine zb (zi h fun x s₁ h₁ => zj (ze (wpAny_of_eq (hs x) (zb (zg (.of (wpAny_mono h₁ (fun it s₂ h2 => ?_) fun _ _ h' => h')))))))
 have stand : ∀ {α : Type} {c : Prop} [Decidable c] {pos : Pos} {k : PUnit → Sem α} {Q : α → Shared → Prop} {s : Shared}, wpC (model P w) A (k ()) Q s → wpC (model P w) A (if c then (standAt pos >>= k) else k ()) Q s := by
  intro α c _ pos k Q s h
  split
  ·exact zj h
  ·exact h
 refine stand (ze (wpAny_mono h2 (fun acc s3 h3 => zb (zf (ze (wpAny_mono h3 (fun cenv s4 h4 => ?_) fun _ _ h' => h')))) fun _ _ h' => h'))
 dsimp only
 have hv : ∀ x ∈ (scope.names.filter fun x => (x.2 == .local || x.2 == .cell) && x.1 != (".0" : Str)).reverse, x.2 = .local →
   Env.kindOf { cenv with scope := relabel scope env } x.1 = some .local := fun x hx hl => lookup_relabel_local (hnames x (List.mem_filter.mp (List.mem_reverse.mp hx)).1 hl)
 have hv' : ∀ x ∈ (scope.names.filter fun x => (x.2 == .local || x.2 == .cell) && x.1 != (".0" : Str)).reverse.drop 1 ++ (scope.names.filter fun x => (x.2 == .local || x.2 == .cell) && x.1 != (".0" : Str)).reverse.take 1,
   x.2 = .local → Env.kindOf { cenv with scope := relabel scope env } x.1 = some .local := fun x hx hl => by
  rcases List.mem_append.mp hx with h1 | h1
  ·exact hv x (List.mem_of_mem_drop h1) hl
  ·exact hv x (List.mem_of_mem_take h1) hl
 refine zg (zb (Yj (zg (BZ (qi h4 fun r s' hr => ?_)))))
 cases use with
 | none =>
  obtain ⟨m, hn, hr⟩ := hr
  exact zb (zg (.of (wpAny_comp_letGo (cenv := { cenv with scope := relabel scope env }) hkind _ s' m hv hn fun h' m' _ hs' => zf (hr h' hs'))))
 | some u =>
  refine ze (wpAny_rule (zb (zg (zi hr fun _ s'' hr' => ?_))))
  obtain ⟨m, hn, hr'⟩ := hr'
  exact zb (.of (wpAny_comp_letGo (cenv := { cenv with scope := relabel scope env }) hkind _ s'' m hv' hn fun h' m' _ hs' => zf (hr' h' hs')))
end
end
section
noncomputable def kEq (a b : NameKind) : Bool := Nat.beq a.ctorIdx b.ctorIdx
theorem Fz {a b : NameKind} (h : kEq a b = true) : a = b := by rcases a <;> rcases b <;> first | rfl | exact nf h
def isK (q : Option NameKind) (k : NameKind) : Bool := match q with | some x => kEq x k | none => false
theorem j1 {q : Option NameKind} {k : NameKind} (h : isK q k = true) : q = some k := by
 cases q with
 | none => exact nf h
 | some x => exact congrArg some (Fz h)
noncomputable def noO {α : Type} : Option α → Bool
 | none => true
 | some _ => false
theorem Fe {α : Type} {q : Option α} (h : noO q = true) : q = none := by cases q <;> first | rfl | exact nf h
noncomputable def J4 (x : Str × NameKind) : Str × NameKind := match x.2 with | .free => (x.1, .cell) | _ => x
def y2 (ns : List (Str × NameKind)) : List (Str × NameKind) := ns.map J4
def Fo (f : Fr0) (ns : List (Str × NameKind)) (x : Str × NameKind) : Bool := match x.2 with
 | .free => isK (lk f.kd x.1) .cell && isK (lk ns x.1) .free
 | .local => isK (lk ns x.1) .local
 | .cell => false
 | _ => true
def jw (f : Fr0) (ns : List (Str × NameKind)) : List (Str × NameKind) → Bool
 | [] => true
 | x :: r => Fo f ns x && jw f ns r
def BL (f : Fr0) (ns : List (Str × NameKind)) : Bool := jw f ns ns && noO (lk (y2 ns) "__debug__")
def FF (k : NameKind) : Bool := kEq k .free
def Av (ρ : zc) : List (Str × NameKind) → zc
 | [] => []
 | x :: r => match (bOf (FF x.2) (lk ρ x.1)) with | some v => (x.1, v) :: Av ρ r | none => Av ρ r
theorem jv {f : Fr0} {ns : List (Str × NameKind)} {l : List (Str × NameKind)} : jw f ns l = true → ∀ x ∈ l, Fo f ns x = true := by
 induction l with
 | nil => exact fun _ x hx => nomatch hx
 | cons y r ih => exact fun h x hx => (List.mem_cons.mp hx).elim (fun e => e ▸ bl h) fun hx => ih (br h) x hx
theorem XO {α : Type} {y : Str × α} {r : List (Str × α)} {x : Str} {v : α} (h : lk (y :: r) x = some v) : (y.1 = x ∧ y.2 = v) ∨ lk r x = some v := by
 obtain ⟨n, u⟩ := y
 have h : (match sq n x with | true => some u | false => lk r x) = some v := h
 cases e : sq n x with
 | true => rw [e] at h; exact .inl ⟨yR.mp e, Option.some.inj h⟩
 | false => rw [e] at h; exact .inr h
theorem capt_lk {ρ : zc} {ns : List (Str × NameKind)} {x : Str} {v : PV} : lk (Av ρ ns) x = some v → (x, .free) ∈ ns ∧ lk ρ x = some v := by
 induction ns with
 | nil => exact fun h => no h
 | cons y r ih =>
  intro h
  have step : lk (Av ρ r) x = some v → (x, NameKind.free) ∈ y :: r ∧ lk ρ x = some v := fun h => ⟨List.mem_cons_of_mem _ (ih h).1, (ih h).2⟩
  unfold Av at h
  cases e : bOf (FF y.2) (lk ρ y.1) with
  | none => rw [e] at h; exact step h
  | some u =>
   rw [e] at h
   obtain ⟨hf, hu⟩ := zQ e
   rcases XO h with ⟨h1, h2⟩ | h
   ·obtain ⟨n, k⟩ := y
    have h1 : n = x := h1
    have h2 : u = v := h2
    rw [← h1, ← h2, ← show k = .free from Fz hf]
    exact ⟨List.mem_cons_self, hu⟩
   ·exact step h
theorem J3 (x : Str × NameKind) : (J4 x).1 = x.1 := by
 obtain ⟨n, k⟩ := x
 rcases k <;> rfl
theorem Bf {x : Str × NameKind} (h : (J4 x).2 = .cell) : x.2 = .free ∨ x.2 = .cell := by
 obtain ⟨n, k⟩ := x
 rcases k <;> first | exact .inl rfl | exact .inr rfl | exact nomatch h
theorem DT {ns : List (Str × NameKind)} {x : Str} : lk ns x = some .free → lk (y2 ns) x = some .cell := by
 induction ns with
 | nil => exact fun h => no h
 | cons y r ih =>
  intro h
  obtain ⟨n, k⟩ := y
  have h : (match sq n x with | true => some k | false => lk r x) = some .free := h
  have e : lk (y2 ((n, k) :: r)) x = (match sq (J4 (n, k)).1 x with | true => some (J4 (n, k)).2 | false => lk (y2 r) x) := rfl
  rw [e, J3]
  cases q : sq n x with
  | true => rw [q] at h; rw [Option.some.inj h]; rfl
  | false => rw [q] at h; exact ih h
theorem J6 {α : Type} {ns : List (Str × α)} {x : Str} {v : α} : lk ns x = some v → (x, v) ∈ ns := by
 induction ns with
 | nil => exact fun h => no h
 | cons y r ih =>
  intro h
  rcases XO h with ⟨rfl, rfl⟩ | h
  ·exact List.mem_cons_self
  ·exact List.mem_cons_of_mem _ (ih h)
theorem AY {f : Fr0} {ns ms : List (Str × NameKind)} {x : Str} : jw f ns ms = true → lk (y2 ms) x = some .cell → (x, .free) ∈ ms := by
 induction ms with
 | nil => exact fun _ h => no h
 | cons y r ih =>
  intro hk h
  rcases XO (y := J4 y) h with ⟨h1, h2⟩ | h
  ·obtain ⟨n, k⟩ := y
   rw [J3] at h1
   have h1 : n = x := h1
   rw [← h1]
   rcases Bf h2 with q | q
   ·have q : k = .free := q
    rw [q]; exact List.mem_cons_self
   ·have q : k = .cell := q
    rw [q] at hk; exact nf (bl hk)
  ·exact List.mem_cons_of_mem _ (ih (br hk) h)
section
variable {env : Env} {f : Fr0}
theorem QI (ek : z3 env f) {ns : List (Str × NameKind)} {l : List (Str × NameKind)} : jw f ns l = true → l.map (fun (n, k) => if (k == NameKind.free && env.scope.kind == .function && env.kindOf n == some .cell) then (n, NameKind.cell) else (n, k)) = y2 l := by
 induction l with
 | nil => exact fun _ => rfl
 | cons y r ih =>
  intro h
  obtain ⟨n, k⟩ := y
  rw [List.map_cons, ih (br h)]
  refine congrArg (· :: y2 r) ?_
  have h := bl h
  clear ih
  rcases k <;> first | rfl | skip
  show (if (NameKind.free == NameKind.free && env.scope.kind == .function && env.kindOf n == some .cell) = true then _ else _) = _
  rw [ek.kind, ek.kindOf, j1 (bl h)]; rfl
theorem At {l : List (Str × NameKind)} (h : ∀ x ∈ l, x.2 = .free → ∃ c, env.cells.lookup x.1 = some c) : ∀ acc : List (Str × Addr), ∃ cl, (forIn l acc fun x c => if (x.2 == NameKind.free) = true then do let a ← cellOf env x.1; pure (ForInStep.yield ((x.1, a) :: c)) else pure (ForInStep.yield c) : Sem (List (Str × Addr))) = pure cl ∧
  (∀ x c, cl.lookup x = some c → acc.lookup x = some c ∨ (env.cells.lookup x = some c ∧ (x, .free) ∈ l)) ∧ (∀ x, (x, .free) ∈ l → ∃ c, cl.lookup x = some c) ∧ (∀ x c, acc.lookup x = some c → ∃ c', cl.lookup x = some c') := by
 induction l with
 | nil => exact fun acc => ⟨acc, rfl, fun x c e => Or.inl e, (fun x hx => absurd hx (by simp)), fun x c e => ⟨c, e⟩⟩
 | cons y r ih =>
  intro acc
  obtain ⟨n, k⟩ := y
  have ih := ih fun x hx => h x (List.mem_cons_of_mem _ hx)
  rw [List.forIn_cons]
  by_cases hk : k = .free
  ·subst hk
   obtain ⟨c, hc⟩ := h (n, .free) List.mem_cons_self rfl
   obtain ⟨cl, e, h1, h2, h3⟩ := ih ((n, c) :: acc)
   refine ⟨cl, ?_, fun x b eb => ?_, fun x hx => ?_, fun x b eb => ?_⟩
   ·have : cellOf env n = pure c := by unfold cellOf; rw [show env.cells.lookup n = some c from hc]
    rw [← e]
    show ((cellOf env n >>= fun a => pure (ForInStep.yield ((n, a) :: acc))) >>= _) = _
    rw [this]
    rfl
   ·rcases h1 x b eb with q | q
    ·rw [List.lookup_cons] at q
     cases hx : x == n with
     | true => rw [hx] at q; cases q; rw [beq_iff_eq.mp hx]; exact .inr ⟨hc, List.mem_cons_self⟩
     | false => rw [hx] at q; exact .inl q
    ·exact .inr ⟨q.1, List.mem_cons_of_mem _ q.2⟩
   ·cases hx with
    | head => exact h3 n c (by simp)
    | tail _ hx => exact h2 x hx
   ·cases hx : x == n with
    | true => rw [beq_iff_eq.mp hx]; exact h3 n c (by simp)
    | false => exact h3 x b (by rw [List.lookup_cons, hx]; exact eb)
  ·have hb : (k == NameKind.free) = false := beq_eq_false_iff_ne.mpr hk
   obtain ⟨cl, e, h1, h2, h3⟩ := ih acc
   refine ⟨cl, ?_, fun x b eb => (h1 x b eb).imp id fun q => ⟨q.1, List.mem_cons_of_mem _ q.2⟩, fun x hx => ?_, h3⟩
   ·rw [← e, if_neg (by rw [hb]; exact Bool.false_ne_true)]
    rfl
   ·cases hx with
    | head => exact absurd rfl hk
    | tail _ hx => exact h2 x hx
theorem BN (ek : z3 env f) {scope : Scope} (h : jw f scope.names scope.names = true) : ∃ cl, closureFor scope env = pure cl ∧ (∀ x c, cl.lookup x = some c → env.cells.lookup x = some c) ∧ (∀ x, (x, .free) ∈ scope.names → ∃ c, cl.lookup x = some c) := by
 obtain ⟨cl, e, h1, h2, _⟩ := At (env := env) (l := scope.names) (fun x hx hf => by
  have := jv h x hx
  obtain ⟨n, k⟩ := x
  cases hf
  have := ek.cel n (j1 (bl this))
  exact Option.isSome_iff_exists.mp this) []
 refine ⟨cl, ?_, fun x c q => (h1 x c q).elim (fun q => by cases q) (·.1), h2⟩
 unfold closureFor
 exact (bind_pure _).trans e
end
end
section
section
variable {R : Type} (an : Ans R) (W : Wd) (ih : yg R → R)
def Jk (f : Fr0) (x : Str) : Bool := isK (lk f.kd x) .local
noncomputable def two? {α : Type} : List α → Option (α × α)
 | [a, b] => some (a, b)
 | _ => none
theorem two?_eq {α : Type} {l : List α} {p : α × α} (e : two? l = some p) : l = [p.1, p.2] := by
 rcases l with _ | ⟨a, _ | ⟨b, _ | _⟩⟩ <;> first | exact no e | rw [← Option.some.inj e]
def putT (f : Fr0) (t : Expr) (v : PV) (ρ : zc) (C : zc → R) : R := match t with
 | .Name x _ => chk an (Jk f x) (C (put ρ x v))
 | .Tuple es _ _ => zr an.bad (two? es) fun p => zr an.bad (nam? p.1) fun x => zr an.bad (nam? p.2) fun y => chk an (Jk f x && Jk f y) (zr an.bad v.t? fun vs => zr an.bad (two? vs) fun q => C (put (put ρ x q.1) y q.2))
 | _ => an.bad
def XT (f : Fr0) (ifs : List Expr) (ρ : zc) (σ : za) (C : Bool → za → R) : R := match ifs with
 | [] => C true σ
 | c :: cs => an.gd cs.isEmpty (ih (.tst f c ρ σ C))
def FD (f : Fr0) (target : Expr) (ifs : List Expr) (l : Nat) (ev : zc → za → (PV → za → R) → R) (k : zc → za → R) (v : PV) (ρ : zc) (σ : za) : R :=
 putT an f target v ρ fun ρ1 => XT an ih f ifs ρ1 σ fun b σ1 => match b with
  | true => ev ρ1 σ1 (fun x σ2 => jT an σ2 .lAppend [.loc l, x] fun _ σ3 => k ρ1 σ3)
  | false => k ρ1 σ1
def Ap (f : Fr0) (elt target : Expr) (ifs : List Expr) (src : Src) (i l : Nat) (ρ : zc) (σ : za) (C : za → R) : R := zr an.bad (yU σ src i) fun x => match x with
 | none => C σ
 | some v => chk an (Yk src target) (FD an ih f target ifs l (fun ρ σ C => ih (.ex f elt ρ σ C)) (fun ρ σ => ih (.comp f elt target ifs src (i + 1) l ρ σ C)) v ρ σ)
end
section
variable {s s' s₁ : Shared} {E : KV} {A : Around} {env : Env} {f : Fr0} {ρ : zc} {kf : Frag} {W : Wd} {R : Type} (an : Ans R) {ih : yg R → R} {own : AP}
theorem Xu (hk : Low K base) (ek : z3 env f) (S : St w K base Z μ σ s) (L : LR w Z μ base s env ρ) {x : Str} {v : PV} {a : Value} (r : RV w Z μ s.heap v a) (hx : Jk f x = true) {Q : KU}
  (H : ∀ s', St w K base Z μ σ s' → LR w Z μ base s' env (put ρ x v) → Ext (· = env.locals) Z μ s Z μ s' → Q () s') : wpAny (model P w) A (storeName env x a) Q E s :=
 Qz hk ek S L r H ((ek.kindOf x).trans (j1 hx))
theorem A2 (hk : Low K base) (hh : A.handled = none) (ek : z3 env f) (S : St w K base Z μ σ s) (L : LR w Z μ base s env ρ) {t : Expr} {v : PV} {a : Value} {C : zc → R} (r : RV w Z μ s.heap v a) (c : an.I (putT an f t v ρ C)) {Q : KU}
  (H : ∀ ρ' s', an.I (C ρ') → St w K base Z μ σ s' → LR w Z μ base s' env ρ' → Ext (· = env.locals) Z μ s Z μ s' → Q () s') : wpC (model P w) A (assign t env a) Q s := by
 rcases t <;> first | exact an.no c | skip
 ·have c := (zk an).mp c
  rw [arm_assign_Name]
  exact zj (yc (.of (Xu hk ek S L r c.1 fun s' S' L' X' => H _ _ c.2 S' L' X')))
 ·obtain ⟨es, he, c⟩ := an.om c
  obtain ⟨x, hx, c⟩ := an.om c
  obtain ⟨y, hy, c⟩ := an.om c
  obtain ⟨hl, c⟩ := (zk an).mp c
  obtain ⟨vs, hv, c⟩ := an.om c
  obtain ⟨q, hq, c⟩ := an.om c
  obtain ⟨px, hx⟩ := nam?_eq hx
  obtain ⟨py, hy⟩ := nam?_eq hy
  rw [two?_eq he, hx, hy]
  rw [PV.t?_eq hv, two?_eq hq] at r
  clear he hx hy hv hq
  obtain ⟨l, its, n, z, g, q, rfl⟩ := r.inv
  obtain ⟨h1, h2⟩ := Ai (es := [.Name x px, .Name y py]) env rfl
  rw [arm_assign_Tuple]
  refine zj ?_
  unfold unpack
  rw [h1, h2, show [Expr.Name x px, .Name y py].length = _ from q.length]
  refine ze (wpAny_holding (unpackItems_tuple hh (z8 g) fun h' he => ?_))
  obtain ⟨S', X'⟩ := S.ext' (k := s.toks) hk he
  have L' := L.ext S (X' _)
  obtain ⟨a1, a2, r1, r2, e⟩ := (q.later S (X' _)).two
  have X' := X' (· = env.locals)
  clear S L r q z g h1 h2 he
  rw [e, jR rfl, List.map_cons]
  refine jX ?_
  dsimp only
  rw [arm_assign_Name]
  refine zj (yc (.of (Xu hk ek S' L' r1 (bl hl) fun s₂ S2 L2 X2 => ?_)))
  have r2 := r2.own S' L' X2.fs
  have X2 := X'.trans X2
  clear S' L' r1 X'
  rw [jR rfl, List.map_cons]
  refine jX ?_
  dsimp only
  rw [arm_assign_Name]
  exact zj (yc (.of (Xu hk ek S2 L2 r2 (br hl) fun s3 S3 L3 X3 => qY (H _ _ c S3 L3 (X2.trans X3)))))
theorem DZ (hs : Sound P w K base an ih) (am : Amb A f.dp) (ek : z3 env f) (S : St w K base Z μ σ s) (L : LR w Z μ base s env ρ) {ifs : List Expr} {C : Bool → za → R} (c : an.I (XT an ih f ifs ρ σ C)) {Q : KB}
  (H : ∀ b σ' s' Z' μ', an.I (C b σ') → St w K base Z' μ' σ' s' → Ext NoW Z μ s Z' μ' s' → Q b s') :
  wpC (model P w) A (forIn ifs true fun c r => if r = true then do let ok ← isTrue c env (eval c env); pure (ForInStep.yield ok) else pure (ForInStep.yield r)) Q s := by
 cases ifs with
 | nil => exact zf (H true _ _ _ _ c S (Ext.refl ..))
 | cons e es =>
  obtain ⟨h, c⟩ := an.gdI c
  rw [List.isEmpty_iff.mp h, List.forIn_cons, if_pos rfl]
  refine zb (zb (hs.tst _ _ _ _ _ c A env _ _ _ _ am ek S L fun b σ' s' Z' μ' c' S' X' => zf ?_))
  exact zf (H _ _ _ _ _ c' S' X')
end
section
variable (P : Program) (w : World) (K : Heap) (base : AP) {R : Type} (an : Ans R)
def j8 (f : Fr0) (elt target : Expr) (ifs : List Expr) (src : Src) (i l : Nat) (ρ : zc) (σ : za) (C : za → Prop) : Prop :=
 ∀ (A : Around) (env : Env) (s0 s : Shared) (Z0 Z : AP) (μ0 μ : LA) (Q : KG) (it acc : Addr) (own : AP) (iter : Expr) (scope : Scope) (pos : Pos), Amb A f.dp → z3 env f → St w K base Z μ σ s → LR w Z μ base s env ρ →
  ya base env Z μ s own → ItR w Z μ s.heap src i it own → (∀ b, own b → s0.heap.get? b = none) → s0.heap.get? env.locals = none → Ext (fun b => b = env.locals ∨ own b) Z0 μ0 s0 Z μ s → μ[l]? = some acc →
  (∀ σ' s' Z' μ' ρ', C σ' → St w K base Z' μ' σ' s' → LR w Z' μ' base s' env ρ' → Ext NoW Z0 μ0 s0 Z' μ' s' → μ'[l]? = some acc → Q .next s') →
  zV (model P w) A (.compLoop (.ListComp elt [⟨target, iter, ifs, 0⟩] scope pos) 0 (.ref it) (.ref acc) env) Q s
end
section
variable {P : Program} {w : World} {K : Heap} {base : AP} {f : Fr0} {kf : Frag} {W : Wd} {R : Type} (an : Ans R)
def CoQ (P : Program) (w : World) (A : Around) (env : Env) (elt target : Expr) (ifs : List Expr) (it acc : Addr) (I : Nat → Shared → Prop) (Q : KG) (n : Nat) (x : Option Value) (s : Shared) : Prop := match x with
 | none => Q .next s
 | some v => wpAny (model P w) A (letOwnedTupleGo target (.ref it) v) (fun _ s => wpC (model P w) A (assign target env v) (fun _ s => wpC (model P w) A (forIn ifs true fun c r => if r = true then do let ok ← isTrue c env (eval c env); pure (ForInStep.yield ok) else pure (ForInStep.yield r)) (fun ok s => match ok with
   | true => wpC (model P w) A (eval elt env) (fun x s => wpC (model P w) A (call (.builtin "list.append") [.ref acc, x]) (fun _ s => ∃ m, m < n ∧ I m s) s) s
   | false => ∃ m, m < n ∧ I m s) s) s) NoE s
def KI (w : World) (K : Heap) (base : AP) (src : Src) (it acc : Addr) (l : Nat) (own : AP) (env : Env) (Z0 : AP) (μ0 : LA) (s0 : Shared) (D : Nat → Nat → zc → za → Prop) (k : Nat) (s : Shared) : Prop :=
 ∃ i ρ σ Z μ, D k i ρ σ ∧ St w K base Z μ σ s ∧ LR w Z μ base s env ρ ∧ ya base env Z μ s own ∧ ItR w Z μ s.heap src i it own ∧ Ext (fun b => b = env.locals ∨ own b) Z0 μ0 s0 Z μ s ∧ μ[l]? = some acc
theorem KI.elim {src : Src} {it acc : Addr} {l : Nat} {own : AP} {env : Env} {Z0 : AP} {μ0 : LA} {s0 : Shared} {D : Nat → Nat → zc → za → Prop} {k : Nat} {s : Shared} {G : Prop} (h : KI w K base src it acc l own env Z0 μ0 s0 D k s)
  (F : ∀ i ρ σ Z μ, D k i ρ σ → St w K base Z μ σ s → LR w Z μ base s env ρ → ya base env Z μ s own → ItR w Z μ s.heap src i it own → Ext (fun b => b = env.locals ∨ own b) Z0 μ0 s0 Z μ s → μ[l]? = some acc → G) : G := by
 obtain ⟨i, ρ, σ, Z, μ, c, S, L, O, I, X, hm⟩ := h; exact F i ρ σ Z μ c S L O I X hm
theorem Xi (hlow : Low K base) {ih : yg R → R} (hs : Sound P w K base an ih) {elt target : Expr} {ifs : List Expr} {src : Src} {A : Around} {env : Env} {s0 s : Shared} {Z0 Z : AP} {μ0 μ : LA} {Q : KG} {it acc : Addr} {own : AP} {D : Nat → Nat → zc → za → Prop} {i k l : Nat} {ρ : zc} {σ : za}
  (am : Amb A f.dp) (ek : z3 env f) (fr : ∀ b, own b → s0.heap.get? b = none) (frl : s0.heap.get? env.locals = none) {x : Option PV} (e : yU σ src i = some x) {C : za → Prop} {ev : zc → za → (PV → za → R) → R} {kk : zc → za → R}
  (c0 : x = none → C σ) (c1 : ∀ v, x = some v → Yk src target = true ∧ an.I (FD an ih f target ifs l ev kk v ρ σ)) (hev : ∀ ρ σ C, an.I (ev ρ σ C) → y4 P w K base f elt ρ σ (fun v σ => an.I (C v σ))) (hk : ∀ ρ σ, an.I (kk ρ σ) → ∃ m, m < k ∧ D m (i + 1) ρ σ)
  (H : ∀ σ' s' Z' μ' ρ', C σ' → St w K base Z' μ' σ' s' → LR w Z' μ' base s' env ρ' → Ext NoW Z0 μ0 s0 Z' μ' s' → μ'[l]? = some acc → Q .next s')
  (S : St w K base Z μ σ s) (L : LR w Z μ base s env ρ) (O : ya base env Z μ s own) (I : ItR w Z μ s.heap src i it own) (X : Ext (fun b => b = env.locals ∨ own b) Z0 μ0 s0 Z μ s) (hm : μ[l]? = some acc) :
  wpAny (model P w) A (pyNext (.ref it)) (CoQ P w A env elt target ifs it acc (KI w K base src it acc l own env Z0 μ0 s0 D) Q k) NoE s := by
 refine Jd hlow am.hd S L O I e (fun q h' k' hp => ?_) (fun v q Z1 sx a Sx Lx Ox Xx rx Ix => ?_)
 ·obtain ⟨S', L'⟩ := Cr (k := k') hlow S L O hp
  have no : ∀ b o, s0.heap.get? b = some o → ¬ own b := fun b o e q => zn e (fr b q)
  have nl : ∀ b o, s0.heap.get? b = some o → ¬ b = env.locals := fun b o e q => zn e (q ▸ frl)
  exact H _ _ _ _ _ (c0 q) S' L' ⟨X.pre, X.sub, X.newZ, X.newM, fun b o e hn hw => hp b o (no b o e) (X.pres b o e hn fun q => q.elim (nl b o e) (no b o e)), fun b o e =>
   let ⟨o', e'⟩ := X.has b o e; ⟨o', hp b o' (no b o e) e'⟩, X.gens, X.os⟩ hm
 ·obtain ⟨ct, c⟩ := c1 v q
  clear S L O I c0 c1 e H
  refine Yp hlow Sx Lx Ox Ix rx ct fun s₁ S1 L1 O1 X1 r₁ I1 => ?_
  have X1 : Ext (fun b => b = env.locals ∨ own b) Z0 μ0 s0 Z1 μ s₁ := X.trans ((Xx.trans X1).widen fun b q => .inr q)
  clear X Sx Lx Ox Xx Ix rx ct
  refine A2 an hlow am.hd ek S1 L1 r₁ c fun ρ2 s₂ c2 S2 L2 X2 => ?_
  obtain ⟨O2, k2⟩ := jk S1 L1 O1 X2.fs
  have I2 := I1.keep (L1.lifts S1 X2.fs) k2
  have X2 := X1.trans (X2.widen fun b q => Or.inl q)
  clear X1 S1 L1 O1 I1 r₁ c k2
  refine DZ an hs am ek S2 L2 c2 fun b σ3 s3 Z3 μ3 c3 S3 X3 => ?_
  have L3 := L2.ext S2 X3
  obtain ⟨O3, k3⟩ := jk S2 L2 O2 X3.own
  have I3 := I2.keep (L2.lifts S2 X3.own) k3
  have hm := X3.pre _ _ hm
  have X3 := X2.trans X3.own
  clear X2 S2 L2 O2 I2 c2 k3
  cases b with
  | false => exact (hk _ _ c3).imp fun m h => ⟨h.1, i + 1, ρ2, σ3, Z3, μ3, h.2, S3, L3, O3, I3, X3, hm⟩
  | true =>
   refine hev _ _ _ c3 A env _ _ _ _ am ek S3 L3 fun x σ4 s4 Z4 μ4 xa c4 S4 X4 r4 => ?_
   have L4 := L3.ext S3 X4
   obtain ⟨O4, k4⟩ := jk S3 L3 O3 X4.own
   have I4 := I3.keep (L3.lifts S3 X4.own) k4
   have hm := X4.pre _ _ hm
   have X4 := X3.trans X4.own
   clear X3 S3 L3 O3 I3 c3 k4
   refine Yt an hlow S4 (.cons (.loc hm) (.cons r4 .nil)) (fun u σ5 s5 Z5 μ5 ua c5 S5 X5 _ => ?_) c4
   obtain ⟨O5, k5⟩ := jk S4 L4 O4 X5.own
   exact (hk _ _ c5).imp fun m h => ⟨h.1, i + 1, ρ2, σ5, Z5, μ5, h.2, S5, L4.ext S4 X5, O5, I4.keep (L4.lifts S4 X5.own) k5, X4.trans X5.own, X5.pre _ _ hm⟩
theorem BH (hlow : Low K base) (ev : Nat → yg R → R) (h0 : ∀ t, ev 0 t = an.bad) {elt target : Expr} {ifs : List Expr} {src : Src} {l : Nat} {C : za → R} (h : ∀ k i ρ σ, ev (k + 1) (.comp f elt target ifs src i l ρ σ C) = Ap an (ev k) f elt target ifs src i l ρ σ C) (N : Nat)
  (hs : ∀ k, k < N → Sound P w K base an (ev k)) {ρ : zc} {σ : za} {i : Nat} (c : an.I (ev N (.comp f elt target ifs src i l ρ σ C))) : j8 P w K base f elt target ifs src i l ρ σ (fun σ => an.I (C σ)) := by
 intro A env s0 s Z0 Z μ0 μ Q it acc own iter scope pos am ek S L O I fr frl X hm H
 have turn : ∀ k s, KI w K base src it acc l own env Z0 μ0 s0 (fun k i ρ σ => k ≤ N ∧ an.I (ev k (.comp f elt target ifs src i l ρ σ C))) k s → wpAny (model P w) A (pyNext (.ref it)) (CoQ P w A env elt target ifs it acc (KI w K base src it acc l own env Z0 μ0 s0 (fun k i ρ σ => k ≤ N ∧ an.I (ev k (.comp f elt target ifs src i l ρ σ C)))) Q k) NoE s := by
  intro k s hI
  refine hI.elim fun i ρ σ Z μ c S L O I X hm => ?_
  obtain ⟨hk, c⟩ := c
  cases k with
  | zero => rw [h0] at c; exact an.no c
  | succ k =>
   rw [h] at c
   obtain ⟨x, e, c⟩ := an.om c
   exact Xi an hlow (hs k hk) am ek fr frl e (fun q => by rw [q] at c; exact c) (fun v q => by rw [q] at c; exact (zk an).mp c) (fun ρ σ C c => (hs k hk).ex _ _ _ _ _ c) (fun ρ σ c => ⟨k, Nat.lt_succ_self k, Nat.le_of_succ_le hk, c⟩) H S L O I X hm
 exact compC (R := Q) _ turn N ⟨i, ρ, σ, Z, μ, ⟨Nat.le_refl _, c⟩, S, L, O, I, X, hm⟩
end
end
section
section
variable {P : Program} {w : World} {K : Heap} {base : AP} {Z Z1 Z0 : AP} {μ μ1 μ0 : LA} {σ : za} {s s' s₁ s0 : Shared} {E : KV} {A : Around} {env : Env} {f : Fr0} {ρ : zc} {kf : Frag} {W : Wd} {R : Type} (an : Ans R) {ih : yg R → R} {own : AP}
theorem it_self {src : Src} {i : Nat} {it : Addr} (r : ItR w Z μ s.heap src i it own) {Q : KV} (h : Q (.ref it) s) : wpAny (model P w) A (pyIter (.ref it)) Q E s := by
 induction r with
 | list r q => exact wpAny_pyIter_listiter q h
 | tup r q => exact wpAny_pyIter_tupleiter q h
 | bts q => exact KBw.pyIter_self q h
 | rng q => exact wpAny_pyIter_rangeiter q h
 | enm r q g n => exact wpAny_pyIter_enum q h
theorem Aa (hk : Low K base) (S : St w K base Z μ σ s) {Wp : AP} (X : Ext Wp Z0 μ0 s0 Z μ s) {C : Addr} (h0 : s0.heap.get? C = none) (hm : C ∉ μ) (hz : ¬ Z C) (hb : ¬ base C) {h' : Heap} (hs : Heap.SameBut C s.heap h') :
  St w K base Z μ σ { s with heap := h' } ∧ Ext Wp Z0 μ0 s0 Z μ { s with heap := h' } ∧ jd Z μ s.heap Z μ h' :=
 ⟨S.turn (s' := { s with heap := h' }) hk (C := (· = C)) (fun b q => by subst q; exact ⟨hm, hz, hb⟩) (fun b o e n => (hs.2 b n).trans e),
  ⟨X.pre, X.sub, X.newZ, X.newM, fun b o e hn hw => (hs.2 b fun q => zn (q ▸ e) h0).trans (X.pres b o e hn hw), fun b o e => by
   obtain ⟨o', e'⟩ := X.has b o e
   exact ⟨o', (hs.2 b fun q => zn (q ▸ e) h0).trans e'⟩, X.gens, X.os⟩,
  ⟨fun _ _ e => e, fun _ e => e, fun b o z e => (hs.2 b fun q => hz (q ▸ z)).trans e⟩⟩
theorem LR.go (L : LR w Z μ base s env ρ) {C : Addr} (hC : ¬ FS env C) {h' : Heap} (T : jd Z μ s.heap Z μ h') (hs : Heap.SameBut C s.heap h') : LR w Z μ base { s with heap := h' } env ρ :=
 L.turn T (fun b o hb e => (hs.2 b fun q => hC (q ▸ hb)).trans e) L.priv
theorem Je {ns : List (Str × NameKind)} (h : jw f ns ns = true) : ∀ x ∈ ns, x.2 ≠ .cell := fun x hx q => by
 have := jv h x hx
 obtain ⟨n, k⟩ := x
 cases q
 cases this
theorem JG {ns : List (Str × NameKind)} (h : jw f ns ns = true) : ∀ x ∈ ns, x.2 = .local → ns.lookup x.1 = some .local := fun x hx q => by
 have := jv h x hx
 obtain ⟨n, k⟩ := x
 cases q
 rw [← jf]
 exact j1 this
theorem Gf (ek : z3 env f) (S : St w K base Z μ σ s) (L : LR w Z μ base s env ρ) {scope : Scope} (hok : BL f scope.names = true) (hkind : scope.kind = .function) {cl : List (Str × Addr)}
  (c1 : ∀ x c, cl.lookup x = some c → env.cells.lookup x = some c) (c2 : ∀ x, (x, .free) ∈ scope.names → ∃ c, cl.lookup x = some c) {C : Addr} (hC : s.heap.get? C = none) {h' : Heap} {k : Nat} {m : Str → Option Value} (hn : h'.Ns C m) (hp : ∀ b o, s.heap.get? b = some o → h'.get? b = some o) {cenv : Env}
  (e1 : cenv.scope = relabel scope env) (e2 : cenv.globals = env.globals) (e3 : cenv.builtins = env.builtins) (e4 : cenv.cells = cl) (e5 : cenv.locals = C) (T : jd Z μ s.heap Z μ h') :
  z3 cenv ⟨y2 scope.names, f.dp⟩ ∧ LR w Z μ base { s with heap := h', toks := k } cenv (Av ρ scope.names) := by
 have hd := br hok
 have hok := bl hok
 have hkd : cenv.scope.names = y2 scope.names := by rw [e1]; exact QI ek hok
 have EK : z3 cenv ⟨y2 scope.names, f.dp⟩ := ⟨by rw [e1]; exact hkind, e2.trans ek.glob, e3.trans ek.blt, hkd, Fe hd, fun x hx => by
  obtain ⟨c, hc⟩ := c2 x (AY hok hx)
  rw [e4, hc]; rfl⟩
 refine ⟨EK, ⟨m, e5 ▸ hn, fun x v e => ?_⟩, fun b hb => ?_, fun x c e => ?_, fun x y c ex ey => ?_⟩
 ·obtain ⟨hx, hv⟩ := capt_lk e
  have hq : (isK (lk f.kd x) .cell && isK (lk scope.names x) .free) = true := jv hok _ hx
  have q1 := j1 (bl hq)
  have q2 := j1 (br hq)
  obtain ⟨m0, _, hv0⟩ := L.ns
  obtain ⟨c, hc⟩ := c2 x hx
  rcases hv0 x v hv with ⟨k', b, e1', r1⟩ | ⟨k', c', b, e1', ⟨o, ho, hdt⟩, r1⟩
  ·rw [ek.kindOf, q1] at k'; cases k'
  ·have := c1 x c hc
   rw [e1'] at this
   cases this
   exact .inr ⟨by rw [EK.kindOf]; exact DT q2, c, b, by rw [e4]; exact hc, ⟨o, hp _ _ ho, hdt⟩, r1.lift T⟩
 ·rcases hb with rfl | ⟨x, hx⟩
  ·rw [e5]; exact S.fresh hC
  ·rw [e4] at hx
   exact L.priv b (.inr ⟨x, c1 _ _ hx⟩)
 ·rw [e4] at e
  obtain ⟨hn', v, o, ho, hdt⟩ := L.cel x c (c1 _ _ e)
  exact ⟨fun q => zn ho (q ▸ e5 ▸ hC), v, o, hp _ _ ho, hdt⟩
 ·rw [e4] at ex ey
  exact L.inj x y c (c1 _ _ ex) (c1 _ _ ey)
end
section
variable (P : Program) (w : World) (K : Heap) (base : AP) {R : Type} (an : Ans R)
structure SoundK (ih : yg R → R) : Prop extends SoundF P w K base an ih where
 comp : ∀ f elt target ifs src i l ρ σ C, an.I (ih (.comp f elt target ifs src i l ρ σ C)) → j8 P w K base f elt target ifs src i l ρ σ (fun σ => an.I (C σ))
end
section
variable {P : Program} {w : World} {K : Heap} {base : AP} {Z Z1 Z0 : AP} {μ μ1 μ0 : LA} {σ : za} {s s' s₁ s0 : Shared} {E : KV} {A : Around} {env : Env} {f : Fr0} {ρ : zc} {kf : Frag} {W : Wd} {R : Type} (an : Ans R) {ih : yg R → R} {own : AP}
theorem BJ (hs : SoundK P w K base an ih) (hk : Low K base) (am : Amb A f.dp) (ek : z3 env f) (S : St w K base Z μ σ s) (L : LR w Z μ base s env ρ) (O : ya base env Z μ s own) {src : Src} {it : Addr} (I : ItR w Z μ s.heap src 0 it own) (fr : ∀ b, own b → s0.heap.get? b = none) (X : Ext NoW Z0 μ0 s0 Z μ s)
  {elt target iter : Expr} {ifs : List Expr} {scope : Scope} {pos : Pos} {cl : List (Str × Addr)} {C : za → R} (hok : BL f scope.names = true) (hkind : scope.kind = .function)
  (c1 : ∀ x c, cl.lookup x = some c → env.cells.lookup x = some c) (c2 : ∀ x, (x, .free) ∈ scope.names → ∃ c, cl.lookup x = some c)
  (c : an.I (ih (.comp ⟨y2 scope.names, f.dp⟩ elt target ifs src 0 σ.length (Av ρ scope.names) (σ ++ [.list []]) C))) {RR : Value → Addr → Shared → Prop}
  (H : ∀ σ' s' Z' μ' acc CA, an.I (C σ') → St w K base Z' μ' σ' s' → Ext NoW Z0 μ0 s0 Z' μ' s' → RV w Z' μ' s'.heap (.loc σ.length) (.ref acc) → (∃ m, s'.heap.Ns CA m) → s0.heap.get? CA = none → CA ∉ μ' → ¬ Z' CA → ¬ base CA → RR (.ref acc) CA s') :
  wpAny (model P w) A (newList []) (fun acc s3 => wpAny (model P w) A (newFunctionEnv scope env.globals cl [] env.qual none .none (some env)) (fun cenv s4 =>
    zV (model P w) A (.compStart (.ListComp elt [⟨target, iter, ifs, 0⟩] scope pos) 0 (.ref it) acc { cenv with scope := relabel scope env }) (fun _ s' => RR acc cenv.locals s') s4) NoE s3) NoE s := by
 have hok' := bl hok
 refine wpAny_newList ?_ (Nat.zero_le _)
 have hp : ∀ b o, s.heap.get? b = some o → (s.heap.push { cls := .type "list", data := .seq ([] : List Value).toArray }).get? b = some o := fun b o e => Heap.get?_push_of_some _ e
 obtain ⟨S3, X3⟩ := S.new (k := s.toks) (c := .list []) (a := s.heap.objs.size) hk hp (zS _) (.list (its := #[]) (n := 0) (Heap.get?_push_size _ rfl) .nil)
 have hacc : (μ ++ [s.heap.objs.size])[σ.length]? = some s.heap.objs.size := S.at_end _
 generalize hs3 : ({ s with heap := s.heap.push { cls := .type "list", data := .seq ([] : List Value).toArray } } : Shared) = s3 at *
 have S3 : St w K base Z (μ ++ [s.heap.objs.size]) (σ ++ [.list []]) s3 := by subst hs3; exact S3
 have X3 : ∀ W, Ext W Z μ s Z (μ ++ [s.heap.objs.size]) s3 := by subst hs3; exact X3
 have L3 := L.ext S (X3 _)
 obtain ⟨O3, k3⟩ := jk S L O (X3 _)
 have I3 := I.keep (L.lifts S (X3 _)) k3
 refine wpAny_newFunctionEnv (Je hok') (fun x hx => nomatch hx) (fun h' hn hsb => ?_) hkind
 have hC := zS s3.heap
 have hp4 : ∀ b o, s3.heap.get? b = some o → h'.get? b = some o := fun b o e => (hsb.2 b fun q => zn (q ▸ e) hC).trans (Heap.get?_push_of_some _ e)
 obtain ⟨S4, X4⟩ := S3.grow (k := s3.toks + ([] : List (Str × Value)).length) hk hp4
 obtain ⟨EK, L4⟩ := Gf (cenv := { newEnv scope s3.heap.objs.size env.globals cl env.qual none .none (some env) builtinsNs with scope := relabel scope env }) (k := s3.toks + ([] : List (Str × Value)).length) ek S3 L3 hok hkind c1 c2 hC hn hp4 rfl rfl rfl rfl rfl ((X4 NoW).lift S3 fun _ _ q => q)
 have I4 := I3.keep ((X4 NoW).lift S3 fun _ _ q => q) fun b o _ e => hp4 b o e
 have O4 : ya base { newEnv scope s3.heap.objs.size env.globals cl env.qual none .none (some env) builtinsNs with scope := relabel scope env } Z (μ ++ [s.heap.objs.size]) { s3 with heap := h', toks := s3.toks + ([] : List (Str × Value)).length } own := fun b q => by
  obtain ⟨q1, q2, q3, q4, o, q5⟩ := O3 b q
  refine ⟨q1, q2, q3, fun fs => ?_, o, hp4 b o q5⟩
  rcases fs with rfl | ⟨x, hx⟩
  ·exact zn q5 hC
  ·exact q4 (.inr ⟨x, c1 _ _ hx⟩)
 have XX := (X.trans (X3 _)).trans (X4 _)
 have hC0 : s0.heap.get? s3.heap.objs.size = none := (X.trans (X3 NoW)).back hC
 have loop : zV (model P w) A (.compLoop (.ListComp elt [⟨target, iter, ifs, 0⟩] scope pos) 0 (.ref it) (.ref s.heap.objs.size) { newEnv scope s3.heap.objs.size env.globals cl env.qual none .none (some env) builtinsNs with scope := relabel scope env }) (fun _ s' => RR (.ref s.heap.objs.size) s3.heap.objs.size s') { s3 with heap := h', toks := s3.toks + ([] : List (Str × Value)).length } := by
  refine hs.comp _ _ _ _ _ _ _ _ _ _ c A _ s0 _ Z0 Z μ0 _ _ it s.heap.objs.size own iter scope pos am EK S4 L4 O4 I4 fr hC0 (XX.weak fun b q => q.elim) hacc fun σ' s' Z' μ' ρ' c' S' L' X' hm' => ?_
  obtain ⟨m', hn', _⟩ := L'.ns
  obtain ⟨p1, p2, p3⟩ := L'.priv s3.heap.objs.size (.inl rfl)
  exact H σ' s' Z' μ' _ _ c' S' X' (.loc hm') ⟨m', hn'⟩ hC0 p1 p2 p3
 exact BK loop (it_self I4 loop)
end
end
section
noncomputable def isFn (k : ScopeKind) : Bool := k == .function
def Fd (x : Str) : List (Str × NameKind) → Bool
 | [] => true
 | e :: r => (!(sq e.1 x) || !(kEq e.2 .local || kEq e.2 .cell)) && Fd x r
def gen? (gs : List Comprehension) : Option (Expr × Expr × List Expr) := (one? gs).bind fun g => bOf (decide (g.is_async = 0)) (some (g.target, g.iter, g.ifs))
theorem gen?_eq {gs : List Comprehension} {p : Expr × Expr × List Expr} (h : gen? gs = some p) : gs = [⟨p.1, p.2.1, p.2.2, 0⟩] := by
 obtain ⟨g, hg, h⟩ := zp h
 obtain ⟨h0, h⟩ := zQ h
 obtain ⟨a, b, c, d⟩ := g
 have h0 : d = 0 := dt h0
 rw [one?_eq hg, ← Option.some.inj h, h0]
noncomputable def namP : Expr → Option (Str × Pos)
 | .Name x p => some (x, p)
 | _ => none
theorem namP_eq {e : Expr} {p : Str × Pos} (h : namP e = some p) : e = .Name p.1 p.2 := by rcases e <;> first | exact no h | (rw [← Option.some.inj h])
structure LC where
 x : Str
 px : Pos
 elt : Expr
 g : Expr × Expr × List Expr
 scope : Scope
 pos : Pos
def asgC (ts : List Expr) : Expr → Option LC
 | .ListComp elt gs scope pos => (one? ts).bind fun t => (namP t).bind fun xp => (gen? gs).bind fun g => some ⟨xp.1, xp.2, elt, g, scope, pos⟩
 | _ => none
theorem Dg {ts : List Expr} {e : Expr} {c : LC} (h : asgC ts e = some c) : ts = [.Name c.x c.px] ∧ e = .ListComp c.elt [⟨c.g.1, c.g.2.1, c.g.2.2, 0⟩] c.scope c.pos := by
 rcases e <;> first | exact no h | skip
 obtain ⟨t, ht, h⟩ := zp h
 obtain ⟨p, hp, h⟩ := zp h
 obtain ⟨g, hg, h⟩ := zp h
 rw [← Option.some.inj h, one?_eq ht, namP_eq hp, gen?_eq hg]
 exact ⟨rfl, rfl⟩
section
variable {R : Type} (an : Ans R) (W : Wd) (ih : yg R → R)
def Gg (f : Fr0) (elt target iter : Expr) (ifs : List Expr) (scope : Scope) (ρ : zc) (σ : za) (C : PV → za → R) : R :=
 chk an (Fc iter && BL f scope.names && isFn scope.kind) (YC an W ih f iter ρ σ fun src σ1 => ih (.comp ⟨y2 scope.names, f.dp⟩ elt target ifs src 0 σ1.length (Av ρ scope.names) (σ1 ++ [.list []]) fun σ2 => C (.loc σ1.length) σ2))
def xO (f : Fr0) (e : Expr) (ρ : zc) (σ : za) (C : PV → za → R) : R := match e with
 | .ListComp elt gs scope _ => zr an.bad (gen? gs) fun g => Gg an W ih f elt g.1 g.2.1 g.2.2 scope ρ σ C
 | e => F5 an W ih f e ρ σ C
def asgK (f : Fr0) (c : LC) (ρ : zc) (σ : za) (C : Fl → zc → za → R) : R :=
 chk an (Jk f c.x && Nat.beq c.px.line c.pos.line && Fd c.x c.scope.names) (Gg an W ih f c.elt c.g.1 c.g.2.1 c.g.2.2 c.scope ρ σ fun v σ1 => C .next (put ρ c.x v) σ1)
def B6 (f : Fr0) (s : Stmt) (ρ : zc) (σ : za) (C : Fl → zc → za → R) : R := match s with
 | .Assign ts e _ => (match asgC ts e with
  | some c => asgK an W ih f c ρ σ C
  | none => YB an W ih f s ρ σ C)
 | s => YB an W ih f s ρ σ C
def Qy (f : Fr0) (ss : List Stmt) (ρ : zc) (σ : za) (C : Fl → zc → za → R) : R := match ss with
 | [] => C .next ρ σ
 | s :: ss => B6 an W ih f s ρ σ (nextK (fun ρ1 σ1 => ih (.sts f ss ρ1 σ1 C)) C)
def C4 (t : yg R) : R := match t with
 | .ex f e ρ σ C => xO an W ih f e ρ σ C
 | .exs f es ρ σ C => C2 ih f es ρ σ C
 | .tst f e ρ σ C => B4 an ih f e ρ σ C
 | .sts f ss ρ σ C => Qy an W ih f ss ρ σ C
 | .whl f t b o ρ σ C => B0 ih f t b o ρ σ C
 | .forL f target src i b o ρ σ C => CX an W ih f target src i b o ρ σ C
 | .comp f elt target ifs src i l ρ σ C => Ap an ih f elt target ifs src i l ρ σ C
 | .callV dp v args σ C => xE an W ih dp v args σ C
def evK : Nat → yg R → R
 | 0, _ => an.bad
 | k + 1, t => C4 an W (evK k) t
end
section
variable {P : Program} {w : World} {K : Heap} {base : AP} {Z Z1 Z0 : AP} {μ μ1 μ0 : LA} {σ : za} {s s' s₁ s0 : Shared} {E : KV} {A : Around} {env : Env} {f : Fr0} {ρ : zc} {kf : Frag} {W : Wd} {R : Type} (an : Ans R) {ih : yg R → R} {own : AP}
theorem isFn_eq {k : ScopeKind} (h : isFn k = true) : k = .function := beq_iff_eq.mp h
theorem Ys (hs : SoundK P w K base an ih) (ok : WOk w K base kf W) (am : Amb A f.dp) (ek : z3 env f) (S : St w K base Z μ σ s) (L : LR w Z μ base s env ρ) {elt target iter : Expr} {ifs : List Expr} {scope : Scope} {pos : Pos} {C : PV → za → R} {use : Option (Value → Sem Unit)} (c : an.I (Gg an W ih f elt target iter ifs scope ρ σ C)) {Q : KV}
  (H : ∀ σ' s' Z' μ' l acc CA, an.I (C (.loc l) σ') → St w K base Z' μ' σ' s' → Ext NoW Z μ s Z' μ' s' → RV w Z' μ' s'.heap (.loc l) (.ref acc) → (∃ m, s'.heap.Ns CA m) → s.heap.get? CA = none → CA ∉ μ' → ¬ Z' CA → ¬ base CA → EZ (model P w) A use Q (.ref acc) CA s') {p : Pos} :
  wpC (model P w) A (comprehension (.ListComp elt [⟨target, iter, ifs, 0⟩] scope pos) scope env p (newList []) false (eval iter env) use) Q s := by
 obtain ⟨h, c⟩ := (zk an).mp c
 have h2 := br (bl h)
 have hok := bl h2
 have hkind := isFn_eq (br h)
 obtain ⟨cl, e, c1, c2⟩ := BN ek hok
 refine Js (g := ⟨target, iter, ifs, 0⟩) (gs := []) rfl (qG (bl (bl h))) e hkind (JG hok) ?_
 refine JR an hs.toSound ok am ek S L (fun src σ1 s₁ Z1 μ1 it own c₁ S1 L1 O1 I1 fr X1 => ?_) c
 exact BJ an hs ok.low am ek S1 L1 O1 I1 fr X1 h2 hkind c1 c2 c₁ (RR := fun acc C s' => EZ (model P w) A use Q acc C s') fun σ' s' Z' μ' acc CA c' S' X' r' hn h0 hm hz hb => H σ' s' Z' μ' _ acc CA c' S' X' r' hn h0 hm hz hb
theorem jE (hs : SoundK P w K base an ih) (ok : WOk w K base kf W) {e : Expr} {C : PV → za → R} (c : an.I (xO an W ih f e ρ σ C)) : y4 P w K base f e ρ σ (fun v σ => an.I (C v σ)) := by
 rcases e <;> first | exact XY an hs.toSound ok c | skip
 intro A env s Z μ Q am ek S L H
 obtain ⟨g, hg, c⟩ := an.om c
 rw [gen?_eq hg, eval_ListComp]
 refine Ys an hs ok am ek S L c (use := none) fun σ' s' Z' μ' l acc CA c' S' X' r' hn h0 hm hz hb => ?_
 obtain ⟨m, hn⟩ := hn
 refine ⟨m, hn, fun h' hsb => ?_⟩
 obtain ⟨S2, X2, T⟩ := Aa ok.low S' X' h0 hm hz hb hsb
 exact H _ _ _ _ _ _ c' S2 X2 (r'.lift T)
theorem DI {x : Str} {ns : List (Str × NameKind)} : Fd x ns = true → (ns.any fun (n, k) => n == x && (k == .local || k == .cell)) = false := by
 induction ns with
 | nil => exact fun _ => rfl
 | cons y r ih =>
  intro h
  rw [List.any_cons, ih (br h), Bool.or_false]
  have h := bl h
  obtain ⟨y, k⟩ := y
  have h : (!(sq y x) || !(kEq k .local || kEq k .cell)) = true := h
  rw [AU, Bool.beq_comm] at h
  show (y == x && (k == .local || k == .cell)) = false
  cases e : (y == x) with
  | false => rfl
  | true =>
   rw [e] at h
   clear ih
   rcases k <;> first | rfl | exact nf h
theorem BS (hs : SoundK P w K base an ih) (ok : WOk w K base kf W) {g : LC} {spos : Pos} {C : Fl → zc → za → R} (c : an.I (asgK an W ih f g ρ σ C)) : YN P w K base f (.Assign [.Name g.x g.px] (.ListComp g.elt [⟨g.g.1, g.g.2.1, g.g.2.2, 0⟩] g.scope g.pos) spos) ρ σ (fun fl ρ σ => an.I (C fl ρ σ)) := by
 obtain ⟨h, c⟩ := (zk an).mp c
 have hx := bl (bl h)
 intro A env s Z μ Q am ek S L H
 have hb : env.blockKind = .function := by unfold Env.blockKind; rw [ek.kind]; rfl
 rw [exec_Assign_Name_used _ _ _ _ (by
  show pure (env.blockKind == .function && env.kindOf g.x == some .local && g.px.line == g.pos.line && !(g.scope.names.any fun (n, k) => n == g.x && (k == .local || k == .cell))) = _
  rw [hb, (ek.kindOf g.x).trans (j1 hx), DI (br h), Nat.eq_of_beq_eq_true (br (bl h)), beq_self_eq_true, beq_self_eq_true, beq_self_eq_true]
  rfl)]
 refine zj ?_
 rw [arm_evalThenUse_ListComp]
 refine zb (zb (Ys an hs ok am ek S L c (use := some (assign (.Name g.x g.px) env)) (Q := fun _ s' => wpC (model P w) A (pure PUnit.unit) (fun _ s' => wpC (model P w) A (pure Flow.next) Q s') s') fun σ' s' Z' μ' l acc CA c' S' X' r' hn h0 hm hz hb => ?_))
 show wpC _ _ (assign (.Name g.x g.px) env (.ref acc)) _ _
 rw [arm_assign_Name]
 have hCA : ¬ FS env CA := fun q => by obtain ⟨o, e⟩ := L.has CA q; exact zn e h0
 have L' := L.ext S X'
 clear c S L
 refine zj (yc (.of (Xu ok.low ek S' L' r' hx fun s₂ S2 L2 X2 => ?_)))
 obtain ⟨m, o, es, ep, ho, hr⟩ := hn
 refine ⟨m, ⟨o, es, ep, X2.pres _ _ ho hm fun q => hCA (.inl q), hr⟩, fun h' hsb => ?_⟩
 obtain ⟨S3, X3, T⟩ := Aa ok.low S2 (X'.own.trans X2.fs) h0 hm hz hb hsb
 exact zf (zf (H .next _ _ _ _ _ .next c' S3 (L2.go hCA T hsb) X3 trivial))
theorem JD (hs : SoundK P w K base an ih) (ok : WOk w K base kf W) {st : Stmt} {C : Fl → zc → za → R} (c : an.I (B6 an W ih f st ρ σ C)) : YN P w K base f st ρ σ (fun fl ρ σ => an.I (C fl ρ σ)) := by
 rcases st <;> first | exact xY an hs.toSoundF ok c | skip
 rename_i ts e pos
 have c : an.I (match asgC ts e with
  | some c => asgK an W ih f c ρ σ C
  | none => YB an W ih f (.Assign ts e pos) ρ σ C) := c
 cases h : asgC ts e with
 | none => rw [h] at c; exact xY an hs.toSoundF ok c
 | some g =>
  rw [h] at c
  rw [(Dg h).1, (Dg h).2]
  exact BS an hs ok c
theorem xo (hs : SoundK P w K base an ih) (ok : WOk w K base kf W) {ss : List Stmt} {C : Fl → zc → za → R} (c : an.I (Qy an W ih f ss ρ σ C)) : xH P w K base f ss ρ σ (fun fl ρ σ => an.I (C fl ρ σ)) := by
 intro A env s Z μ Q am ek S L H
 cases ss with
 | nil => exact X_nil (H .next _ _ _ _ _ .next c S L (Ext.refl ..) trivial)
 | cons st ss =>
  refine X_cons (JD an hs ok c A env _ _ _ _ am ek S L fun v ρ1 σ1 s₁ Z1 μ1 a c₁ S1 L1 X1 r1 => ?_)
  have H1 := fun v a c r => H v ρ1 σ1 s₁ Z1 μ1 a c S1 L1 X1 r
  rcases v <;> rcases a <;> first | exact r1.elim | exact H1 _ _ c₁ r1 | skip
  exact hs.sts _ _ _ _ _ c₁ A env _ _ _ _ am ek S1 L1 fun v ρ' σ' s' Z' μ' a c S' L' X' r => H _ _ _ _ _ _ _ c S' L' (X1.trans X') r
theorem Yc (ok : WOk w K base kf W) (n : Nat) : SoundK P w K base an (evK an W n) := by
 induction n using Nat.strongRecOn with
 | ind n hn =>
 have low : ∀ k, k < n → Sound P w K base an (evK an W k) := fun k hk => (hn k hk).toSound
 cases n with
 | zero =>
  exact ⟨⟨⟨⟨fun _ _ _ _ _ c => (an.nb c).elim, fun _ _ _ _ _ c => (an.nb c).elim, fun _ _ _ _ _ c => (an.nb c).elim, fun _ _ _ _ _ c => (an.nb c).elim, fun _ _ _ _ _ c => (an.nb c).elim⟩, fun _ _ _ _ _ _ _ c => (an.nb c).elim⟩, fun _ _ _ _ _ _ _ _ _ c => (an.nb c).elim⟩, fun _ _ _ _ _ _ _ _ _ _ c => (an.nb c).elim⟩
 | succ k =>
  have hs := hn k (Nat.lt_succ_self k)
  refine ⟨⟨⟨⟨fun f e ρ σ C c => jE an hs ok c, fun f es ρ σ C c ns => x7 an hs.toSound c ns, fun f e ρ σ C c => xW an hs.toSound ok c, fun f ss ρ σ C c => xo an hs ok c, fun dp v args σ C c => jp an hs.toSound ok c⟩,
   fun f t b o ρ σ C c => Dr an (evK an W) (fun _ => rfl) (fun _ _ _ => rfl) (k + 1) low c⟩, fun f target src i b o ρ σ C c => ?_⟩, fun f elt target ifs src i l ρ σ C c => ?_⟩
  ·intro A env s0 s Z0 Z μ0 μ Q it own am ek S L O I fr X H
   exact D7 an ok (evK an W) (fun _ => rfl) (fun _ _ _ _ => rfl) (k + 1) low c am ek S L O I fr X H
  ·exact BH an ok.low (evK an W) (fun _ => rfl) (fun _ _ _ _ => rfl) (k + 1) low c
end
end
section
section
variable (P : Program) (w : World) (K : Heap) (base : AP)
def jr (dp : Nat) (v : PV) (args : List PV) (r : PV) : Prop := ∀ σ, yr P w K base dp v args σ (fun u σ' => u = r ∧ σ' = σ)
end
section
variable {P : Program} {w : World} {K : Heap} {base : AP}
theorem Amb.less {A : Around} {d e : Nat} (a : Amb A e) (h : d ≤ e) : Amb A d := ⟨a.hd, Nat.lt_of_le_of_lt (Nat.add_le_add_right (Nat.add_le_add_left (Nat.mul_le_mul_left _ h) _) _) a.depth, Nat.lt_of_le_of_lt (Nat.add_le_add_right (Nat.add_le_add_left (Nat.mul_le_mul_left _ h) _) _) a.units⟩
theorem jr.more {d e : Nat} {v r : PV} {args : List PV} (h : jr P w K base d v args r) (hd : d ≤ e) : jr P w K base e v args r := fun σ A s Z μ va as Q a => h σ A s Z μ va as Q (a.less hd)
end
end
section
mutual
noncomputable def zD : PV → Bool
 | .none => true | .bool _ => true | .int _ => true | .str _ => true | .bytes _ => true | .con _ => true | .bi _ => true
 | .tup vs => zx vs
 | .list vs => zx vs
 | .dict es => q6 es
 | .inst _ fs => xw fs
 | .loc _ => false
noncomputable def zx : List PV → Bool
 | [] => true
 | v :: r => zD v && zx r
noncomputable def q6 : List (PV × PV) → Bool
 | [] => true
 | (_, v) :: r => zD v && q6 r
noncomputable def xw : List (Str × PV) → Bool
 | [] => true
 | (_, v) :: r => zD v && xw r
end
section
variable {P : Program} {w : World} {K : Heap} {base : AP} {Z Z' : AP} {μ μ' : LA} {h h' : Heap}
theorem zI {a b : Bool} (h : (a && b) = true) : a = true ∧ b = true := (Bool.and_eq_true a b).mp h
theorem RV.free (hz : ∀ a, Z a → Z' a) (hf : ∀ a o, Z a → h.get? a = some o → h'.get? a = some o) {v : PV} {a : Value} (n : zD v = true) (r : RV w Z μ h v a) : RV w Z' μ' h' v a := by
 refine RV.rec (motive_1 := fun v a _ => zD v = true → RV w Z' μ' h' v a) (motive_2 := fun v a _ => zx v = true → RVs w Z' μ' h' v a) (motive_3 := fun v a _ => q6 v = true → REs w Z' μ' h' v a) (motive_4 := fun v a _ => xw v = true → RFs w Z' μ' h' v a)
  (fun _ => .none) (fun _ => .bool) (fun _ => .int) (fun _ => .str) (fun _ => .bytes) (fun z e _ ih n => .tup (hz _ z) (hf _ _ z e) (ih n)) (fun z e _ ih n => .list (hz _ z) (hf _ _ z e) (ih n)) (fun z e _ ih n => .dict (hz _ z) (hf _ _ z e) (ih n)) (fun z y e f _ ih n => .inst (hz _ z) (hz _ y) (hf _ _ z e) (hf _ _ y f) (ih n)) (fun _ => .con) (fun _ => .bi) (fun _ n => nomatch n)
  (fun _ => .nil) (fun _ _ i j n => .cons (i (zI n).1) (j (zI n).2)) (fun _ => .nil) (fun k _ _ i j n => .cons k (i (zI n).1) (j (zI n).2)) (fun _ => .nil) (fun k _ _ i j n => .cons k (i (zI n).1) (j (zI n).2)) r n
theorem RVs.free (hz : ∀ a, Z a → Z' a) (hf : ∀ a o, Z a → h.get? a = some o → h'.get? a = some o) {v : List PV} {a : List Value} (n : zx v = true) (r : RVs w Z μ h v a) : RVs w Z' μ' h' v a := by
 induction v generalizing a with
 | nil => rw [show a = [] from r.inv]; exact .nil
 | cons v vs ih => obtain ⟨a, as, x, q, rfl⟩ := r.inv; exact .cons (RV.free hz hf (zI n).1 x) (ih (zI n).2 q)
end
end
section
/-! the evaluator on a path: a script answers what is not known; what is left is a guard and a claim -/
inductive Ev where
 | bit (b : Bool) | val (v : PV) | nat (n : Nat) | res (v : PV) (σ : za) | loop (fl : Fl) (ρ : zc) (σ : za) | sto (σ : za) | go
abbrev RT := List Ev → Bool × Prop
noncomputable def Ev.b? (e : Ev) : Option Bool := match e with | .bit b => some b | _ => .none
noncomputable def Ev.v? (e : Ev) : Option PV := match e with | .val v => some v | _ => .none
noncomputable def Ev.n? (e : Ev) : Option Nat := match e with | .nat n => some n | _ => .none
noncomputable def Ev.r? (e : Ev) : Option (PV × za) := match e with | .res v σ => some (v, σ) | _ => .none
noncomputable def Ev.l? (e : Ev) : Option (Fl × zc × za) := match e with | .loop fl ρ σ => some (fl, ρ, σ) | _ => .none
noncomputable def Ev.s? (e : Ev) : Option za := match e with | .sto σ => some σ | _ => .none
noncomputable def Ev.g? (e : Ev) : Bool := match e with | .go => true | _ => false
noncomputable def zh (o : Option Bool) (p : Bool) : Bool := match o with
 | some t => (match p with | true => t | false => !t)
 | none => false
theorem QV {o : Option Bool} {p : Bool} (h : zh o p = true) : o = some p := by
 cases o with
 | none => cases h
 | some t => cases p with
  | true => exact congrArg some h
  | false => cases t with
   | true => cases h
   | false => rfl
theorem zl {o : Option Bool} {p : Bool} : zh o p = true ↔ o = some p := ⟨QV, fun e => by rw [e]; cases p <;> rfl⟩
noncomputable def Yy : RT := fun _ => (false, False)
noncomputable def ckT (b : Bool) (r : RT) : RT := fun s => (b && (r s).1, (r s).2)
def opVT (o : Option PV) (k : PV → RT) : RT := fun s => match s with
 | [] => zr Yy o k []
 | e :: s => (match e.v? with
  | some v => ((k v s).1, o = some v ∧ (k v s).2)
  | none => zr Yy o k (match e.g? with | true => s | false => e :: s))
def opNT (o : Option Nat) (k : Nat → RT) : RT := fun s => match s with
 | [] => zr Yy o k []
 | e :: s => (match e.n? with
  | some v => ((k v s).1, o = some v ∧ (k v s).2)
  | none => zr Yy o k (match e.g? with | true => s | false => e :: s))
def opBT (o : Option Bool) (k : Bool → RT) : RT := fun s => match s with
 | [] => zr Yy o k []
 | e :: s => (match e.b? with
  | some p => (zh o p && (k p s).1, (k p s).2)
  | none => zr Yy o k (match e.g? with | true => s | false => e :: s))
def TI (r : RT) : Prop := ∃ s, (r s).1 = true ∧ (r s).2
theorem qZ {α : Type} {o : Option α} {k : α → RT} {s : List Ev} (h : (zr Yy o k s).1 = true ∧ (zr Yy o k s).2) : ∃ v, o = some v ∧ TI (k v) := by
 cases o with
 | none => cases h.1
 | some v => exact ⟨v, rfl, s, h⟩
theorem ckT_I {b : Bool} {p : RT} : TI (ckT b p) ↔ b = true ∧ TI p :=
 ⟨fun ⟨s, h1, h2⟩ => ⟨(zI h1).1, s, (zI h1).2, h2⟩, fun ⟨hb, s, h1, h2⟩ => ⟨s, (Bool.and_eq_true _ _).mpr ⟨hb, h1⟩, h2⟩⟩
theorem opVT_I {o : Option PV} {k : PV → RT} (h : TI (opVT o k)) : ∃ v, o = some v ∧ TI (k v) := by
 obtain ⟨s, h⟩ := h
 cases s with
 | nil => exact qZ h
 | cons e s =>
  dsimp only [opVT] at h
  generalize e.v? = x at h
  cases x with
  | some v => exact ⟨v, h.2.1, s, h.1, h.2.2⟩
  | none => exact qZ h
theorem opNT_I {o : Option Nat} {k : Nat → RT} (h : TI (opNT o k)) : ∃ v, o = some v ∧ TI (k v) := by
 obtain ⟨s, h⟩ := h
 cases s with
 | nil => exact qZ h
 | cons e s =>
  dsimp only [opNT] at h
  generalize e.n? = x at h
  cases x with
  | some v => exact ⟨v, h.2.1, s, h.1, h.2.2⟩
  | none => exact qZ h
theorem opBT_I {o : Option Bool} {k : Bool → RT} (h : TI (opBT o k)) : ∃ v, o = some v ∧ TI (k v) := by
 obtain ⟨s, h⟩ := h
 cases s with
 | nil => exact qZ h
 | cons e s =>
  dsimp only [opBT] at h
  generalize e.b? = x at h
  cases x with
  | some v => exact ⟨v, QV (zI h.1).1, s, (zI h.1).2, h.2⟩
  | none => exact qZ h
theorem y8 {p : Prop} (h : TI Yy) : p := by obtain ⟨s, h, _⟩ := h; cases h
def anT : Ans RT := ⟨Yy, TI, fun h => y8 h, ckT, ckT_I, opVT, opVT_I, opNT, opNT_I, opBT, opBT_I⟩
noncomputable def jn (p : Prop) : RT := fun _ => (true, p)
theorem jF {p : Prop} (h : TI (jn p)) : p := h.choose_spec.2
theorem embT_mk {p : Prop} (h : p) : TI (jn p) := ⟨[], rfl, h⟩
noncomputable def ndN {β : Type} (rd : Ev → Option β) (Q : β → Prop) (C : β → RT) : RT := fun s => match s with
 | [] => (false, False)
 | e :: s => (match rd e with
  | some b => (true, Q b ∧ (C b s).1 = true ∧ (C b s).2)
  | none => (false, False))
theorem Cw {β : Type} {rd : Ev → Option β} {Q : β → Prop} {C : β → RT} (h : TI (ndN rd Q C)) : ∃ b, Q b ∧ TI (C b) := by
 obtain ⟨s, h⟩ := h
 cases s with
 | nil => cases h.1
 | cons e s =>
  dsimp only [ndN] at h
  generalize rd e = x at h
  cases x with
  | some v => exact ⟨v, h.2.1, s, h.2.2⟩
  | none => cases h.1
theorem mkI {r : RT} (s : List Ev) (B : Bool) (Q : Prop) (hB : B = true) (hQ : Q) (e : r s = (B, Q) := by kernel_rfl) : TI r := ⟨s, by rw [e]; exact hB, by rw [e]; exact hQ⟩
section
variable (P : Program) (w : World) (K : Heap) (base : AP) (W : Wd) (stp : Expr → Bool) (ih : yg RT → RT)
structure BxE (f : Fr0) (e : Expr) (ρ : zc) (σ : za) (C : KD) : Prop where
 out : y4 P w K base f e ρ σ C
def callN (dp : Nat) (v : PV) (args : List PV) (σ : za) (C : PV → za → RT) : RT := ndN Ev.r? (fun p => ∀ D : KD, D p.1 p.2 → yr P w K base dp v args σ D) fun p => C p.1 p.2
def exN (f : Fr0) (e : Expr) (ρ : zc) (σ : za) (C : PV → za → RT) : RT := ndN Ev.r? (fun p => ∀ D : KD, D p.1 p.2 → BxE P w K base f e ρ σ D) fun p => C p.1 p.2
def forN (f : Fr0) (t : Expr) (src : Src) (i : Nat) (b o : List Stmt) (ρ : zc) (σ : za) (C : Fl → zc → za → RT) : RT := ndN Ev.l? (fun p => ∀ D : KF, D p.1 p.2.1 p.2.2 → yJ P w K base f t src i b o ρ σ D) fun p => C p.1 p.2.1 p.2.2
def compN (f : Fr0) (e t : Expr) (is : List Expr) (src : Src) (i l : Nat) (ρ : zc) (σ : za) (C : za → RT) : RT := ndN Ev.s? (fun p => ∀ D : za → Prop, D p → j8 P w K base f e t is src i l ρ σ D) C
def stepT (t : yg RT) : RT := match t with
 | .callV dp v args σ C => (match v with
  | .con a => callN P w K base dp (.con a) args σ C
  | v => xE anT W ih dp v args σ C)
 | .forL f t s i b o ρ σ C => forN P w K base f t s i b o ρ σ C
 | .comp f e t is s i l ρ σ C => compN P w K base f e t is s i l ρ σ C
 | .whl .. => Yy
 | .ex f e ρ σ C => (match stp e with
  | true => exN P w K base f e ρ σ C
  | false => xO anT W ih f e ρ σ C)
 | t => C4 anT W ih t
def evT : Nat → yg RT → RT
 | 0, _ => Yy
 | k + 1, t => stepT P w K base W stp (evT k) t
end
section
variable {P : Program} {w : World} {K : Heap} {base : AP} {f : Fr0} {kf : Frag} {W : Wd} {stp : Expr → Bool}
theorem Ay {dp : Nat} {v : PV} {args : List PV} {σ : za} {C : PV → za → RT} (h : TI (callN P w K base dp v args σ C)) : yr P w K base dp v args σ (fun v σ => TI (C v σ)) := (Cw h).elim fun _ c => c.1 _ c.2
theorem Xb {e : Expr} {ρ : zc} {σ : za} {C : PV → za → RT} (h : TI (exN P w K base f e ρ σ C)) : y4 P w K base f e ρ σ (fun v σ => TI (C v σ)) := (Cw h).elim fun _ c => (c.1 (fun v σ => TI (C v σ)) c.2).out
theorem BC {t : Expr} {src : Src} {i : Nat} {b o : List Stmt} {ρ : zc} {σ : za} {C : Fl → zc → za → RT} (h : TI (forN P w K base f t src i b o ρ σ C)) : yJ P w K base f t src i b o ρ σ (fun fl ρ σ => TI (C fl ρ σ)) := (Cw h).elim fun _ c => c.1 _ c.2
theorem Aq {e t : Expr} {is : List Expr} {src : Src} {i l : Nat} {ρ : zc} {σ : za} {C : za → RT} (h : TI (compN P w K base f e t is src i l ρ σ C)) : j8 P w K base f e t is src i l ρ σ (fun σ => TI (C σ)) := (Cw h).elim fun _ c => c.1 _ c.2
theorem xP (ok : WOk w K base kf W) (n : Nat) : SoundK P w K base anT (evT P w K base W stp n) := by
 induction n with
 | zero =>
  exact ⟨⟨⟨⟨fun _ _ _ _ _ c => y8 c, fun _ _ _ _ _ c => y8 c, fun _ _ _ _ _ c => y8 c, fun _ _ _ _ _ c => y8 c, fun _ _ _ _ _ c => y8 c⟩, fun _ _ _ _ _ _ _ c => y8 c⟩, fun _ _ _ _ _ _ _ _ _ c => y8 c⟩, fun _ _ _ _ _ _ _ _ _ _ c => y8 c⟩
 | succ k hs =>
  refine ⟨⟨⟨⟨fun f e ρ σ C c => ?_, fun f es ρ σ C c ns => x7 anT hs.toSound c ns, fun f e ρ σ C c => xW anT hs.toSound ok c, fun f ss ρ σ C c => xo anT hs ok c, fun dp v args σ C c => ?_⟩,
   fun f t b o ρ σ C c => y8 c⟩, fun f target src i b o ρ σ C c => BC c⟩, fun f elt target ifs src i l ρ σ C c => Aq c⟩
  ·show y4 P w K base f e ρ σ (fun v σ => TI (C v σ))
   change TI (match stp e with | true => exN P w K base f e ρ σ C | false => xO anT W (evT P w K base W stp k) f e ρ σ C) at c
   split at c
   ·exact Xb c
   ·exact jE anT hs ok c
  ·cases v with
   | con a => exact Ay c
   | _ => exact jp anT hs.toSound ok c
theorem yr.mono {dp : Nat} {v : PV} {args : List PV} {σ : za} {C C' : KD} (h : yr P w K base dp v args σ C) (hc : ∀ v σ, C v σ → C' v σ) : yr P w K base dp v args σ C' :=
 fun A s Z μ va as Q am S ra ras H => h A s Z μ va as Q am S ra ras fun v σ' s' Z' μ' a c => H v σ' s' Z' μ' a (hc _ _ c)
theorem y4.mono {e : Expr} {ρ : zc} {σ : za} {C C' : KD} (h : y4 P w K base f e ρ σ C) (hc : ∀ v σ, C v σ → C' v σ) : y4 P w K base f e ρ σ C' :=
 fun A env s Z μ Q am ek S L H => h A env s Z μ Q am ek S L fun v σ' s' Z' μ' a c => H v σ' s' Z' μ' a (hc _ _ c)
theorem goE (ok : WOk w K base kf W) (N : Nat) (stp : Expr → Bool) {e : Expr} {ρ : zc} {σ : za} {C : KD} (h : TI (xO anT W (evT P w K base W stp N) f e ρ σ fun v σ => jn (C v σ))) : BxE P w K base f e ρ σ C := ⟨(jE anT (xP ok N) ok h).mono fun _ _ c => jF c⟩
theorem goC (ok : WOk w K base kf W) (N : Nat) (stp : Expr → Bool) {dp : Nat} {v : PV} {args : List PV} {σ : za} {C : KD} (h : TI (xE anT W (evT P w K base W stp N) dp v args σ fun v σ => jn (C v σ))) : yr P w K base dp v args σ C := (jp anT (xP ok N).toSound ok h).mono fun _ _ c => jF c
theorem jr.go {dp : Nat} {v r : PV} {args : List PV} (h : jr P w K base dp v args r) {σ : za} {C : KD} (c : C r σ) : yr P w K base dp v args σ C := (h σ).mono fun u σ' e => by rw [e.1, e.2]; exact c
theorem jr.goM {d dp : Nat} {v r : PV} {args : List PV} (h : jr P w K base d v args r) (hd : d ≤ dp) {σ : za} {C : KD} (c : C r σ) : yr P w K base dp v args σ C := (h.more hd).go c
theorem Cj {dp : Nat} {v r : PV} {args : List PV} (h : ∀ (σ : za) (D : KD), D r σ → yr P w K base dp v args σ D) : jr P w K base dp v args r := fun σ => h σ _ ⟨rfl, rfl⟩
/-! loops by their invariants -/
def qz (N : zc → za → Prop) (C : KF) : KF
 | .next, ρ, σ => N ρ σ
 | .cont, ρ, σ => N ρ σ
 | .brk, ρ, σ => C .next ρ σ
 | .ret v, ρ, σ => C (.ret v) ρ σ
theorem FX (ok : WOk w K base kf W) {X : yg RT → RT} (hs : Sound P w K base anT X) {target : Expr} {src : Src} {b o : List Stmt} {C : KF} (I : Nat → zc → za → Prop) (n : Nat) (bd : ∀ i ρ σ, I i ρ σ → i ≤ n)
  (step : ∀ i ρ σ, I i ρ σ → ∃ x, yU σ src i = some x ∧ (x = none → TI (X (.sts f o ρ σ fun fl ρ σ => jn (C fl ρ σ)))) ∧ ∀ v, x = some v → Yk src target = true ∧ TI (asg anT W (fun e ρ σ C => X (.ex f e ρ σ C)) f 2 target v ρ σ fun ρ1 σ1 => X (.sts f b ρ1 σ1 fun fl ρ2 σ2 => jn (qz (I (i + 1)) C fl ρ2 σ2))))
  {i : Nat} {ρ : zc} {σ : za} (h : I i ρ σ) : yJ P w K base f target src i b o ρ σ C := by
 intro A env s0 s Z0 Z μ0 μ Q it own am ek S L O It fr X0 H
 have turn : ∀ k s, FI w K base src it own env Z0 μ0 s0 (fun k i ρ σ => k = n - i ∧ I i ρ σ) k s → wpAny (model P w) A (pyNext (.ref it)) (FoQ P w A env target it b o (FI w K base src it own env Z0 μ0 s0 (fun k i ρ σ => k = n - i ∧ I i ρ σ)) Q k) NoE s := by
  intro k s hI
  refine hI.elim fun i ρ σ Z μ c S L O It X => ?_
  obtain ⟨hk, c⟩ := c
  obtain ⟨x, e, c0, c1⟩ := step i ρ σ c
  exact Ad (k' := fun ρ σ => jn (I (i + 1) ρ σ)) (C' := fun fl ρ σ => jn (C fl ρ σ)) anT ok hs am ek fr e c0 c1 (fun fl _ _ c => by rcases fl <;> exact c) (fun v ρ' σ' s' Z' μ' a c => H v ρ' σ' s' Z' μ' a (jF c)) (fun v ρ' σ' s' Z' μ' a c => H v ρ' σ' s' Z' μ' a (jF c))
   (fun ρ σ c => ⟨n - (i + 1), by rw [hk]; exact Nat.sub_lt_sub_left (bd _ _ _ (jF c)) (Nat.lt_succ_self i), rfl, jF c⟩) S L O It X
 exact forC (R := Q) _ turn (n - i) ⟨i, ρ, σ, Z, μ, ⟨rfl, h⟩, S, L, O, It, X0⟩
theorem jQ (ok : WOk w K base kf W) {X : yg RT → RT} (hs : Sound P w K base anT X) {target : Expr} {src : Src} {b o : List Stmt} {C : KF} (vs : List PV) (I : Nat → zc → za → Prop)
  (hit : ∀ i ρ σ, i ≤ vs.length → I i ρ σ → yU σ src i = some vs[i]?) (ht : Yk src target = true)
  (step : ∀ i v ρ σ, vs[i]? = some v → I i ρ σ → TI (asg anT W (fun e ρ σ C => X (.ex f e ρ σ C)) f 2 target v ρ σ fun ρ1 σ1 => X (.sts f b ρ1 σ1 fun fl ρ2 σ2 => jn (qz (fun ρ σ => i < vs.length ∧ I (i + 1) ρ σ) C fl ρ2 σ2))))
  (fin : ∀ ρ σ, I vs.length ρ σ → TI (X (.sts f o ρ σ fun fl ρ σ => jn (C fl ρ σ)))) {ρ : zc} {σ : za} (h : I 0 ρ σ) : yJ P w K base f target src 0 b o ρ σ C := by
 refine FX ok hs (fun i ρ σ => i ≤ vs.length ∧ I i ρ σ) vs.length (fun i ρ σ h => h.1) (fun i ρ σ h => ⟨vs[i]?, hit i ρ σ h.1 h.2, fun e => ?_, fun v e => ⟨ht, step i v ρ σ e h.2⟩⟩) ⟨Nat.zero_le _, h⟩
 obtain rfl : i = vs.length := Nat.le_antisymm h.1 (List.getElem?_eq_none_iff.mp e)
 exact fin ρ σ h.2
theorem Xj (ok : WOk w K base kf W) {X : yg RT → RT} (hs : Sound P w K base anT X) {elt target : Expr} {ifs : List Expr} {src : Src} {l : Nat} {C : za → Prop} (I : Nat → zc → za → Prop) (n : Nat) (bd : ∀ i ρ σ, I i ρ σ → i ≤ n)
  (step : ∀ i ρ σ, I i ρ σ → ∃ x, yU σ src i = some x ∧ (x = none → C σ) ∧ ∀ v, x = some v → Yk src target = true ∧ TI (FD anT X f target ifs l (exN P w K base f elt) (fun ρ σ => jn (I (i + 1) ρ σ)) v ρ σ))
  {i : Nat} {ρ : zc} {σ : za} (h : I i ρ σ) : j8 P w K base f elt target ifs src i l ρ σ C := by
 intro A env s0 s Z0 Z μ0 μ Q it acc own iter scope pos am ek S L O It fr frl X0 hm H
 have turn : ∀ k s, KI w K base src it acc l own env Z0 μ0 s0 (fun k i ρ σ => k = n - i ∧ I i ρ σ) k s → wpAny (model P w) A (pyNext (.ref it)) (CoQ P w A env elt target ifs it acc (KI w K base src it acc l own env Z0 μ0 s0 (fun k i ρ σ => k = n - i ∧ I i ρ σ)) Q k) NoE s := by
  intro k s hI
  refine hI.elim fun i ρ σ Z μ c S L O It X hm => ?_
  obtain ⟨hk, c⟩ := c
  obtain ⟨x, e, c0, c1⟩ := step i ρ σ c
  exact Xi anT ok.low hs am ek fr frl e c0 c1 (fun ρ σ C c => Xb c) (fun ρ σ c => ⟨n - (i + 1), by rw [hk]; exact Nat.sub_lt_sub_left (bd _ _ _ (jF c)) (Nat.lt_succ_self i), rfl, jF c⟩) H S L O It X hm
 exact compC (R := Q) _ turn (n - i) ⟨i, ρ, σ, Z, μ, ⟨rfl, h⟩, S, L, O, It, X0, hm⟩
theorem put_put (ρ : zc) (x : Str) (a b : PV) : put (put ρ x a) x b = put ρ x b := by
 induction ρ with
 | nil => show (match sq x x with | true => _ | false => _) = _; rw [yR.mpr rfl]; rfl
 | cons p r ih =>
  obtain ⟨y, u⟩ := p
  show put (match sq y x with | true => _ | false => _) x b = (match sq y x with | true => _ | false => _)
  cases h : sq y x with
  | true => show (match sq y x with | true => _ | false => _) = _; rw [h]
  | false => show (match sq y x with | true => _ | false => _) = _; rw [h]; exact congrArg _ ih
theorem yV (ok : WOk w K base kf W) {X : yg RT → RT} (hs : Sound P w K base anT X) {elt : Expr} {x : Str} {px : Pos} {src : Src} {C : za → Prop} {ρ : zc} {σ : za} (vs : List PV) (g : PV → PV) (hx : Jk f x = true) (hsrc : ∀ v, src ≠ .enm v)
  (hit : ∀ i acc, yU (σ ++ [.list acc]) src i = some vs[i]?) (hn : vs.length ≤ 1000000)
  (step : ∀ v, v ∈ vs → ∀ acc (D : KD), D (g v) (σ ++ [.list acc]) → BxE P w K base f elt (put ρ x v) (σ ++ [.list acc]) D)
  (fin : C (σ ++ [.list (vs.map g)])) : j8 P w K base f elt (.Name x px) [] src 0 σ.length ρ (σ ++ [.list []]) C := by
 refine Xj ok hs (fun i ρ' σ' => i ≤ vs.length ∧ (ρ' = ρ ∨ ∃ v, ρ' = put ρ x v) ∧ σ' = σ ++ [.list ((vs.take i).map g)]) vs.length (fun _ _ _ h => h.1) (fun i ρ' σ' h => ?_) ⟨Nat.zero_le _, .inl rfl, rfl⟩
 obtain ⟨hi, hρ, rfl⟩ := h
 refine ⟨vs[i]?, hit i _, fun e => ?_, fun v e => ?_⟩
 ·rw [List.take_of_length_le (List.getElem?_eq_none_iff.mp e)]
  exact fin
 ·have hp : put ρ' x v = put ρ x v := by
   rcases hρ with rfl | ⟨u, rfl⟩
   ·rfl
   ·exact put_put ..
  have hlt : i < vs.length := (List.getElem?_eq_some_iff.mp e).1
  refine ⟨by cases src <;> first | rfl | exact absurd rfl (hsrc _), (zk anT (b := Jk f x)).mpr ⟨hx, ?_⟩⟩
  rw [hp]
  have e1 : (σ ++ [zU.list (List.map g (List.take i vs))])[σ.length]? = some (.list ((vs.take i).map g)) := by rw [List.getElem?_append_right (Nat.le_refl _), Nat.sub_self]; rfl
  have hh : TI (jT anT (σ ++ [zU.list (List.map g (List.take i vs))]) .lAppend [.loc σ.length, g v] fun _ σ3 => jn (i + 1 ≤ vs.length ∧ (put ρ x v = ρ ∨ ∃ u, put ρ x v = put ρ x u) ∧ σ3 = σ ++ [.list ((vs.take (i + 1)).map g)])) := by
   show TI (zr _ ((σ ++ [zU.list (List.map g (List.take i vs))])[σ.length]?.bind Ji) _)
   rw [e1]
   refine (zk anT).mpr ⟨Nat.ble_eq.mpr ?_, embT_mk ⟨hlt, .inr ⟨v, rfl⟩, ?_⟩⟩
   ·rw [List.length_map, List.length_take]
    exact Nat.le_trans (Nat.min_le_right ..) hn
   ·rw [List.set_append_right _ _ (Nat.le_refl _), Nat.sub_self, List.set_cons_zero]
    rw [List.getElem?_eq_getElem hlt] at e
    rw [List.take_succ_eq_append_getElem hlt, Option.some.inj e, List.map_append]; rfl
  obtain ⟨s, h1, h2⟩ := hh
  exact ⟨.res (g v) (σ ++ [.list ((vs.take i).map g)]) :: s, rfl, step v (List.mem_of_getElem? e) ((vs.take i).map g), h1, h2⟩
end
end
section
section
variable (σ : za) (n : Nat)
mutual
inductive FzV : PV → PV → Prop
 | none : FzV .none .none
 | bool {b} : FzV (.bool b) (.bool b)
 | int {i} : FzV (.int i) (.int i)
 | str {x} : FzV (.str x) (.str x)
 | bytes {b} : FzV (.bytes b) (.bytes b)
 | con {v} : FzV (.con v) (.con v)
 | bi {k} : FzV (.bi k) (.bi k)
 | tup {vs ws} : yk vs ws → FzV (.tup vs) (.tup ws)
 | list {vs ws} : yk vs ws → FzV (.list vs) (.list ws)
 | dict {es ws} : FzEs es ws → FzV (.dict es) (.dict ws)
 | inst {c fs ws} : j9 fs ws → FzV (.inst c fs) (.inst c ws)
 | loc {l} : l < n → FzV (.loc l) (.loc l)
 | locList {l vs ws} : n ≤ l → σ[l]? = some (.list vs) → yk vs ws → FzV (.loc l) (.list ws)
 | locDict {l es ws} : n ≤ l → σ[l]? = some (.dict es) → FzEs es ws → FzV (.loc l) (.dict ws)
 | locInst {l c d fs ws} : n ≤ l → σ[l]? = some (.inst c d) → n ≤ d → σ[d]? = some (.fields fs) → j9 fs ws → FzV (.loc l) (.inst c ws)
inductive yk : List PV → List PV → Prop
 | nil : yk [] []
 | cons {v vs u us} : FzV v u → yk vs us → yk (v :: vs) (u :: us)
inductive FzEs : List (PV × PV) → List (PV × PV) → Prop
 | nil : FzEs [] []
 | cons {k v vs u us} : FzV v u → FzEs vs us → FzEs ((k, v) :: vs) ((k, u) :: us)
inductive j9 : List (Str × PV) → List (Str × PV) → Prop
 | nil : j9 [] []
 | cons {k v vs u us} : FzV v u → j9 vs us → j9 ((k, v) :: vs) ((k, u) :: us)
end
theorem yk.of {vs : List PV} (h : ∀ v ∈ vs, FzV σ n v v) : yk σ n vs vs := by
 induction vs with
 | nil => exact .nil
 | cons v vs ih => exact .cons (h v (.head _)) (ih fun u m => h u (.tail _ m))
theorem DJ {vs : List PV} (h : zx vs = true) : ∀ v ∈ vs, zD v = true := by
 induction vs with
 | nil => exact fun _ m => nomatch m
 | cons v vs ih => exact List.forall_mem_cons.mpr ⟨(zI h).1, ih (zI h).2⟩
theorem FzV.same {v : PV} : zD v = true → FzV σ n v v :=
 PV.rec (motive_1 := fun v => zD v = true → FzV σ n v v) (motive_2 := fun v => zx v = true → yk σ n v v) (motive_3 := fun v => q6 v = true → FzEs σ n v v) (motive_4 := fun v => xw v = true → j9 σ n v v) (motive_5 := fun p => zD p.2 = true → FzV σ n p.2 p.2) (motive_6 := fun p => zD p.2 = true → FzV σ n p.2 p.2)
  (fun _ => .none) (fun _ _ => .bool) (fun _ _ => .int) (fun _ _ => .str) (fun _ _ => .bytes) (fun _ ih h => .tup (ih h)) (fun _ ih h => .list (ih h)) (fun _ ih h => .dict (ih h)) (fun _ _ ih h => .inst (ih h)) (fun _ _ => .con) (fun _ _ => .bi) (fun _ h => nomatch h)
  (fun _ => .nil) (fun _ _ i j h => .cons (i (zI h).1) (j (zI h).2)) (fun _ => .nil) (fun _ _ i j h => .cons (i (zI h).1) (j (zI h).2)) (fun _ => .nil) (fun _ _ i j h => .cons (i (zI h).1) (j (zI h).2)) (fun _ _ _ i h => i h) (fun _ _ i h => i h) v
theorem j9.same {v : List (Str × PV)} (h : xw v = true) : j9 σ n v v := by
 induction v with
 | nil => exact .nil
 | cons p v ih => exact .cons (FzV.same σ n (zI h).1) (ih (zI h).2)
theorem yk.same {v : List PV} (h : zx v = true) : yk σ n v v := yk.of σ n fun u m => FzV.same σ n (DJ h u m)
def FzC : zU → Prop
 | .list vs => yk σ n vs vs
 | .dict es => FzEs σ n es es
 | .inst _ d => d < n
 | .fields fs => j9 σ n fs fs
 | .barr _ => True
end
section
variable {P : Program} {w : World} {K : Heap} {base : AP} {Z Z' : AP} {μ : LA} {h : Heap} {σ : za} {n : Nat}
theorem FzV.rv (hc : ∀ (l : Nat) (c : zU) (a : Addr), σ[l]? = some c → μ[l]? = some a → yG w Z μ h c a) (hz : ∀ a, Z a → Z' a) (hm : ∀ (l : Nat) (a : Addr), n ≤ l → μ[l]? = some a → Z' a) {v u : PV} {a : Value} (f : FzV σ n v u) : RV w Z μ h v a → RV w Z' (μ.take n) h u a := by
 refine FzV.rec (motive_1 := fun v u _ => ∀ a, RV w Z μ h v a → RV w Z' (μ.take n) h u a) (motive_2 := fun v u _ => ∀ a, RVs w Z μ h v a → RVs w Z' (μ.take n) h u a)
  (motive_3 := fun v u _ => ∀ a, REs w Z μ h v a → REs w Z' (μ.take n) h u a) (motive_4 := fun v u _ => ∀ a, RFs w Z μ h v a → RFs w Z' (μ.take n) h u a) ?_ ?_ ?_ ?_ ?_ ?_ ?_ ?_ ?_ ?_ ?_ ?_ ?_ ?_ ?_ ?_ ?_ ?_ ?_ ?_ ?_ f a
 ·intro a r; cases r.inv; exact .none
 ·intro _ a r; cases r.inv; exact .bool
 ·intro _ a r; obtain ⟨_, rfl⟩ := r.inv; exact .int
 ·intro _ a r; obtain ⟨_, rfl⟩ := r.inv; exact .str
 ·intro _ a r; obtain ⟨_, rfl⟩ := r.inv; exact .bytes
 ·intro _ a r; cases r.inv; exact .con
 ·intro _ a r; cases r.inv; exact .bi
 ·intro _ _ _ ih a r; obtain ⟨_, _, _, z, e, q, rfl⟩ := r.inv; exact .tup (hz _ z) e (ih _ q)
 ·intro _ _ _ ih a r; obtain ⟨_, _, _, z, e, q, rfl⟩ := r.inv; exact .list (hz _ z) e (ih _ q)
 ·intro _ _ _ ih a r; obtain ⟨_, _, _, z, e, q, rfl⟩ := r.inv; exact .dict (hz _ z) e (ih _ q)
 ·intro _ _ _ _ ih a r; obtain ⟨_, _, _, _, z, y, e, g, q, rfl⟩ := r.inv; exact .inst (hz _ z) (hz _ y) e g (ih _ q)
 ·intro _ hl a r; obtain ⟨_, e, rfl⟩ := r.inv; exact .loc (by rw [List.getElem?_take, if_pos hl]; exact e)
 ·intro _ _ _ hl e _ ih a r
  obtain ⟨_, em, rfl⟩ := r.inv
  obtain ⟨_, _, g, q⟩ := (hc _ _ _ e em).inv
  exact .list (hm _ _ hl em) g (ih _ q)
 ·intro _ _ _ hl e _ ih a r
  obtain ⟨_, em, rfl⟩ := r.inv
  obtain ⟨_, _, g, q⟩ := (hc _ _ _ e em).inv
  exact .dict (hm _ _ hl em) g (ih _ q)
 ·intro _ _ _ _ _ hl e hd e' _ ih a r
  obtain ⟨_, em, rfl⟩ := r.inv
  obtain ⟨_, g, gm⟩ := (hc _ _ _ e em).inv
  obtain ⟨_, _, gd, q⟩ := (hc _ _ _ e' gm).inv
  exact .inst (hm _ _ hl em) (hm _ _ hd gm) g gd (ih _ q)
 ·intro a r; rw [show a = [] from r.inv]; exact .nil
 ·intro _ _ _ _ _ _ ih ihs a r; obtain ⟨a, as, x, q, rfl⟩ := r.inv; exact .cons (ih _ x) (ihs _ q)
 ·intro a r; rw [show a = [] from r.inv]; exact .nil
 ·intro _ _ _ _ _ _ _ ih ihs a r; obtain ⟨a, as, k, x, q, rfl⟩ := r.inv; exact .cons k (ih _ x) (ihs _ q)
 ·intro a r; rw [show a = [] from r.inv]; exact .nil
 ·intro _ _ _ _ _ _ _ ih ihs a r; obtain ⟨a, as, k, x, q, rfl⟩ := r.inv; exact .cons k (ih _ x) (ihs _ q)
theorem yk.inv {v u : List PV} (f : yk σ n v u) : match v with | [] => u = [] | x :: v => ∃ y us, FzV σ n x y ∧ yk σ n v us ∧ u = y :: us := by
 cases f with | nil => rfl | cons f fs => exact ⟨_, _, f, fs, rfl⟩
theorem FzEs.inv {v u : List (PV × PV)} (f : FzEs σ n v u) : match v with | [] => u = [] | x :: v => ∃ y us, FzV σ n x.2 y ∧ FzEs σ n v us ∧ u = (x.1, y) :: us := by
 cases f with | nil => rfl | cons f fs => exact ⟨_, _, f, fs, rfl⟩
theorem j9.inv {v u : List (Str × PV)} (f : j9 σ n v u) : match v with | [] => u = [] | x :: v => ∃ y us, FzV σ n x.2 y ∧ j9 σ n v us ∧ u = (x.1, y) :: us := by
 cases f with | nil => rfl | cons f fs => exact ⟨_, _, f, fs, rfl⟩
section
variable (hc : ∀ (l : Nat) (c : zU) (a : Addr), σ[l]? = some c → μ[l]? = some a → yG w Z μ h c a) (hz : ∀ a, Z a → Z' a) (hm : ∀ (l : Nat) (a : Addr), n ≤ l → μ[l]? = some a → Z' a)
include hc hz hm
theorem yk.rv {v u : List PV} {a : List Value} (f : yk σ n v u) (r : RVs w Z μ h v a) : RVs w Z' (μ.take n) h u a := by
 induction v generalizing u a with
 | nil => rw [show a = [] from r.inv, show u = [] from f.inv]; exact .nil
 | cons x v ih => obtain ⟨y, us, g, fs, rfl⟩ := f.inv; obtain ⟨a, as, x, q, rfl⟩ := r.inv; exact .cons (FzV.rv hc hz hm g x) (ih fs q)
theorem FzEs.rv {v u : List (PV × PV)} {a : List DictEntry} (f : FzEs σ n v u) (r : REs w Z μ h v a) : REs w Z' (μ.take n) h u a := by
 induction v generalizing u a with
 | nil => rw [show a = [] from r.inv, show u = [] from f.inv]; exact .nil
 | cons x v ih => obtain ⟨y, us, g, fs, rfl⟩ := f.inv; obtain ⟨a, as, k, x, q, rfl⟩ := r.inv; exact .cons k (FzV.rv hc hz hm g x) (ih fs q)
theorem j9.rv {v u : List (Str × PV)} {a : List DictEntry} (f : j9 σ n v u) (r : RFs w Z μ h v a) : RFs w Z' (μ.take n) h u a := by
 induction v generalizing u a with
 | nil => rw [show a = [] from r.inv, show u = [] from f.inv]; exact .nil
 | cons x v ih => obtain ⟨y, us, g, fs, rfl⟩ := f.inv; obtain ⟨a, as, k, x, q, rfl⟩ := r.inv; exact .cons k (FzV.rv hc hz hm g x) (ih fs q)
theorem FzC.cell {c : zU} {a : Addr} (f : FzC σ n c) (r : yG w Z μ h c a) : yG w Z' (μ.take n) h c a := by
 induction r with
 | list e q => exact .list e (yk.rv hc hz hm f q)
 | dict e q => exact .dict e (FzEs.rv hc hz hm f q)
 | inst e g => exact .inst e (by rw [List.getElem?_take, if_pos (show _ < n from f)]; exact g)
 | fields e q => exact .fields e (j9.rv hc hz hm f q)
 | barr e => exact .barr e
end
theorem RV.old {v a} (r : RV w Z μ h v a) : FzV σ μ.length v v :=
 RV.rec (motive_1 := fun v _ _ => FzV σ μ.length v v) (motive_2 := fun v _ _ => yk σ μ.length v v) (motive_3 := fun v _ _ => FzEs σ μ.length v v) (motive_4 := fun v _ _ => j9 σ μ.length v v)
  .none .bool .int .str .bytes (fun _ _ _ ih => .tup ih) (fun _ _ _ ih => .list ih) (fun _ _ _ ih => .dict ih) (fun _ _ _ _ _ ih => .inst ih) .con .bi (fun e => .loc (List.getElem?_eq_some_iff.mp e).1)
  .nil (fun _ _ i j => .cons i j) .nil (fun _ _ _ i j => .cons i j) .nil (fun _ _ _ i j => .cons i j) r
theorem RVs.old {v a} (r : RVs w Z μ h v a) : yk σ μ.length v v := by
 induction v generalizing a with
 | nil => exact .nil
 | cons v vs ih => obtain ⟨a, as, x, q, rfl⟩ := r.inv; exact .cons (RV.old x) (ih q)
theorem REs.old {v a} (r : REs w Z μ h v a) : FzEs σ μ.length v v := by
 induction v generalizing a with
 | nil => exact .nil
 | cons v vs ih => obtain ⟨a, as, k, x, q, rfl⟩ := r.inv; exact .cons (RV.old x) (ih q)
theorem RFs.old {v a} (r : RFs w Z μ h v a) : j9 σ μ.length v v := by
 induction v generalizing a with
 | nil => exact .nil
 | cons v vs ih => obtain ⟨a, as, k, x, q, rfl⟩ := r.inv; exact .cons (RV.old x) (ih q)
theorem yG.old {c : zU} {a : Addr} (r : yG w Z μ h c a) : FzC σ μ.length c := by
 induction r with
 | list e q => exact RVs.old q
 | dict e q => exact REs.old q
 | inst e g => exact (List.getElem?_eq_some_iff.mp g).1
 | fields e q => exact RFs.old q
 | barr e => exact True.intro
theorem FzV.free {v u : PV} (f : FzV σ 0 v u) : zD u = true :=
 FzV.rec (n := 0) (motive_1 := fun _ u _ => zD u = true) (motive_2 := fun _ u _ => zx u = true) (motive_3 := fun _ u _ => q6 u = true) (motive_4 := fun _ u _ => xw u = true)
  rfl rfl rfl rfl rfl rfl rfl (fun _ ih => ih) (fun _ ih => ih) (fun _ ih => ih) (fun _ ih => ih) (fun h => absurd h (Nat.not_lt_zero _)) (fun _ _ _ ih => ih) (fun _ _ _ ih => ih) (fun _ _ _ _ _ ih => ih)
  rfl (fun _ _ i j => (Bool.and_eq_true _ _).mpr ⟨i, j⟩) rfl (fun _ _ i j => (Bool.and_eq_true _ _).mpr ⟨i, j⟩) rfl (fun _ _ i j => (Bool.and_eq_true _ _).mpr ⟨i, j⟩) f
end
noncomputable def fzL (g : PV → Option PV) : List PV → Option (List PV)
 | [] => some []
 | v :: r => (g v).bind fun a => (fzL g r).bind fun b => some (a :: b)
noncomputable def fzE (g : PV → Option PV) : List (PV × PV) → Option (List (PV × PV))
 | [] => some []
 | p :: r => (g p.2).bind fun a => (fzE g r).bind fun b => some ((p.1, a) :: b)
noncomputable def fzF (g : PV → Option PV) : List (Str × PV) → Option (List (Str × PV))
 | [] => some []
 | p :: r => (g p.2).bind fun a => (fzF g r).bind fun b => some ((p.1, a) :: b)
def fzS (g : PV → Option PV) (vs : List PV) : Option (List PV) := match zx vs with
 | true => some vs
 | false => fzL g vs
def FV (σ : za) (n : Nat) (g : PV → Option PV) (c : zU) : Option PV := match c with
 | .list vs => (fzS g vs).bind fun r => some (.list r)
 | .dict es => (fzE g es).bind fun r => some (.dict r)
 | .inst c d => bOf (Nat.ble n d) (σ[d]?.bind fun x => (match x with
  | .fields fs => (fzF g fs).bind fun r => some (.inst c r)
  | _ => none))
 | _ => none
def FU (σ : za) (n : Nat) (g : PV → Option PV) (l : Nat) : Option PV := match Nat.blt l n with
 | true => some (.loc l)
 | false => σ[l]?.bind (FV σ n g)
def FR (σ : za) (n : Nat) (g : PV → Option PV) (v : PV) : Option PV := match v with
 | .tup vs => (fzL g vs).bind fun r => some (.tup r)
 | .list vs => (fzL g vs).bind fun r => some (.list r)
 | .loc l => FU σ n g l
 | _ => none
def fzG (σ : za) (n : Nat) : Nat → PV → Option PV
 | 0, _ => none
 | k + 1, v => match zD v with
  | true => some v
  | false => FR σ n (fzG σ n k) v
section
variable {σ : za} {n : Nat} {g : PV → Option PV}
theorem Bz (hg : ∀ v r, g v = some r → FzV σ n v r) {vs ws : List PV} (e : fzL g vs = some ws) : yk σ n vs ws := by
 induction vs generalizing ws with
 | nil => rw [← Option.some.inj e]; exact .nil
 | cons v r ih => obtain ⟨a, h1, e⟩ := zp e; obtain ⟨b, h2, rfl⟩ := zL e; exact .cons (hg _ _ h1) (ih h2)
theorem fzE_fz (hg : ∀ v r, g v = some r → FzV σ n v r) {vs ws : List (PV × PV)} (e : fzE g vs = some ws) : FzEs σ n vs ws := by
 induction vs generalizing ws with
 | nil => rw [← Option.some.inj e]; exact .nil
 | cons v r ih => obtain ⟨a, h1, e⟩ := zp e; obtain ⟨b, h2, rfl⟩ := zL e; exact .cons (hg _ _ h1) (ih h2)
theorem fzF_fz (hg : ∀ v r, g v = some r → FzV σ n v r) {vs ws : List (Str × PV)} (e : fzF g vs = some ws) : j9 σ n vs ws := by
 induction vs generalizing ws with
 | nil => rw [← Option.some.inj e]; exact .nil
 | cons v r ih => obtain ⟨a, h1, e⟩ := zp e; obtain ⟨b, h2, rfl⟩ := zL e; exact .cons (hg _ _ h1) (ih h2)
theorem fzS_fz (hg : ∀ v r, g v = some r → FzV σ n v r) {vs ws : List PV} (e : fzS g vs = some ws) : yk σ n vs ws := by
 cases h : zx vs with
 | true => rw [fzS, h] at e; rw [← Option.some.inj e]; exact yk.same _ _ h
 | false => rw [fzS, h] at e; exact Bz hg e
theorem D4 (hg : ∀ v r, g v = some r → FzV σ n v r) {l : Nat} {c : zU} {r : PV} (hl : n ≤ l) (hs : σ[l]? = some c) (e : FV σ n g c = some r) : FzV σ n (.loc l) r := by
 cases c with
 | list vs => obtain ⟨q, h, rfl⟩ := zL e; exact .locList hl hs (fzS_fz hg h)
 | dict es => obtain ⟨q, h, rfl⟩ := zL e; exact .locDict hl hs (fzE_fz hg h)
 | inst c d =>
  obtain ⟨hd, e⟩ := zQ e
  obtain ⟨x, h, e⟩ := zp e
  rcases x <;> first | cases e; done | skip
  obtain ⟨q, h2, rfl⟩ := zL e
  exact .locInst hl hs (Nat.le_of_ble_eq_true hd) h (fzF_fz hg h2)
 | _ => cases e
theorem FT (hg : ∀ v r, g v = some r → FzV σ n v r) {l : Nat} {r : PV} (e : FU σ n g l = some r) : FzV σ n (.loc l) r := by
 unfold FU at e
 cases h : Nat.blt l n with
 | true => rw [h] at e; rw [← Option.some.inj e]; exact .loc (Nat.blt_eq.mp h)
 | false =>
  rw [h] at e
  obtain ⟨c, h1, e⟩ := zp e
  exact D4 hg (Nat.le_of_not_lt fun q => nomatch (Nat.blt_eq.mpr q).symm.trans h) h1 e
theorem BB (k : Nat) (v r : PV) (e : fzG σ n k v = some r) : FzV σ n v r := by
 induction k generalizing v r with
 | zero => cases e
 | succ k ih =>
  change (match zD v with | true => some v | false => FR σ n (fzG σ n k) v) = some r at e
  cases h : zD v with
  | true => rw [h] at e; rw [← Option.some.inj e]; exact FzV.same _ _ h
  | false =>
   rw [h] at e
   clear h
   rcases v <;> first | cases e; done | skip
   ·obtain ⟨q, h, rfl⟩ := zL e; exact .tup (Bz ih h)
   ·obtain ⟨q, h, rfl⟩ := zL e; exact .list (Bz ih h)
   ·exact FT ih e
end
section
variable {P : Program} {w : World} {K : Heap} {base : AP} {f : Fr0}
def je (σ σ1 : za) (u : PV) (σ' : za) (r : PV) : Prop := σ1.length = σ.length ∧ (∀ (l : Nat) (c : zU), σ1[l]? = some c → σ'[l]? = some c ∧ (σ[l]? = some c ∨ FzC σ' σ.length c)) ∧ σ.length ≤ σ'.length ∧ FzV σ' σ.length u r
theorem Au {σ σ1 σ' : za} {u r : PV} {s s' : Shared} {Z Z' : AP} {μ μ' : LA} {a : Value} (S : St w K base Z μ σ s) (S' : St w K base Z' μ' σ' s') (X : Ext NoW Z μ s Z' μ' s') (r' : RV w Z' μ' s'.heap u a) (cl : je σ σ1 u σ' r) :
  St w K base (fun b => Z' b ∨ (b ∈ μ' ∧ b ∉ μ)) μ σ1 s' ∧ Ext NoW Z μ s (fun b => Z' b ∨ (b ∈ μ' ∧ b ∉ μ)) μ s' ∧ RV w (fun b => Z' b ∨ (b ∈ μ' ∧ b ∉ μ)) μ s'.heap r a := by
 obtain ⟨hl, hc, hle, hf⟩ := cl
 have hlen : μ.length = σ.length := S.len
 have hlen' : μ'.length = σ'.length := S'.len
 have htake : μ'.take σ.length = μ := by
  refine List.ext_getElem? fun i => ?_
  rw [List.getElem?_take]
  split
  ·rename_i hi
   have : i < μ.length := hlen ▸ hi
   rw [List.getElem?_eq_getElem this]
   exact X.pre _ _ (List.getElem?_eq_getElem this)
  ·rename_i hi
   rw [List.getElem?_eq_none (hlen ▸ Nat.le_of_not_lt hi)]
 have hm : ∀ (l : Nat) (b : Addr), σ.length ≤ l → μ'[l]? = some b → Z' b ∨ (b ∈ μ' ∧ b ∉ μ) := fun l b hl e => by
  refine .inr ⟨List.mem_of_getElem? e, fun q => ?_⟩
  obtain ⟨j, hj⟩ := List.mem_iff_getElem?.mp q
  have hj' := X.pre _ _ hj
  have hjl : j < μ.length := (List.getElem?_eq_some_iff.mp hj).1
  have := (List.getElem?_inj (show j < μ'.length from hlen' ▸ Nat.lt_of_lt_of_le (hlen ▸ hjl) hle) S'.nd).mp (hj'.trans e.symm)
  exact Nat.lt_irrefl _ (Nat.lt_of_lt_of_le (hlen ▸ hjl) (this ▸ hl))
 have fresh : ∀ b, b ∈ μ' → b ∉ μ → s.heap.get? b = none := fun b q n => (X.newM b q).elim (fun q => absurd q n) id
 refine ⟨⟨S'.kin, S'.lim, S'.big, fun b q => ⟨?_, ?_⟩, S.len.trans hl.symm, S.nd, S.low, fun l c b e1 e2 => ?_, S'.stat, S'.smod, fun b q => ?_, fun b o e n => .inl (S'.kz b o e n)⟩, ⟨fun _ _ e => e, fun b z => .inl (X.sub b z), fun b q => ?_, fun b q => .inl q, X.pres, X.has, X.gens, X.os⟩, ?_⟩
 ·rcases q with q | q
  ·exact (S'.zok b q).1
  ·exact S'.hasM q.1
 ·rcases q with q | q
  ·intro m
   rcases List.mem_iff_getElem?.mp m with ⟨j, hj⟩
   exact (S'.zok b q).2 (List.mem_of_getElem? (X.pre _ _ hj))
  ·exact q.2
 ·obtain ⟨e', hh⟩ := hc l c e1
  have r1 := S'.cells l c b e' (X.pre _ _ e2)
  have ff : FzC σ' σ.length c := by
   rcases hh with hh | hh
   ·have := yG.old (σ := σ') (S.cells l c b hh e2)
    rwa [hlen] at this
   ·exact hh
  have := ff.cell (Z' := fun b => Z' b ∨ (b ∈ μ' ∧ b ∉ μ)) S'.cells (fun _ z => .inl z) hm r1
  rwa [htake] at this
 ·rcases q with q | q
  ·exact S'.nsm b q
  ·rintro rfl
   obtain ⟨o, eo⟩ := S.big _ S.smod
   exact zn eo (fresh _ q.1 q.2)
 ·rcases q with q | q
  ·exact X.newZ b q
  ·exact .inr (fresh b q.1 q.2)
 ·have := hf.rv (Z' := fun b => Z' b ∨ (b ∈ μ' ∧ b ∉ μ)) S'.cells (fun _ z => .inl z) hm r'
  rwa [htake] at this
theorem Qc {dp : Nat} {v : PV} {args : List PV} {σ : za} {C : KD} (h : yr P w K base dp v args σ fun u σ' => ∃ σ1 r, je σ σ1 u σ' r ∧ C r σ1) : yr P w K base dp v args σ C := by
 intro A s Z μ va as Q am S ra ras H
 refine h A s Z μ va as Q am S ra ras fun u σ' s' Z' μ' a e S' X r' => ?_
 obtain ⟨σ1, r, cl, c⟩ := e
 obtain ⟨S2, X2, r2⟩ := Au S S' X r' cl
 exact H _ _ _ _ _ _ c S2 X2 r2
theorem Gm {e : Expr} {ρ : zc} {σ : za} {C : KD} (h : BxE P w K base f e ρ σ fun u σ' => ∃ σ1 r, je σ σ1 u σ' r ∧ C r σ1) : BxE P w K base f e ρ σ C := by
 refine ⟨fun A env s Z μ Q am ek S L H => ?_⟩
 refine h.out A env s Z μ Q am ek S L fun u σ' s' Z' μ' a e S' X r' => ?_
 obtain ⟨σ1, r, cl, c⟩ := e
 obtain ⟨S2, X2, r2⟩ := Au S S' X r' cl
 exact H _ _ _ _ _ _ c S2 X2 r2
theorem je.keep {σ τ : za} {u r : PV} (hf : FzV (σ ++ τ) σ.length u r) : je σ σ u (σ ++ τ) r := ⟨rfl, fun l c e => ⟨by rw [List.getElem?_append_left (List.getElem?_eq_some_iff.mp e).1]; exact e, .inl e⟩, by simp, hf⟩
theorem XF {dp : Nat} {v : PV} {args : List PV} {r : PV} (hv : zD v = true) (ha : zx args = true) (h : yr P w K base dp v args [] fun u σ' => FzV σ' 0 u r) : jr P w K base dp v args r := by
 have h : yr P w K base dp v args [] fun u σ' => u = r ∧ σ' = [] ∧ zD r = true := Qc (h.mono fun u σ' f => ⟨[], r, ⟨rfl, (fun l c e => nomatch e), Nat.zero_le _, f⟩, rfl, rfl, f.free⟩)
 intro σ A s Z μ va as Q am S ra ras H
 have S0 : St w K base Z [] [] s := ⟨S.kin, S.lim, S.big, fun a z => ⟨(S.zok a z).1, fun m => nomatch m⟩, rfl, List.nodup_nil, (fun a q => nomatch q), (fun l c a e => nomatch e), S.stat, S.smod, S.nsm, S.kz⟩
 refine h A s Z [] va as Q am S0 (ra.free (fun _ z => z) (fun _ _ _ e => e) hv) (ras.free (fun _ z => z) (fun _ _ _ e => e) ha) fun u σ' s' Z' μ' a e S' X r' => ?_
 obtain ⟨rfl, rfl, hr⟩ := e
 obtain rfl : μ' = [] := List.eq_nil_of_length_eq_zero S'.len
 have old : ∀ b o, s.heap.get? b = some o → s'.heap.get? b = some o := fun b o e => X.pres b o e (fun m => nomatch m) fun q => q
 exact H u σ s' Z' μ a ⟨rfl, rfl⟩ ⟨S'.kin, S'.lim, S'.big, fun b z => ⟨(S'.zok b z).1, fun m => (X.newZ b z).elim (fun z => (S.zok b z).2 m) fun q => (S.hasM m).elim fun o eo => zn eo q⟩, S.len, S.nd, S.low, fun l c b e1 e2 => (S.cells l c b e1 e2).lift ⟨fun _ _ e => e, X.sub, fun b o z e => old b o e⟩ fun o eo => old b o eo, S.stat, S.smod, S'.nsm, S'.kz⟩
  ⟨fun _ _ e => e, X.sub, X.newZ, fun b q => .inl q, fun b o e _ _ => old b o e, X.has, X.gens, X.os⟩ (r'.free (fun _ z => z) (fun _ _ _ e => e) hr)
end
end
end
end Mine
namespace Mine.Top
noncomputable section
open PySem PySem.W PyProof.Rows
section
/-! the objects that the text's top leaves BP -/
noncomputable abbrev pr : Program := PySem.Challenge.pw_og0289_01
noncomputable def tS (x : String) (t : Nat) : Value := .str (Str.ofString x) t
noncomputable def tR (a : Nat) : Value := .ref a
noncomputable def tI (i : Int) : Value := .int i 0
noncomputable def tT (x : String) : Value := .type x
noncomputable def tes (P : Params) (x : String) (t : Nat) (v : Value) : DictEntry := ⟨PyData.keyHash P (Str.ofString x), .str (Str.ofString x) t, v⟩
noncomputable def teb (P : Params) (b : BA) (t : Nat) (v : Value) : DictEntry := ⟨hashW P (.bytes b.toList), .bytes b t, v⟩
def tbd : List Stmt := pr.main.body
noncomputable def tat (l : List Stmt) (i : Nat) : Stmt := l.getD i (.Pass default)
def tcb (l : List Stmt) (i : Nat) : List Stmt := match tat l i with | .ClassDef _ _ _ b _ _ _ _ _ _ _ => b | _ => []
noncomputable def tmf (st : Stmt) (name qual : Str) (g : Addr) (cl : List (Str × Addr)) (d k doc m : Value) (an : Option Addr) (code ct : Value) (bi : Addr) : FuncData := match st with
 | .FunctionDef _ a b _ _ _ scope _ _ _ => ⟨name, qual, a, .stmts b, scope, g, cl, d, k, doc, m, an, code, ct, bi⟩
 | _ => default
noncomputable def tmc (name : Str) (bases mro : List Value) (ns : Addr) (q : Str) (hd : Bool) (sl : List Str) (sub : List Value) (ab : Bool) (co : Option Bool) (de : Bool) : ClassData := ⟨name, bases, mro, ns, q, hd, sl, sub, ab, co, de⟩
def pa (i : Nat) : Stmt := tat tbd i
def pc (c i : Nat) : Stmt := tat (tcb tbd c) i
def tb (P : Params) (x : String) (t : Nat) : DictEntry := tes P x t (.builtin x)
def tt (P : Params) (x : String) (t : Nat) : DictEntry := tes P x t (.type x)
def tr (P : Params) (x : String) (t a : Nat) : DictEntry := tes P x t (.ref a)
noncomputable def tu (l : List Value) : Obj := ⟨.type "tuple", none, .seq l.toArray 0, #[]⟩
noncomputable def fl (l : List Value) : Obj := ⟨.none, none, .fields l.toArray, #[]⟩
def f0 (s : Stmt) (a b : String) : Obj := ⟨.none, none, .func (tmf s (Str.ofString a) (Str.ofString b) 0 [] .none .none .none .none none .none .none 0), #[]⟩
def fu (s : Stmt) (a b : String) (x : Value) (m : String) (n c : Nat) : Obj := ⟨.type "function", none, .func (tmf s (Str.ofString a) (Str.ofString b) 3 [] x .none .none (tS m n) none (tR c) .none 0), #[]⟩
def co (a b : String) (t l n k x : Nat) (bb : Bool) (y : Nat) (v1 v2 v3 v4 : Value) (z : Nat) : Obj := ⟨.type "code", none, .fields #[tS a t, tS b (t + 1), tS "/claim/cut.py" (t + 2), tI l, tI n, tI 0, tI 0, tI k, tR x, .bool bb, tI 181, tR y, v1, v2, v3, v4, tI z, tI l, tS "/claim/cut.py" (z + 1)], #[]⟩
def c0 (a b : String) (t l n k x : Nat) (bb : Bool) (y z : Nat) : Obj := co a b t l n k x bb y .none .none .none .none z
def c3 (a b : String) (t l n k x : Nat) (bb : Bool) (y p q r z : Nat) : Obj := co a b t l n k x bb y .none (tR p) (tR q) (tR r) z
noncomputable def di (c : Value) (l : List DictEntry) (n : Nat) : Obj := ⟨c, none, .dict l.toArray n, #[]⟩
noncomputable def nd (v : Obj) (l r : BT) : BT := .node v l r
noncomputable def lf (v : Obj) : BT := .node v .nil .nil
noncomputable def Ao (n : Nat) : Nat → Nat → BT → BT
 | _, _, .nil => .nil
 | a, b, .node v l r => match Nat.blt b n with
  | true => .node v (Ao n (2 * a) (a + b) l) (Ao n (2 * a) (2 * a + b) r)
  | false => .nil
def o0 (P : Params) := di (tT "dict") [tes P "__name__" 1 (tS "builtins" 160),tes P "__doc__" 2 (.builtin "builtins.__doc__:str#opaque"),tes P "__package__" 3 (.builtin "builtins.__package__:str#opaque"),tes P "__loader__" 4 (.builtin "builtins.__loader__:shared#opaque"),tes P "__spec__" 5 (.builtin "builtins.__spec__#opaque"),tb P "__build_class__" 6,tb P "__import__" 7,tb P "abs" 8,tb P "all" 9,tb P "any" 10,tb P "ascii" 11,tb P "bin" 12,tb P "breakpoint" 13,tb P "callable" 14,tb P "chr" 15,tb P "compile" 16,tb P "delattr" 17,tb P "dir" 18,tb P "divmod" 19,tb P "eval" 20,tb P "exec" 21,tb P "format" 22,tb P "getattr" 23,tb P "globals" 24,tb P "hasattr" 25,tb P "hash" 26,tb P "hex" 27,tb P "id" 28,tb P "input" 29,tb P "isinstance" 30,tb P "issubclass" 31,tb P "iter" 32,tb P "aiter" 33,tb P "len" 34,tb P "locals" 35,tb P "max" 36,tb P "min" 37,tb P "next" 38,tb P "anext" 39,tb P "oct" 40,tb P "ord" 41,tb P "pow" 42,tb P "print" 43,tb P "repr" 44,tb P "round" 45,tb P "setattr" 46,tb P "sorted" 47,tb P "sum" 48,tb P "vars" 49,tes P "None" 50 .none,tes P "Ellipsis" 51 .ellipsis,tes P "NotImplemented" 52 .notImplemented,tes P "False" 53 (.bool false),tes P "True" 54 (.bool true),tt P "bool" 55,tt P "memoryview" 56,tt P "bytearray" 57,tt P "bytes" 58,tt P "classmethod" 59,tt P "complex" 60,tt P "dict" 61,tt P "enumerate" 62,tt P "filter" 63,tt P "float" 64,tt P "frozenset" 65,tt P "property" 66,tt P "int" 67,tt P "list" 68,tt P "map" 69,tt P "object" 70,tt P "range" 71,tt P "reversed" 72,tt P "set" 73,tt P "slice" 74,tt P "staticmethod" 75,tt P "str" 76,tt P "super" 77,tt P "tuple" 78,tt P "type" 79,tt P "zip" 80,tes P "__debug__" 81 (.bool true),tt P "BaseException" 82,tt P "BaseExceptionGroup" 83,tt P "Exception" 84,tt P "GeneratorExit" 85,tt P "KeyboardInterrupt" 86,tt P "SystemExit" 87,tt P "ArithmeticError" 88,tt P "AssertionError" 89,tt P "AttributeError" 90,tt P "BufferError" 91,tt P "EOFError" 92,tt P "ImportError" 93,tt P "LookupError" 94,tt P "MemoryError" 95,tt P "NameError" 96,tt P "OSError" 97,tt P "ReferenceError" 98,tt P "RuntimeError" 99,tt P "StopAsyncIteration" 100,tt P "StopIteration" 101,tt P "SyntaxError" 102,tt P "SystemError" 103,tt P "TypeError" 104,tt P "ValueError" 105,tt P "Warning" 106,tt P "FloatingPointError" 107,tt P "OverflowError" 108,tt P "ZeroDivisionError" 109,tt P "BytesWarning" 110,tt P "DeprecationWarning" 111,tt P "EncodingWarning" 112,tt P "FutureWarning" 113,tt P "ImportWarning" 114,tt P "PendingDeprecationWarning" 115,tt P "ResourceWarning" 116,tt P "RuntimeWarning" 117,tt P "SyntaxWarning" 118,tt P "UnicodeWarning" 119,tt P "UserWarning" 120,tt P "BlockingIOError" 121,tt P "ChildProcessError" 122,tt P "ConnectionError" 123,tt P "FileExistsError" 124,tt P "FileNotFoundError" 125,tt P "InterruptedError" 126,tt P "IsADirectoryError" 127,tt P "NotADirectoryError" 128,tt P "PermissionError" 129,tt P "ProcessLookupError" 130,tt P "TimeoutError" 131,tt P "IndentationError" 132,tt P "_IncompleteInputError" 133,tt P "IndexError" 134,tt P "KeyError" 135,tt P "ModuleNotFoundError" 136,tt P "NotImplementedError" 137,tt P "PythonFinalizationError" 138,tt P "RecursionError" 139,tt P "UnboundLocalError" 140,tt P "UnicodeError" 141,tt P "BrokenPipeError" 142,tt P "ConnectionAbortedError" 143,tt P "ConnectionRefusedError" 144,tt P "ConnectionResetError" 145,tt P "TabError" 146,tt P "UnicodeDecodeError" 147,tt P "UnicodeEncodeError" 148,tt P "UnicodeTranslateError" 149,tt P "ExceptionGroup" 150,tes P "EnvironmentError" 151 (tT "OSError"),tes P "IOError" 152 (tT "OSError"),tb P "open" 153,tes P "quit" 154 (.builtin "builtins.quit#opaque"),tes P "exit" 155 (.builtin "builtins.exit#opaque"),tes P "copyright" 156 (.builtin "builtins.copyright#opaque"),tes P "credits" 157 (.builtin "builtins.credits#opaque"),tes P "license" 158 (.builtin "builtins.license#opaque"),tes P "help" 159 (.builtin "builtins.help#opaque")] 159
def o1 (P : Params) := di (tT "dict") [tr P "builtins" 162 4,tr P "__main__" 163 5] 2
def o2 (P : Params) := di .none [tes P "type.__subclasses__.Exception.0" 262 (tI 40),tes P "type.__subclasses__.Exception.n" 263 (tI 1)] 2
def L3 (P : Params) : List DictEntry := [tes P "__doc__" 166 .none,tes P "__package__" 167 .none,tes P "__loader__" 168 (.builtin "__main__.__loader__#opaque"),tes P "__spec__" 169 .none,tr P "__annotations__" 170 6,tr P "__builtins__" 171 4,tes P "__file__" 173 (tS "/claim/cut.py" 172),tes P "__cached__" 174 .none,tr P "_wall" 193 21,tes P "BOLD" 197 (.int 1 196),tes P "FAINT" 199 (.int 2 198),tes P "ITALIC" 201 (.int 4 200),tes P "BLINK" 203 (.int 8 202),tes P "INVERSE" 205 (.int 32 204),tes P "HIDDEN" 207 (.int 64 206),tes P "STRUCK" 209 (.int 128 208),tes P "OVERLINE" 211 (.int 256 210),tes P "UNDER_SHIFT" 213 (.int 9 212),tes P "UNDER_MASK" 216 (.int 3584 215),tes P "NO_COLOUR" 219 (.int (-1) 218),tes P "DIRECT" 223 (.int 16777216 222),tr P "PLAIN" 226 22,tes P "FORE" 228 (.int 1 227),tes P "BACK" 230 (.int 2 229),tes P "UNDER" 232 (.int 3 231),tes P "BLANK" 234 (.int 32 233),tes P "DELETE" 236 (.int 127 235),tr P "TermError" 265 40,tr P "BadSize" 281 53,tr P "BadFormat" 297 65,tr P "BadOption" 313 77,tr P "clamp" 322 86,tr P "decimal_octets" 331 93,tr P "number_of" 340 100,tr P "hex_value" 347 107,tr P "pen_with" 356 114,tr P "flags_with_under" 364 121,tr P "direct_colour" 373 128,tr P "erased_pen" 380 135,tr P "blank_cell" 387 142,tr P "line_slice" 399 149,tes P "SIGN" 403 (.int 35 402),tes P "OPEN" 406 (.int 123 404),tes P "CLOSE" 407 (.int 125 405),tes P "COMMA" 414 (.int 44 408),tes P "COLON" 415 (.int 58 409),tes P "SEMICOLON" 416 (.int 59 410),tes P "SLASH" 417 (.int 47 411),tes P "MINUS" 418 (.int 45 412),tes P "BACKSLASH" 419 (.int 92 413),tes P "MOST_DEEP" 421 (.int 10 420),tes P "MOST_WIDE" 423 (.int 10000 422),tr P "PLAIN_MODIFIERS" 437 158,tr P "PAIR_MODIFIERS" 446 159,tes P "TOLD_MODIFIERS" 448 (.bytes #[109,78,115,116,61,112,101,113,82] 447),tes P "SPECIAL" 450 (.bytes #[32,9,124,38,59,60,62,40,41,36,96,34,39,42,63,91,35,61,37,92,126,33,123,125] 449),tr P "LISTS" 460 160,tr P "IS_ACTIVE" 470 161,tes P "DAY" 472 (.int 86400 471),tr P "format_letters" 478 168,tr P "is_true" 485 175,tr P "format_truth" 492 182,tr P "format_end" 502 189,tr P "format_split" 512 196,tr P "Modifier" 543 213,tr P "format_modifier_at" 553 224,tr P "format_told_at" 565 231,tr P "format_modifiers" 575 238,tr P "format_modifier" 584 245,tr P "expand_format" 592 252,tr P "format_expanded" 606 259,tr P "format_part" 612 264,tr P "format_told" 625 271,tr P "format_value" 634 278,tr P "format_is_so" 644 285,tr P "format_chosen" 655 292,tr P "format_paired" 670 299,tr P "format_compared" 679 306,tr P "format_listed" 685 311,tr P "format_is_named" 691 316,tr P "format_repeated" 703 323,tr P "format_unmarked" 712 330,tr P "format_folder" 720 337,tr P "format_quoted" 730 344,tr P "format_two" 737 351,tr P "format_time" 755 358,tr P "format_folded" 761 363,tr P "format_fits" 773 370,tr P "format_whole" 781 377,tr P "format_quotient" 790 384,tr P "format_reckoned" 801 391,tr P "format_replaced" 815 398,tr P "format_pieces" 825 405,tr P "format_width" 831 410,tr P "format_cut" 837 415,tr P "format_limited" 849 422,tr P "format_filled" 859 429,tr P "format_finished" 871 436,tes P "OPTION_OWN" 875 (.int 64 874),tr P "STYLE_PARTS" 880 437,tr P "STYLE_ALONE" 888 438,tr P "OptionKind" 923 457,tr P "option_is_own" 930 468,tr P "option_split" 939 475,tr P "option_name" 945 480,tr P "option_kind" 953 487,tr P "option_fits" 961 494,tr P "Options" 1026 534,tr P "option_place" 1038 545,tr P "option_read" 1050 552,tr P "option_array_set" 1060 559,tr P "option_array_of" 1071 566,tr P "style_names" 1077 573,tr P "style_colour" 1083 578,tr P "style_bits" 1089 585,tr P "style_unders" 1095 592,tr P "style_part" 1109 599,tr P "style_parts" 1119 606,tr P "style_word_over" 1130 613,tr P "style_over" 1142 621,tes P "SIGN_ILL" 1146 (.int 65533 1145),tes P "SIGN_TRAIL" 1148 (.int 128 1147),tes P "SIGN_MASK" 1150 (.int 63 1149),tr P "sign_lead" 1157 628,tr P "SignReader" 1250 695,tr P "codes_of_utf8" 1258 706,tr P "ALIGNS" 1265 707,tes P "LESS_SIGN" 1267 (.int 60 1266),tes P "MORE_SIGN" 1269 (.int 62 1268),tes P "CONTROL_LAST" 1271 (.int 159 1270),tes P "LEAST_MARKED" 1273 (.int 3 1272),tr P "status_put" 1288 714,tr P "StyledText" 1355 752,tr P "styled_cells" 1367 763,tr P "styled_pen" 1377 770,tr P "status_expanded" 1385 777,tr P "status_blanks" 1391 782,tr P "status_cut" 1399 789,tr P "status_laid" 1411 796,tr P "WindowList" 1442 813,tr P "window_list" 1461 824,tr P "window_list_offset" 1472 831,tr P "window_list_cells" 1484 838,tr P "StatusPlan" 1556 876,tr P "status_side" 1569 887,tr P "border_column" 1575 892,tr P "width_in_ranges" 1588 899,tr P "width_check_ranges" 1599 906,tr P "WidthTable" 1649 937,tr P "_law_ways" 1656 942,tr P "_law_styles" 1691 951,tr P "_law_deck" 1697 956,tr P "_law_draw" 1705 963,tr P "_law_list" 1720 970,tr P "_law_shift" 1732 977,tr P "_law_row" 1738 982,tr P "_law_codes" 1744 987,tr P "_law_border_right" 1750 992,tr P "_law_options" 1763 999,tr P "law" 1769 1004]
def o3 (P : Params) := di (tT "dict") (tes P "__name__" 165 (tS "law_og0289_01" 1650) :: L3 P) 161
def o4 : Obj := ⟨(tT "module"),(some 0),.plain,#[]⟩
def o5 : Obj := ⟨(tT "module"),(some 3),.plain,#[]⟩
def o6 := di (tT "dict") [] 0
def o7 := tu []
def o8 := fl []
def o9 : Obj := ⟨(tT "code"),none,(.fields #[(tS "<module>" 176),(tS "<module>" 177),(tS "/claim/cut.py" 178),(tI 1),(tI 0),(tI 0),(tI 0),(tI 0),(tR 7),(.bool false),(tI 175),(tR 8),.none,.none,.none,.none,(tI 179),(tI 1),(tS "/claim/cut.py" 180)]),#[]⟩
def o10 : Obj := ⟨(tT "frame"),none,.plain,#[(some (tR 9)),(some (tR 3)),(some (tR 3)),none,(some (tS "__main__" 164)),none,(some (tR 0))]⟩
def o11 := tu []
def L12 : List Value := [tI 1,tI 0,tR 20,tI 23,tI 0,tR 28,tI 27,tI 0,tR 49,tI 29,tI 0,tR 61,tI 31,tI 0,tR 73,tI 33,tI 0,tR 85,tI 35,tI 0,tR 92,tI 45,tI 0,tR 99,tI 54,tI 0,tR 106,tI 62,tI 0,tR 113,tI 64,tI 0,tR 120,tI 66,tI 0,tR 127,tI 68,tI 0,tR 134,tI 70,tI 0,tR 141,tI 73,tI 0,tR 148,tI 93,tI 0,tR 167,tI 95,tI 0,tR 174,tI 97,tI 0,tR 181,tI 99,tI 0,tR 188,tI 112,tI 0,tR 195,tI 120,tI 0,tR 202,tI 125,tI 0,tR 223,tI 140,tI 0,tR 230,tI 154,tI 0,tR 237,tI 164,tI 0,tR 244,tI 169,tI 0,tR 251,tI 171,tI 0,tR 258,tI 202,tI 0,tR 263,tI 221,tI 0,tR 270,tI 244,tI 0,tR 277,tI 250,tI 0,tR 284,tI 255,tI 0,tR 291,tI 263,tI 0,tR 298,tI 278,tI 0,tR 305,tI 288,tI 0,tR 310,tI 297,tI 0,tR 315,tI 302,tI 0,tR 322,tI 307,tI 0,tR 329,tI 315,tI 0,tR 336,tI 320,tI 0,tR 343,tI 329,tI 0,tR 350,tI 331,tI 0,tR 357,tI 346,tI 0,tR 362,tI 350,tI 0,tR 369,tI 367,tI 0,tR 376,tI 370,tI 0,tR 383,tI 373,tI 0,tR 390,tI 388,tI 0,tR 397,tI 400,tI 0,tR 404,tI 416,tI 0,tR 409,tI 418,tI 0,tR 414,tI 428,tI 0,tR 421,tI 438,tI 0,tR 428,tI 444,tI 0,tR 435,tI 462,tI 0,tR 444,tI 469,tI 0,tR 467,tI 471,tI 0,tR 474,tI 479,tI 0,tR 479,tI 486,tI 0,tR 486,tI 488,tI 0,tR 493,tI 490,tI 0,tR 500,tI 523,tI 0,tR 544,tI 530,tI 0,tR 551,tI 550,tI 0,tR 558,tI 556,tI 0,tR 565,tI 564,tI 0,tR 572,tI 566,tI 0,tR 577,tI 584,tI 0,tR 584,tI 586,tI 0,tR 591,tI 588,tI 0,tR 598,tI 604,tI 0,tR 605,tI 613,tI 0,tR 612,tI 620,tI 0,tR 620,tI 636,tI 0,tR 627,tI 644,tI 0,tR 634,tI 694,tI 0,tR 705,tI 703,tI 0,tR 713,tI 718,tI 0,tR 720,tI 758,tI 0,tR 762,tI 765,tI 0,tR 769,tI 768,tI 0,tR 776,tI 773,tI 0,tR 781,tI 775,tI 0,tR 788,tI 777,tI 0,tR 795,tI 781,tI 0,tR 802,tI 786,tI 0,tR 823,tI 802,tI 0,tR 830,tI 807,tI 0,tR 837,tI 817,tI 0,tR 844,tI 853,tI 0,tR 886,tI 857,tI 0,tR 891,tI 862,tI 0,tR 898,tI 871,tI 0,tR 905,tI 877,tI 0,tR 912,tI 896,tI 0,tR 955,tI 901,tI 0,tR 962,tI 906,tI 0,tR 969,tI 916,tI 0,tR 976,tI 923,tI 0,tR 981,tI 936,tI 0,tR 986,tI 938,tI 0,tR 991,tI 947,tI 0,tR 998,tI 959,tI 0,tR 1003]
def o12 := fl L12
def o13 := c0 "<module>" "<module>" 182 1 0 0 11 false 12 185
def o14 : Obj := ⟨(tT "frame"),none,.plain,#[(some (tR 13)),(some (tR 3)),(some (tR 3)),none,(some (tS "__main__" 164)),none,(some (tR 0))]⟩
def o15 := tu []
def o16 := fl []
def o17 := tu [tS "k" 190]
def o18 := tu []
def o19 := f0 (pa 0) "_wall" "_wall"
def o20 := c3 "_wall" "_wall" 187 1 1 3 15 true 16 17 18 19 191
def o21 := fu (pa 0) "_wall" "_wall" .none "__main__" 164 20
def o22 := tu [.int 0 224,.int (-1) 218,.int (-1) 218,.int (-1) 218,.int 0 225]
def o23 := tu [tT "Exception"]
def o24 : Obj := ⟨(tT "builtin_function_or_method"),none,(.fields #[(.builtin "type.__prepare__"),(tT "type")]),#[]⟩
def o25 (P : Params) := di (tT "dict") [tes P "__module__" 244 (tS "termcore.base" 194),tes P "__qualname__" 246 (tS "TermError" 245),tes P "__firstlineno__" 248 (.int 23 247),tr P "__init__" 256 37,tr P "__static_attributes__" 258 38] 5
def o26 := tu []
def o27 := fl [tI 25,tI 4,tR 36]
def o28 := c0 "TermError" "TermError" 239 23 0 0 26 false 27 242
def o29 : Obj := ⟨(tT "frame"),none,.plain,#[(some (tR 28)),(some (tR 3)),(some (tR 25)),none,(some (tS "termcore.base" 194)),none,(some (tR 0))]⟩
def o30 := tu [.none]
def o31 := tu []
def o32 := fl []
def o33 := tu [tS "self" 252,tS "told" 253]
def o34 := tu []
def o35 := f0 (pc 20 0) "__init__" "TermError.__init__"
def o36 := c3 "__init__" "TermError.__init__" 249 25 2 3 31 true 32 33 34 35 254
def o37 := fu (pc 20 0) "__init__" "TermError.__init__" (tR 30) "termcore.base" 194 36
def o38 := tu [tS "told" 257]
def o39 (P : Params) := di (tT "dict") [tes P "__module__" 244 (tS "termcore.base" 194),tes P "__firstlineno__" 248 (.int 23 247),tr P "__init__" 256 37,tr P "__static_attributes__" 258 38,tr P "__weakref__" 260 41,tes P "__doc__" 261 .none] 3
def o40 : Obj := ⟨(tT "type"),none,(.cls (tmc (Str.ofString "TermError") [(tT "Exception")] [(tR 40),(tT "Exception"),(tT "BaseException"),(tT "object")] 39 (Str.ofString "TermError") true [] [(tR 53),(tR 65),(tR 77)] false none false)),#[(some (tR 23)),none,(some (tS "TermError" 237)),(some (tS "TermError" 245)),(some (.builtin "Exception.__new__")),(some (.bool true))]⟩
def o41 : Obj := ⟨(tT "getset_descriptor"),none,(.fields #[(tS "__weakref__" 259),(tR 40),(.builtin "ExceptionGroup.__weakref__"),.none]),#[]⟩
def o42 : Obj := ⟨(tT "super"),none,(.fields #[(tR 40),(tR 40),(tR 40)]),#[]⟩
def o43 : Obj := ⟨(tT "builtin_function_or_method"),none,(.fields #[(.builtin "object.__init_subclass__"),(tR 40)]),#[]⟩
def o44 := tu [tR 40]
def o45 : Obj := ⟨(tT "builtin_function_or_method"),none,(.fields #[(.builtin "type.__prepare__"),(tT "type")]),#[]⟩
def o46 (P : Params) := di (tT "dict") [tes P "__module__" 273 (tS "termcore.base" 194),tes P "__qualname__" 275 (tS "BadSize" 274),tes P "__firstlineno__" 277 (.int 27 276),tr P "__static_attributes__" 278 51] 4
def o47 := tu []
def o48 := fl []
def o49 := c0 "BadSize" "BadSize" 268 27 0 0 47 false 48 271
def o50 : Obj := ⟨(tT "frame"),none,.plain,#[(some (tR 49)),(some (tR 3)),(some (tR 46)),none,(some (tS "termcore.base" 194)),none,(some (tR 0))]⟩
def o51 := tu []
def o52 (P : Params) := di (tT "dict") [tes P "__module__" 273 (tS "termcore.base" 194),tes P "__firstlineno__" 277 (.int 27 276),tr P "__static_attributes__" 278 51,tes P "__doc__" 279 .none] 2
def o53 : Obj := ⟨(tT "type"),none,(.cls (tmc (Str.ofString "BadSize") [(tR 40)] [(tR 53),(tR 40),(tT "Exception"),(tT "BaseException"),(tT "object")] 52 (Str.ofString "BadSize") true [] [] false none false)),#[(some (tR 44)),none,(some (tS "BadSize" 266)),(some (tS "BadSize" 274)),(some (.builtin "Exception.__new__")),(some (.bool true))]⟩
def o54 : Obj := ⟨(tT "super"),none,(.fields #[(tR 53),(tR 53),(tR 53)]),#[]⟩
def o55 : Obj := ⟨(tT "builtin_function_or_method"),none,(.fields #[(.builtin "object.__init_subclass__"),(tR 53)]),#[]⟩
def o56 := tu [tR 40]
def o57 : Obj := ⟨(tT "builtin_function_or_method"),none,(.fields #[(.builtin "type.__prepare__"),(tT "type")]),#[]⟩
def o58 (P : Params) := di (tT "dict") [tes P "__module__" 289 (tS "termcore.base" 194),tes P "__qualname__" 291 (tS "BadFormat" 290),tes P "__firstlineno__" 293 (.int 29 292),tr P "__static_attributes__" 294 63] 4
def o59 := tu []
def o60 := fl []
def o61 := c0 "BadFormat" "BadFormat" 284 29 0 0 59 false 60 287
def o62 : Obj := ⟨(tT "frame"),none,.plain,#[(some (tR 61)),(some (tR 3)),(some (tR 58)),none,(some (tS "termcore.base" 194)),none,(some (tR 0))]⟩
def o63 := tu []
def o64 (P : Params) := di (tT "dict") [tes P "__module__" 289 (tS "termcore.base" 194),tes P "__firstlineno__" 293 (.int 29 292),tr P "__static_attributes__" 294 63,tes P "__doc__" 295 .none] 2
def o65 : Obj := ⟨(tT "type"),none,(.cls (tmc (Str.ofString "BadFormat") [(tR 40)] [(tR 65),(tR 40),(tT "Exception"),(tT "BaseException"),(tT "object")] 64 (Str.ofString "BadFormat") true [] [] false none false)),#[(some (tR 56)),none,(some (tS "BadFormat" 282)),(some (tS "BadFormat" 290)),(some (.builtin "Exception.__new__")),(some (.bool true))]⟩
def o66 : Obj := ⟨(tT "super"),none,(.fields #[(tR 65),(tR 65),(tR 65)]),#[]⟩
def o67 : Obj := ⟨(tT "builtin_function_or_method"),none,(.fields #[(.builtin "object.__init_subclass__"),(tR 65)]),#[]⟩
def o68 := tu [tR 40]
def o69 : Obj := ⟨(tT "builtin_function_or_method"),none,(.fields #[(.builtin "type.__prepare__"),(tT "type")]),#[]⟩
def o70 (P : Params) := di (tT "dict") [tes P "__module__" 305 (tS "termcore.base" 194),tes P "__qualname__" 307 (tS "BadOption" 306),tes P "__firstlineno__" 309 (.int 31 308),tr P "__static_attributes__" 310 75] 4
def o71 := tu []
def o72 := fl []
def o73 := c0 "BadOption" "BadOption" 300 31 0 0 71 false 72 303
def o74 : Obj := ⟨(tT "frame"),none,.plain,#[(some (tR 73)),(some (tR 3)),(some (tR 70)),none,(some (tS "termcore.base" 194)),none,(some (tR 0))]⟩
def o75 := tu []
def o76 (P : Params) := di (tT "dict") [tes P "__module__" 305 (tS "termcore.base" 194),tes P "__firstlineno__" 309 (.int 31 308),tr P "__static_attributes__" 310 75,tes P "__doc__" 311 .none] 2
def o77 : Obj := ⟨(tT "type"),none,(.cls (tmc (Str.ofString "BadOption") [(tR 40)] [(tR 77),(tR 40),(tT "Exception"),(tT "BaseException"),(tT "object")] 76 (Str.ofString "BadOption") true [] [] false none false)),#[(some (tR 68)),none,(some (tS "BadOption" 298)),(some (tS "BadOption" 306)),(some (.builtin "Exception.__new__")),(some (.bool true))]⟩
def o78 : Obj := ⟨(tT "super"),none,(.fields #[(tR 77),(tR 77),(tR 77)]),#[]⟩
def o79 : Obj := ⟨(tT "builtin_function_or_method"),none,(.fields #[(.builtin "object.__init_subclass__"),(tR 77)]),#[]⟩
def o80 := tu []
def o81 := fl []
def o82 := tu [tS "value" 317,tS "least" 318,tS "most" 319]
def o83 := tu []
def o84 := f0 (pa 24) "clamp" "clamp"
def o85 := c3 "clamp" "clamp" 314 33 3 3 80 true 81 82 83 84 320
def o86 := fu (pa 24) "clamp" "clamp" .none "termcore.base" 194 85
def o87 := tu []
def o88 := fl []
def o89 := tu [tS "number" 326,tS "rest" 327,tS "found" 328]
def o90 := tu []
def o91 := f0 (pa 25) "decimal_octets" "decimal_octets"
def o92 := c3 "decimal_octets" "decimal_octets" 323 35 1 3 87 true 88 89 90 91 329
def o93 := fu (pa 25) "decimal_octets" "decimal_octets" .none "termcore.base" 194 92
def o94 := tu []
def o95 := fl []
def o96 := tu [tS "octets" 335,tS "number" 336,tS "octet" 337]
def o97 := tu []
def o98 := f0 (pa 26) "number_of" "number_of"
def o99 := c3 "number_of" "number_of" 332 45 1 3 94 true 95 96 97 98 338
def o100 := fu (pa 26) "number_of" "number_of" .none "termcore.base" 194 99
def o101 := tu []
def o102 := fl []
def o103 := tu [tS "octet" 344]
def o104 := tu []
def o105 := f0 (pa 27) "hex_value" "hex_value"
def o106 := c3 "hex_value" "hex_value" 341 54 1 3 101 true 102 103 104 105 345
def o107 := fu (pa 27) "hex_value" "hex_value" .none "termcore.base" 194 106
def o108 := tu []
def o109 := fl []
def o110 := tu [tS "pen" 351,tS "place" 352,tS "value" 353]
def o111 := tu []
def o112 := f0 (pa 28) "pen_with" "pen_with"
def o113 := c3 "pen_with" "pen_with" 348 62 3 3 108 true 109 110 111 112 354
def o114 := fu (pa 28) "pen_with" "pen_with" .none "termcore.base" 194 113
def o115 := tu []
def o116 := fl []
def o117 := tu [tS "flags" 360,tS "kind" 361]
def o118 := tu []
def o119 := f0 (pa 29) "flags_with_under" "flags_with_under"
def o120 := c3 "flags_with_under" "flags_with_under" 357 64 2 3 115 true 116 117 118 119 362
def o121 := fu (pa 29) "flags_with_under" "flags_with_under" .none "termcore.base" 194 120
def o122 := tu []
def o123 := fl []
def o124 := tu [tS "red" 368,tS "green" 369,tS "blue" 370]
def o125 := tu []
def o126 := f0 (pa 30) "direct_colour" "direct_colour"
def o127 := c3 "direct_colour" "direct_colour" 365 66 3 3 122 true 123 124 125 126 371
def o128 := fu (pa 30) "direct_colour" "direct_colour" .none "termcore.base" 194 127
def o129 := tu []
def o130 := fl []
def o131 := tu [tS "pen" 377]
def o132 := tu []
def o133 := f0 (pa 31) "erased_pen" "erased_pen"
def o134 := c3 "erased_pen" "erased_pen" 374 68 1 3 129 true 130 131 132 133 378
def o135 := fu (pa 31) "erased_pen" "erased_pen" .none "termcore.base" 194 134
def o136 := tu []
def o137 := fl []
def o138 := tu [tS "pen" 384]
def o139 := tu []
def o140 := f0 (pa 32) "blank_cell" "blank_cell"
def o141 := c3 "blank_cell" "blank_cell" 381 70 1 3 136 true 137 138 139 140 385
def o142 := fu (pa 32) "blank_cell" "blank_cell" .none "termcore.base" 194 141
def o143 := tu []
def o144 := fl []
def o145 := tu [tS "cells" 393,tS "left" 394,tS "right" 395,tS "found" 396]
def o146 := tu []
def o147 := f0 (pa 34) "line_slice" "line_slice"
def o148 := c3 "line_slice" "line_slice" 390 73 3 3 143 true 144 145 146 147 397
def o149 := fu (pa 34) "line_slice" "line_slice" .none "termcore.lines" 388 148
def o150 := tu [.int 123 404,.int 125 405]
def o151 : Obj := ⟨(tT "tuple_iterator"),none,(.fields #[.none,(tI 2)]),#[]⟩
def o152 := tu []
def o153 : Obj := ⟨(tT "StopIteration"),none,(.fields #[(tR 152),.none,.none,.none,(.bool false),.none]),#[]⟩
def o154 := tu [.int 44 408,.int 58 409,.int 59 410,.int 47 411,.int 45 412,.int 92 413]
def o155 : Obj := ⟨(tT "tuple_iterator"),none,(.fields #[.none,(tI 6)]),#[]⟩
def o156 := tu []
def o157 : Obj := ⟨(tT "StopIteration"),none,(.fields #[(tR 156),.none,.none,.none,(.bool false),.none]),#[]⟩
def o158 := tu [.bytes #[108] 424,.bytes #[69] 425,.bytes #[84] 426,.bytes #[98] 427,.bytes #[100] 428,.bytes #[110] 429,.bytes #[119] 430,.bytes #[97] 431,.bytes #[83] 432,.bytes #[87] 433,.bytes #[80] 434,.bytes #[33] 435,.bytes #[33,33] 436]
def o159 := tu [.bytes #[124,124] 438,.bytes #[38,38] 439,.bytes #[61,61] 440,.bytes #[33,61] 441,.bytes #[60,61] 442,.bytes #[62,61] 443,.bytes #[60] 444,.bytes #[62] 445]
def o160 (P : Params) := di (tT "dict") [teb P #[83] 451 (tS "sessions" 452),teb P #[87] 453 (tS "windows" 454),teb P #[80] 455 (tS "panes" 456)] 3
def o161 (P : Params) := di (tT "dict") [teb P #[83] 461 (.bytes #[115,101,115,115,105,111,110,95,97,99,116,105,118,101] 462),teb P #[87] 463 (.bytes #[119,105,110,100,111,119,95,97,99,116,105,118,101] 464),teb P #[80] 465 (.bytes #[112,97,110,101,95,97,99,116,105,118,101] 466)] 3
def o162 := tu []
def o163 := fl []
def o164 := tu []
def o165 := tu []
def o166 := f0 (pa 48) "format_letters" "format_letters"
def o167 := c3 "format_letters" "format_letters" 473 93 0 3 162 true 163 164 165 166 476
def o168 := fu (pa 48) "format_letters" "format_letters" .none "termcore.muxformats" 400 167
def o169 := tu []
def o170 := fl []
def o171 := tu [tS "octets" 482]
def o172 := tu []
def o173 := f0 (pa 49) "is_true" "is_true"
def o174 := c3 "is_true" "is_true" 479 95 1 3 169 true 170 171 172 173 483
def o175 := fu (pa 49) "is_true" "is_true" .none "termcore.muxformats" 400 174
def o176 := tu []
def o177 := fl []
def o178 := tu [tS "truth" 489]
def o179 := tu []
def o180 := f0 (pa 50) "format_truth" "format_truth"
def o181 := c3 "format_truth" "format_truth" 486 97 1 3 176 true 177 178 179 180 490
def o182 := fu (pa 50) "format_truth" "format_truth" .none "termcore.muxformats" 400 181
def o183 := tu []
def o184 := fl []
def o185 := tu [tS "octets" 496,tS "at" 497,tS "ends" 498,tS "deep" 499]
def o186 := tu []
def o187 := f0 (pa 51) "format_end" "format_end"
def o188 := c3 "format_end" "format_end" 493 99 3 3 183 true 184 185 186 187 500
def o189 := fu (pa 51) "format_end" "format_end" .none "termcore.muxformats" 400 188
def o190 := tu []
def o191 := fl []
def o192 := tu [tS "octets" 506,tS "found" 507,tS "at" 508,tS "end" 509]
def o193 := tu []
def o194 := f0 (pa 52) "format_split" "format_split"
def o195 := c3 "format_split" "format_split" 503 112 1 3 190 true 191 192 193 194 510
def o196 := fu (pa 52) "format_split" "format_split" .none "termcore.muxformats" 400 195
def o197 := tu []
def o198 : Obj := ⟨(tT "builtin_function_or_method"),none,(.fields #[(.builtin "type.__prepare__"),(tT "type")]),#[]⟩
def o199 (P : Params) := di (tT "dict") [tes P "__module__" 520 (tS "termcore.muxformats" 400),tes P "__qualname__" 522 (tS "Modifier" 521),tes P "__firstlineno__" 524 (.int 120 523),tr P "__init__" 533 210,tr P "__static_attributes__" 536 211] 5
def o200 := tu []
def o201 := fl [tI 122,tI 4,tR 209]
def o202 := c0 "Modifier" "Modifier" 515 120 0 0 200 false 201 518
def o203 : Obj := ⟨(tT "frame"),none,.plain,#[(some (tR 202)),(some (tR 3)),(some (tR 199)),none,(some (tS "termcore.muxformats" 400)),none,(some (tR 0))]⟩
def o204 := tu []
def o205 := fl []
def o206 := tu [tS "self" 528,tS "name" 529,tS "told" 530]
def o207 := tu []
def o208 := f0 (pc 53 0) "__init__" "Modifier.__init__"
def o209 := c3 "__init__" "Modifier.__init__" 525 122 3 3 204 true 205 206 207 208 531
def o210 := fu (pc 53 0) "__init__" "Modifier.__init__" .none "termcore.muxformats" 400 209
def o211 := tu [tS "name" 534,tS "told" 535]
def o212 (P : Params) := di (tT "dict") [tes P "__module__" 520 (tS "termcore.muxformats" 400),tes P "__firstlineno__" 524 (.int 120 523),tr P "__init__" 533 210,tr P "__static_attributes__" 536 211,tr P "__dict__" 538 214,tr P "__weakref__" 540 215,tes P "__doc__" 541 .none] 4
def o213 : Obj := ⟨(tT "type"),none,(.cls (tmc (Str.ofString "Modifier") [(tT "object")] [(tR 213),(tT "object")] 212 (Str.ofString "Modifier") true [] [] false none false)),#[none,none,(some (tS "Modifier" 513)),(some (tS "Modifier" 521)),(some (.builtin "object.__new__")),(some (.bool true))]⟩
def o214 : Obj := ⟨(tT "getset_descriptor"),none,(.fields #[(tS "__dict__" 537),(tR 213),(.builtin "function.__dict__"),(.builtin "function.__dict__#set")]),#[]⟩
def o215 : Obj := ⟨(tT "getset_descriptor"),none,(.fields #[(tS "__weakref__" 539),(tR 213),(.builtin "ExceptionGroup.__weakref__"),.none]),#[]⟩
def o216 : Obj := ⟨(tT "super"),none,(.fields #[(tR 213),(tR 213),(tR 213)]),#[]⟩
def o217 : Obj := ⟨(tT "builtin_function_or_method"),none,(.fields #[(.builtin "object.__init_subclass__"),(tR 213)]),#[]⟩
def o218 := tu []
def o219 := fl []
def o220 := tu [tS "octets" 547,tS "at" 548,tS "name" 549,tS "end" 550]
def o221 := tu []
def o222 := f0 (pa 54) "format_modifier_at" "format_modifier_at"
def o223 := c3 "format_modifier_at" "format_modifier_at" 544 125 2 3 218 true 219 220 221 222 551
def o224 := fu (pa 54) "format_modifier_at" "format_modifier_at" .none "termcore.muxformats" 400 223
def o225 := tu []
def o226 := fl []
def o227 := tu [tS "name" 557,tS "octets" 558,tS "at" 559,tS "parting" 560,tS "told" 561,tS "end" 562]
def o228 := tu []
def o229 := f0 (pa 55) "format_told_at" "format_told_at"
def o230 := c3 "format_told_at" "format_told_at" 554 140 3 3 225 true 226 227 228 229 563
def o231 := fu (pa 55) "format_told_at" "format_told_at" .none "termcore.muxformats" 400 230
def o232 := tu []
def o233 := fl []
def o234 := tu [tS "octets" 569,tS "found" 570,tS "at" 571,tS "one" 572]
def o235 := tu []
def o236 := f0 (pa 56) "format_modifiers" "format_modifiers"
def o237 := c3 "format_modifiers" "format_modifiers" 566 154 1 3 232 true 233 234 235 236 573
def o238 := fu (pa 56) "format_modifiers" "format_modifiers" .none "termcore.muxformats" 400 237
def o239 := tu []
def o240 := fl []
def o241 := tu [tS "found" 579,tS "names" 580,tS "one" 581]
def o242 := tu []
def o243 := f0 (pa 57) "format_modifier" "format_modifier"
def o244 := c3 "format_modifier" "format_modifier" 576 164 2 3 239 true 240 241 242 243 582
def o245 := fu (pa 57) "format_modifier" "format_modifier" .none "termcore.muxformats" 400 244
def o246 := tu []
def o247 := fl []
def o248 := tu [tS "octets" 588,tS "facts" 589]
def o249 := tu []
def o250 := f0 (pa 58) "expand_format" "expand_format"
def o251 := c3 "expand_format" "expand_format" 585 169 2 3 246 true 247 248 249 250 590
def o252 := fu (pa 58) "expand_format" "expand_format" .none "termcore.muxformats" 400 251
def o253 := tu []
def o254 := fl []
def o255 := tu [tS "octets" 596,tS "facts" 597,tS "deep" 598,tS "found" 599,tS "at" 600,tS "letters" 601,tS "sign" 602,tS "end" 603]
def o256 := tu []
def o257 := f0 (pa 59) "format_expanded" "format_expanded"
def o258 := c3 "format_expanded" "format_expanded" 593 171 3 3 253 true 254 255 256 257 604
def o259 := fu (pa 59) "format_expanded" "format_expanded" .none "termcore.muxformats" 400 258
def o260 := tu []
def o261 := fl []
def o262 := f0 (pa 60) "format_part" "format_part"
def o263 := co "format_part" "format_part" 607 202 3 3 260 true 261 .none .none .none (tR 262) 610
def o264 := fu (pa 60) "format_part" "format_part" .none "termcore.muxformats" 400 263
def o265 := tu []
def o266 := fl []
def o267 := tu [tS "found" 616,tS "rest" 617,tS "facts" 618,tS "deep" 619,tS "told" 620,tS "number" 621,tS "quoted" 622]
def o268 := tu []
def o269 := f0 (pa 61) "format_told" "format_told"
def o270 := c3 "format_told" "format_told" 613 221 4 3 265 true 266 267 268 269 623
def o271 := fu (pa 61) "format_told" "format_told" .none "termcore.muxformats" 400 270
def o272 := tu []
def o273 := fl []
def o274 := tu [tS "octets" 629,tS "facts" 630,tS "deep" 631]
def o275 := tu []
def o276 := f0 (pa 62) "format_value" "format_value"
def o277 := c3 "format_value" "format_value" 626 244 3 3 272 true 273 274 275 276 632
def o278 := fu (pa 62) "format_value" "format_value" .none "termcore.muxformats" 400 277
def o279 := tu []
def o280 := fl []
def o281 := tu [tS "octets" 638,tS "facts" 639,tS "deep" 640,tS "told" 641]
def o282 := tu []
def o283 := f0 (pa 63) "format_is_so" "format_is_so"
def o284 := c3 "format_is_so" "format_is_so" 635 250 3 3 279 true 280 281 282 283 642
def o285 := fu (pa 63) "format_is_so" "format_is_so" .none "termcore.muxformats" 400 284
def o286 := tu []
def o287 := fl []
def o288 := tu [tS "octets" 648,tS "facts" 649,tS "deep" 650,tS "parts" 651,tS "at" 652]
def o289 := tu []
def o290 := f0 (pa 64) "format_chosen" "format_chosen"
def o291 := c3 "format_chosen" "format_chosen" 645 255 3 3 286 true 287 288 289 290 653
def o292 := fu (pa 64) "format_chosen" "format_chosen" .none "termcore.muxformats" 400 291
def o293 := tu []
def o294 := fl []
def o295 := tu [tS "one" 659,tS "rest" 660,tS "facts" 661,tS "deep" 662,tS "parts" 663,tS "near" 664,tS "far" 665,tS "is_folded" 666,tS "truths" 667]
def o296 := tu []
def o297 := f0 (pa 65) "format_paired" "format_paired"
def o298 := c3 "format_paired" "format_paired" 656 263 4 3 293 true 294 295 296 297 668
def o299 := fu (pa 65) "format_paired" "format_paired" .none "termcore.muxformats" 400 298
def o300 := tu []
def o301 := fl []
def o302 := tu [tS "word" 674,tS "near" 675,tS "far" 676]
def o303 := tu []
def o304 := f0 (pa 66) "format_compared" "format_compared"
def o305 := c3 "format_compared" "format_compared" 671 278 3 3 300 true 301 302 303 304 677
def o306 := fu (pa 66) "format_compared" "format_compared" .none "termcore.muxformats" 400 305
def o307 := tu []
def o308 := fl []
def o309 := f0 (pa 67) "format_listed" "format_listed"
def o310 := co "format_listed" "format_listed" 680 288 4 3 307 true 308 .none .none .none (tR 309) 683
def o311 := fu (pa 67) "format_listed" "format_listed" .none "termcore.muxformats" 400 310
def o312 := tu []
def o313 := fl []
def o314 := f0 (pa 68) "format_is_named" "format_is_named"
def o315 := co "format_is_named" "format_is_named" 686 297 4 3 312 true 313 .none .none .none (tR 314) 689
def o316 := fu (pa 68) "format_is_named" "format_is_named" .none "termcore.muxformats" 400 315
def o317 := tu []
def o318 := fl []
def o319 := tu [tS "rest" 695,tS "facts" 696,tS "deep" 697,tS "parts" 698,tS "number" 699,tS "told" 700]
def o320 := tu []
def o321 := f0 (pa 69) "format_repeated" "format_repeated"
def o322 := c3 "format_repeated" "format_repeated" 692 302 3 3 317 true 318 319 320 321 701
def o323 := fu (pa 69) "format_repeated" "format_repeated" .none "termcore.muxformats" 400 322
def o324 := tu []
def o325 := fl []
def o326 := tu [tS "octets" 707,tS "found" 708,tS "at" 709]
def o327 := tu []
def o328 := f0 (pa 70) "format_unmarked" "format_unmarked"
def o329 := c3 "format_unmarked" "format_unmarked" 704 307 1 3 324 true 325 326 327 328 710
def o330 := fu (pa 70) "format_unmarked" "format_unmarked" .none "termcore.muxformats" 400 329
def o331 := tu []
def o332 := fl []
def o333 := tu [tS "octets" 716,tS "place" 717]
def o334 := tu []
def o335 := f0 (pa 71) "format_folder" "format_folder"
def o336 := c3 "format_folder" "format_folder" 713 315 1 3 331 true 332 333 334 335 718
def o337 := fu (pa 71) "format_folder" "format_folder" .none "termcore.muxformats" 400 336
def o338 := tu []
def o339 := fl []
def o340 := tu [tS "octets" 724,tS "is_for_formats" 725,tS "found" 726,tS "octet" 727]
def o341 := tu []
def o342 := f0 (pa 72) "format_quoted" "format_quoted"
def o343 := c3 "format_quoted" "format_quoted" 721 320 2 3 338 true 339 340 341 342 728
def o344 := fu (pa 72) "format_quoted" "format_quoted" .none "termcore.muxformats" 400 343
def o345 := tu []
def o346 := fl []
def o347 := tu [tS "number" 734]
def o348 := tu []
def o349 := f0 (pa 73) "format_two" "format_two"
def o350 := c3 "format_two" "format_two" 731 329 1 3 345 true 346 347 348 349 735
def o351 := fu (pa 73) "format_two" "format_two" .none "termcore.muxformats" 400 350
def o352 := tu []
def o353 := fl []
def o354 := tu [tS "octets" 741,tS "seconds" 742,tS "days" 743,tS "rest" 744,tS "shifted" 745,tS "within" 746,tS "year" 747,tS "day" 748,tS "month" 749,tS "number" 750,tS "date" 751,tS "clock" 752]
def o355 := tu []
def o356 := f0 (pa 74) "format_time" "format_time"
def o357 := c3 "format_time" "format_time" 738 331 1 3 352 true 353 354 355 356 753
def o358 := fu (pa 74) "format_time" "format_time" .none "termcore.muxformats" 400 357
def o359 := tu []
def o360 := fl []
def o361 := f0 (pa 75) "format_folded" "format_folded"
def o362 := co "format_folded" "format_folded" 756 346 2 3 359 true 360 .none .none .none (tR 361) 759
def o363 := fu (pa 75) "format_folded" "format_folded" .none "termcore.muxformats" 400 362
def o364 := tu []
def o365 := fl []
def o366 := tu [tS "pattern" 765,tS "octets" 766,tS "at" 767,tS "place" 768,tS "star" 769,tS "kept" 770]
def o367 := tu []
def o368 := f0 (pa 76) "format_fits" "format_fits"
def o369 := c3 "format_fits" "format_fits" 762 350 2 3 364 true 365 366 367 368 771
def o370 := fu (pa 76) "format_fits" "format_fits" .none "termcore.muxformats" 400 369
def o371 := tu []
def o372 := fl []
def o373 := tu [tS "octets" 777,tS "number" 778]
def o374 := tu []
def o375 := f0 (pa 77) "format_whole" "format_whole"
def o376 := c3 "format_whole" "format_whole" 774 367 1 3 371 true 372 373 374 375 779
def o377 := fu (pa 77) "format_whole" "format_whole" .none "termcore.muxformats" 400 376
def o378 := tu []
def o379 := fl []
def o380 := tu [tS "one" 785,tS "other" 786,tS "found" 787]
def o381 := tu []
def o382 := f0 (pa 78) "format_quotient" "format_quotient"
def o383 := c3 "format_quotient" "format_quotient" 782 370 2 3 378 true 379 380 381 382 788
def o384 := fu (pa 78) "format_quotient" "format_quotient" .none "termcore.muxformats" 400 383
def o385 := tu []
def o386 := fl []
def o387 := tu [tS "word" 794,tS "near" 795,tS "far" 796,tS "one" 797,tS "other" 798]
def o388 := tu []
def o389 := f0 (pa 79) "format_reckoned" "format_reckoned"
def o390 := c3 "format_reckoned" "format_reckoned" 791 373 3 3 385 true 386 387 388 389 799
def o391 := fu (pa 79) "format_reckoned" "format_reckoned" .none "termcore.muxformats" 400 390
def o392 := tu []
def o393 := fl []
def o394 := tu [tS "octets" 805,tS "told" 806,tS "is_folded" 807,tS "wanted" 808,tS "looked" 809,tS "found" 810,tS "at" 811,tS "place" 812]
def o395 := tu []
def o396 := f0 (pa 80) "format_replaced" "format_replaced"
def o397 := c3 "format_replaced" "format_replaced" 802 388 2 3 392 true 393 394 395 396 813
def o398 := fu (pa 80) "format_replaced" "format_replaced" .none "termcore.muxformats" 400 397
def o399 := tu []
def o400 := fl []
def o401 := tu [tS "octets" 819,tS "found" 820,tS "at" 821,tS "end" 822]
def o402 := tu []
def o403 := f0 (pa 81) "format_pieces" "format_pieces"
def o404 := c3 "format_pieces" "format_pieces" 816 400 1 3 399 true 400 401 402 403 823
def o405 := fu (pa 81) "format_pieces" "format_pieces" .none "termcore.muxformats" 400 404
def o406 := tu []
def o407 := fl []
def o408 := f0 (pa 82) "format_width" "format_width"
def o409 := co "format_width" "format_width" 826 416 1 3 406 true 407 .none .none .none (tR 408) 829
def o410 := fu (pa 82) "format_width" "format_width" .none "termcore.muxformats" 400 409
def o411 := tu []
def o412 := fl []
def o413 := f0 (pa 83) "format_cut" "format_cut"
def o414 := co "format_cut" "format_cut" 832 418 3 3 411 true 412 .none .none .none (tR 413) 835
def o415 := fu (pa 83) "format_cut" "format_cut" .none "termcore.muxformats" 400 414
def o416 := tu []
def o417 := fl []
def o418 := tu [tS "octets" 841,tS "told" 842,tS "most" 843,tS "many" 844,tS "sign" 845,tS "found" 846]
def o419 := tu []
def o420 := f0 (pa 84) "format_limited" "format_limited"
def o421 := c3 "format_limited" "format_limited" 838 428 2 3 416 true 417 418 419 420 847
def o422 := fu (pa 84) "format_limited" "format_limited" .none "termcore.muxformats" 400 421
def o423 := tu []
def o424 := fl []
def o425 := tu [tS "octets" 853,tS "told" 854,tS "width" 855,tS "blanks" 856]
def o426 := tu []
def o427 := f0 (pa 85) "format_filled" "format_filled"
def o428 := c3 "format_filled" "format_filled" 850 438 2 3 423 true 424 425 426 427 857
def o429 := fu (pa 85) "format_filled" "format_filled" .none "termcore.muxformats" 400 428
def o430 := tu []
def o431 := fl []
def o432 := tu [tS "octets" 863,tS "found" 864,tS "one" 865,tS "limit" 866,tS "fill" 867,tS "count" 868]
def o433 := tu []
def o434 := f0 (pa 86) "format_finished" "format_finished"
def o435 := c3 "format_finished" "format_finished" 860 444 2 3 430 true 431 432 433 434 869
def o436 := fu (pa 86) "format_finished" "format_finished" .none "termcore.muxformats" 400 435
def o437 := tu [.bytes #[97,108,105,103,110] 876,.bytes #[102,105,108,108] 877,.bytes #[108,105,115,116] 878,.bytes #[114,97,110,103,101] 879]
def o438 := tu [.bytes #[110,111,108,105,115,116] 881,.bytes #[110,111,114,97,110,103,101] 882,.bytes #[110,111,97,108,105,103,110] 883,.bytes #[112,117,115,104,45,100,101,102,97,117,108,116] 884,.bytes #[112,111,112,45,100,101,102,97,117,108,116] 885,.bytes #[105,103,110,111,114,101] 886,.bytes #[110,111,105,103,110,111,114,101] 887]
def o439 := tu []
def o440 : Obj := ⟨(tT "builtin_function_or_method"),none,(.fields #[(.builtin "type.__prepare__"),(tT "type")]),#[]⟩
def o441 (P : Params) := di (tT "dict") [tes P "__module__" 896 (tS "termcore.muxoptions" 872),tes P "__qualname__" 898 (tS "OptionKind" 897),tes P "__firstlineno__" 900 (.int 462 899),tr P "__init__" 911 454,tr P "__static_attributes__" 916 455] 5
def o442 := tu []
def o443 := fl [tI 464,tI 4,tR 453]
def o444 := c0 "OptionKind" "OptionKind" 891 462 0 0 442 false 443 894
def o445 : Obj := ⟨(tT "frame"),none,.plain,#[(some (tR 444)),(some (tR 3)),(some (tR 441)),none,(some (tS "termcore.muxoptions" 872)),none,(some (tR 0))]⟩
def o446 := tu []
def o447 := tu [tR 446]
def o448 := tu []
def o449 := fl []
def o450 := tu [tS "self" 904,tS "kind" 905,tS "scope" 906,tS "first" 907,tS "bounds" 908]
def o451 := tu []
def o452 := f0 (pc 91 0) "__init__" "OptionKind.__init__"
def o453 := c3 "__init__" "OptionKind.__init__" 901 464 5 3 448 true 449 450 451 452 909
def o454 := fu (pc 91 0) "__init__" "OptionKind.__init__" (tR 447) "termcore.muxoptions" 872 453
def o455 := tu [tS "bounds" 912,tS "first" 913,tS "kind" 914,tS "scope" 915]
def o456 (P : Params) := di (tT "dict") [tes P "__module__" 896 (tS "termcore.muxoptions" 872),tes P "__firstlineno__" 900 (.int 462 899),tr P "__init__" 911 454,tr P "__static_attributes__" 916 455,tr P "__dict__" 918 458,tr P "__weakref__" 920 459,tes P "__doc__" 921 .none] 4
def o457 : Obj := ⟨(tT "type"),none,(.cls (tmc (Str.ofString "OptionKind") [(tT "object")] [(tR 457),(tT "object")] 456 (Str.ofString "OptionKind") true [] [] false none false)),#[none,none,(some (tS "OptionKind" 889)),(some (tS "OptionKind" 897)),(some (.builtin "object.__new__")),(some (.bool true))]⟩
def o458 : Obj := ⟨(tT "getset_descriptor"),none,(.fields #[(tS "__dict__" 917),(tR 457),(.builtin "function.__dict__"),(.builtin "function.__dict__#set")]),#[]⟩
def o459 : Obj := ⟨(tT "getset_descriptor"),none,(.fields #[(tS "__weakref__" 919),(tR 457),(.builtin "ExceptionGroup.__weakref__"),.none]),#[]⟩
def o460 : Obj := ⟨(tT "super"),none,(.fields #[(tR 457),(tR 457),(tR 457)]),#[]⟩
def o461 : Obj := ⟨(tT "builtin_function_or_method"),none,(.fields #[(.builtin "object.__init_subclass__"),(tR 457)]),#[]⟩
def o462 := tu []
def o463 := fl []
def o464 := tu [tS "name" 927]
def o465 := tu []
def o466 := f0 (pa 92) "option_is_own" "option_is_own"
def o467 := c3 "option_is_own" "option_is_own" 924 469 1 3 462 true 463 464 465 466 928
def o468 := fu (pa 92) "option_is_own" "option_is_own" .none "termcore.muxoptions" 872 467
def o469 := tu []
def o470 := fl []
def o471 := tu [tS "octets" 934,tS "start" 935,tS "place" 936]
def o472 := tu []
def o473 := f0 (pa 93) "option_split" "option_split"
def o474 := c3 "option_split" "option_split" 931 471 1 3 469 true 470 471 472 473 937
def o475 := fu (pa 93) "option_split" "option_split" .none "termcore.muxoptions" 872 474
def o476 := tu []
def o477 := fl []
def o478 := f0 (pa 94) "option_name" "option_name"
def o479 := co "option_name" "option_name" 940 479 2 3 476 true 477 .none .none .none (tR 478) 943
def o480 := fu (pa 94) "option_name" "option_name" .none "termcore.muxoptions" 872 479
def o481 := tu []
def o482 := fl []
def o483 := tu [tS "table" 949,tS "name" 950]
def o484 := tu []
def o485 := f0 (pa 95) "option_kind" "option_kind"
def o486 := c3 "option_kind" "option_kind" 946 486 2 3 481 true 482 483 484 485 951
def o487 := fu (pa 95) "option_kind" "option_kind" .none "termcore.muxoptions" 872 486
def o488 := tu []
def o489 := fl []
def o490 := tu [tS "kind" 957,tS "scope" 958]
def o491 := tu []
def o492 := f0 (pa 96) "option_fits" "option_fits"
def o493 := c3 "option_fits" "option_fits" 954 488 2 3 488 true 489 490 491 492 959
def o494 := fu (pa 96) "option_fits" "option_fits" .none "termcore.muxoptions" 872 493
def o495 := tu []
def o496 : Obj := ⟨(tT "builtin_function_or_method"),none,(.fields #[(.builtin "type.__prepare__"),(tT "type")]),#[]⟩
def o497 (P : Params) := di (tT "dict") [tes P "__module__" 969 (tS "termcore.muxoptions" 872),tes P "__qualname__" 971 (tS "Options" 970),tes P "__firstlineno__" 973 (.int 490 972),tr P "__init__" 983 509,tr P "get" 993 516,tr P "set" 1006 524,tr P "unset" 1014 531,tr P "__static_attributes__" 1019 532] 8
def o498 := tu []
def o499 := fl [tI 492,tI 4,tR 508,tI 498,tI 4,tR 515,tI 509,tI 4,tR 523,tI 521,tI 4,tR 530]
def o500 := c0 "Options" "Options" 964 490 0 0 498 false 499 967
def o501 : Obj := ⟨(tT "frame"),none,.plain,#[(some (tR 500)),(some (tR 3)),(some (tR 497)),none,(some (tS "termcore.muxoptions" 872)),none,(some (tR 0))]⟩
def o502 := tu [.none]
def o503 := tu []
def o504 := fl []
def o505 := tu [tS "self" 977,tS "table" 978,tS "scope" 979,tS "parent" 980]
def o506 := tu []
def o507 := f0 (pc 97 0) "__init__" "Options.__init__"
def o508 := c3 "__init__" "Options.__init__" 974 492 4 3 503 true 504 505 506 507 981
def o509 := fu (pc 97 0) "__init__" "Options.__init__" (tR 502) "termcore.muxoptions" 872 508
def o510 := tu []
def o511 := fl []
def o512 := tu [tS "self" 987,tS "octets" 988,tS "name" 989,tS "here" 990]
def o513 := tu []
def o514 := f0 (pc 97 1) "get" "Options.get"
def o515 := c3 "get" "Options.get" 984 498 2 3 510 true 511 512 513 514 991
def o516 := fu (pc 97 1) "get" "Options.get" .none "termcore.muxoptions" 872 515
def o517 := tu [.none]
def o518 := tu []
def o519 := fl []
def o520 := tu [tS "self" 997,tS "octets" 998,tS "value" 999,tS "name" 1000,tS "place" 1001,tS "kind" 1002,tS "told" 1003]
def o521 := tu []
def o522 := f0 (pc 97 2) "set" "Options.set"
def o523 := c3 "set" "Options.set" 994 509 3 3 518 true 519 520 521 522 1004
def o524 := fu (pc 97 2) "set" "Options.set" (tR 517) "termcore.muxoptions" 872 523
def o525 := tu []
def o526 := fl []
def o527 := tu [tS "self" 1010,tS "octets" 1011]
def o528 := tu []
def o529 := f0 (pc 97 3) "unset" "Options.unset"
def o530 := c3 "unset" "Options.unset" 1007 521 2 3 525 true 526 527 528 529 1012
def o531 := fu (pc 97 3) "unset" "Options.unset" .none "termcore.muxoptions" 872 530
def o532 := tu [tS "parent" 1015,tS "scope" 1016,tS "table" 1017,tS "values" 1018]
def o533 (P : Params) := di (tT "dict") [tes P "__module__" 969 (tS "termcore.muxoptions" 872),tes P "__firstlineno__" 973 (.int 490 972),tr P "__init__" 983 509,tr P "get" 993 516,tr P "set" 1006 524,tr P "unset" 1014 531,tr P "__static_attributes__" 1019 532,tr P "__dict__" 1021 535,tr P "__weakref__" 1023 536,tes P "__doc__" 1024 .none] 4
def o534 : Obj := ⟨(tT "type"),none,(.cls (tmc (Str.ofString "Options") [(tT "object")] [(tR 534),(tT "object")] 533 (Str.ofString "Options") true [] [] false none false)),#[none,none,(some (tS "Options" 962)),(some (tS "Options" 970)),(some (.builtin "object.__new__")),(some (.bool true))]⟩
def o535 : Obj := ⟨(tT "getset_descriptor"),none,(.fields #[(tS "__dict__" 1020),(tR 534),(.builtin "function.__dict__"),(.builtin "function.__dict__#set")]),#[]⟩
def o536 : Obj := ⟨(tT "getset_descriptor"),none,(.fields #[(tS "__weakref__" 1022),(tR 534),(.builtin "ExceptionGroup.__weakref__"),.none]),#[]⟩
def o537 : Obj := ⟨(tT "super"),none,(.fields #[(tR 534),(tR 534),(tR 534)]),#[]⟩
def o538 : Obj := ⟨(tT "builtin_function_or_method"),none,(.fields #[(.builtin "object.__init_subclass__"),(tR 534)]),#[]⟩
def o539 := tu []
def o540 := fl []
def o541 := tu [tS "options" 1030,tS "octets" 1031,tS "word" 1032,tS "place" 1033,tS "name" 1034,tS "kind" 1035]
def o542 := tu []
def o543 := f0 (pa 98) "option_place" "option_place"
def o544 := c3 "option_place" "option_place" 1027 523 2 3 539 true 540 541 542 543 1036
def o545 := fu (pa 98) "option_place" "option_place" .none "termcore.muxoptions" 872 544
def o546 := tu []
def o547 := fl []
def o548 := tu [tS "name" 1042,tS "kind" 1043,tS "value" 1044,tS "is_on" 1045,tS "number" 1046,tS "is_bad" 1047]
def o549 := tu []
def o550 := f0 (pa 99) "option_read" "option_read"
def o551 := c3 "option_read" "option_read" 1039 530 4 3 546 true 547 548 549 550 1048
def o552 := fu (pa 99) "option_read" "option_read" .none "termcore.muxoptions" 872 551
def o553 := tu []
def o554 := fl []
def o555 := tu [tS "known" 1054,tS "place" 1055,tS "value" 1056,tS "found" 1057]
def o556 := tu []
def o557 := f0 (pa 100) "option_array_set" "option_array_set"
def o558 := c3 "option_array_set" "option_array_set" 1051 550 3 3 553 true 554 555 556 557 1058
def o559 := fu (pa 100) "option_array_set" "option_array_set" .none "termcore.muxoptions" 872 558
def o560 := tu []
def o561 := fl []
def o562 := tu [tS "value" 1064,tS "known" 1065,tS "found" 1066,tS "free" 1067,tS "part" 1068]
def o563 := tu []
def o564 := f0 (pa 101) "option_array_of" "option_array_of"
def o565 := c3 "option_array_of" "option_array_of" 1061 556 2 3 560 true 561 562 563 564 1069
def o566 := fu (pa 101) "option_array_of" "option_array_of" .none "termcore.muxoptions" 872 565
def o567 := tu []
def o568 := fl []
def o569 := tu []
def o570 := tu []
def o571 := f0 (pa 102) "style_names" "style_names"
def o572 := c3 "style_names" "style_names" 1072 564 0 3 567 true 568 569 570 571 1075
def o573 := fu (pa 102) "style_names" "style_names" .none "termcore.muxoptions" 872 572
def o574 := tu []
def o575 := fl []
def o576 := f0 (pa 103) "style_colour" "style_colour"
def o577 := co "style_colour" "style_colour" 1078 566 1 3 574 true 575 .none .none .none (tR 576) 1081
def o578 := fu (pa 103) "style_colour" "style_colour" .none "termcore.muxoptions" 872 577
def o579 := tu []
def o580 := fl []
def o581 := tu []
def o582 := tu []
def o583 := f0 (pa 104) "style_bits" "style_bits"
def o584 := c3 "style_bits" "style_bits" 1084 584 0 3 579 true 580 581 582 583 1087
def o585 := fu (pa 104) "style_bits" "style_bits" .none "termcore.muxoptions" 872 584
def o586 := tu []
def o587 := fl []
def o588 := tu []
def o589 := tu []
def o590 := f0 (pa 105) "style_unders" "style_unders"
def o591 := c3 "style_unders" "style_unders" 1090 586 0 3 586 true 587 588 589 590 1093
def o592 := fu (pa 105) "style_unders" "style_unders" .none "termcore.muxoptions" 872 591
def o593 := tu []
def o594 := fl []
def o595 := tu [tS "word" 1099,tS "start" 1100,tS "name" 1101,tS "value" 1102,tS "colour" 1103,tS "is_let" 1104,tS "bare" 1105,tS "is_known" 1106]
def o596 := tu []
def o597 := f0 (pa 106) "style_part" "style_part"
def o598 := c3 "style_part" "style_part" 1096 588 1 3 593 true 594 595 596 597 1107
def o599 := fu (pa 106) "style_part" "style_part" .none "termcore.muxoptions" 872 598
def o600 := tu []
def o601 := fl []
def o602 := tu [tS "octets" 1113,tS "found" 1114,tS "word" 1115,tS "part" 1116]
def o603 := tu []
def o604 := f0 (pa 107) "style_parts" "style_parts"
def o605 := c3 "style_parts" "style_parts" 1110 604 1 3 600 true 601 602 603 604 1117
def o606 := fu (pa 107) "style_parts" "style_parts" .none "termcore.muxoptions" 872 605
def o607 := tu []
def o608 := fl []
def o609 := tu [tS "pen" 1123,tS "word" 1124,tS "is_off" 1125,tS "bare" 1126,tS "bit" 1127]
def o610 := tu []
def o611 := f0 (pa 108) "style_word_over" "style_word_over"
def o612 := c3 "style_word_over" "style_word_over" 1120 613 2 3 607 true 608 609 610 611 1128
def o613 := fu (pa 108) "style_word_over" "style_word_over" .none "termcore.muxoptions" 872 612
def o614 := tu [tR 22]
def o615 := tu []
def o616 := fl []
def o617 := tu [tS "pen" 1134,tS "parts" 1135,tS "base" 1136,tS "places" 1137,tS "word" 1138,tS "value" 1139]
def o618 := tu []
def o619 := f0 (pa 109) "style_over" "style_over"
def o620 := c3 "style_over" "style_over" 1131 620 3 3 615 true 616 617 618 619 1140
def o621 := fu (pa 109) "style_over" "style_over" (tR 614) "termcore.muxoptions" 872 620
def o622 := tu []
def o623 := fl []
def o624 := tu [tS "octet" 1154]
def o625 := tu []
def o626 := f0 (pa 114) "sign_lead" "sign_lead"
def o627 := c3 "sign_lead" "sign_lead" 1151 636 1 3 622 true 623 624 625 626 1155
def o628 := fu (pa 114) "sign_lead" "sign_lead" .none "termcore.utf8in" 1143 627
def o629 := tu []
def o630 : Obj := ⟨(tT "builtin_function_or_method"),none,(.fields #[(.builtin "type.__prepare__"),(tT "type")]),#[]⟩
def o631 (P : Params) := di (tT "dict") [tes P "__module__" 1165 (tS "termcore.utf8in" 1143),tes P "__qualname__" 1167 (tS "SignReader" 1166),tes P "__firstlineno__" 1169 (.int 644 1168),tr P "__init__" 1177 643,tr P "feed" 1187 650,tr P "begin" 1197 657,tr P "go_on" 1206 664,tr P "rest" 1214 671,tr P "is_empty" 1221 678,tr P "switch" 1229 685,tr P "same_as" 1237 692,tr P "__static_attributes__" 1243 693] 12
def o632 := tu []
def o633 := fl [tI 646,tI 4,tR 642,tI 653,tI 4,tR 649,tI 666,tI 4,tR 656,tI 674,tI 4,tR 663,tI 681,tI 4,tR 670,tI 686,tI 4,tR 677,tI 689,tI 4,tR 684,tI 692,tI 4,tR 691]
def o634 := c0 "SignReader" "SignReader" 1160 644 0 0 632 false 633 1163
def o635 : Obj := ⟨(tT "frame"),none,.plain,#[(some (tR 634)),(some (tR 3)),(some (tR 631)),none,(some (tS "termcore.utf8in" 1143)),none,(some (tR 0))]⟩
def o636 := tu [.bool true]
def o637 := tu []
def o638 := fl []
def o639 := tu [tS "self" 1173,tS "is_utf8" 1174]
def o640 := tu []
def o641 := f0 (pc 115 0) "__init__" "SignReader.__init__"
def o642 := c3 "__init__" "SignReader.__init__" 1170 646 2 3 637 true 638 639 640 641 1175
def o643 := fu (pc 115 0) "__init__" "SignReader.__init__" (tR 636) "termcore.utf8in" 1143 642
def o644 := tu []
def o645 := fl []
def o646 := tu [tS "self" 1181,tS "octets" 1182,tS "found" 1183,tS "octet" 1184]
def o647 := tu []
def o648 := f0 (pc 115 1) "feed" "SignReader.feed"
def o649 := c3 "feed" "SignReader.feed" 1178 653 2 3 644 true 645 646 647 648 1185
def o650 := fu (pc 115 1) "feed" "SignReader.feed" .none "termcore.utf8in" 1143 649
def o651 := tu []
def o652 := fl []
def o653 := tu [tS "self" 1191,tS "octet" 1192,tS "found" 1193,tS "lead" 1194]
def o654 := tu []
def o655 := f0 (pc 115 2) "begin" "SignReader.begin"
def o656 := c3 "begin" "SignReader.begin" 1188 666 3 3 651 true 652 653 654 655 1195
def o657 := fu (pc 115 2) "begin" "SignReader.begin" .none "termcore.utf8in" 1143 656
def o658 := tu []
def o659 := fl []
def o660 := tu [tS "self" 1201,tS "octet" 1202,tS "found" 1203]
def o661 := tu []
def o662 := f0 (pc 115 3) "go_on" "SignReader.go_on"
def o663 := c3 "go_on" "SignReader.go_on" 1198 674 3 3 658 true 659 660 661 662 1204
def o664 := fu (pc 115 3) "go_on" "SignReader.go_on" .none "termcore.utf8in" 1143 663
def o665 := tu []
def o666 := fl []
def o667 := tu [tS "self" 1210,tS "found" 1211]
def o668 := tu []
def o669 := f0 (pc 115 4) "rest" "SignReader.rest"
def o670 := c3 "rest" "SignReader.rest" 1207 681 1 3 665 true 666 667 668 669 1212
def o671 := fu (pc 115 4) "rest" "SignReader.rest" .none "termcore.utf8in" 1143 670
def o672 := tu []
def o673 := fl []
def o674 := tu [tS "self" 1218]
def o675 := tu []
def o676 := f0 (pc 115 5) "is_empty" "SignReader.is_empty"
def o677 := c3 "is_empty" "SignReader.is_empty" 1215 686 1 3 672 true 673 674 675 676 1219
def o678 := fu (pc 115 5) "is_empty" "SignReader.is_empty" .none "termcore.utf8in" 1143 677
def o679 := tu []
def o680 := fl []
def o681 := tu [tS "self" 1225,tS "is_utf8" 1226]
def o682 := tu []
def o683 := f0 (pc 115 6) "switch" "SignReader.switch"
def o684 := c3 "switch" "SignReader.switch" 1222 689 2 3 679 true 680 681 682 683 1227
def o685 := fu (pc 115 6) "switch" "SignReader.switch" .none "termcore.utf8in" 1143 684
def o686 := tu []
def o687 := fl []
def o688 := tu [tS "self" 1233,tS "other" 1234]
def o689 := tu []
def o690 := f0 (pc 115 7) "same_as" "SignReader.same_as"
def o691 := c3 "same_as" "SignReader.same_as" 1230 692 2 3 686 true 687 688 689 690 1235
def o692 := fu (pc 115 7) "same_as" "SignReader.same_as" .none "termcore.utf8in" 1143 691
def o693 := tu [tS "code" 1238,tS "high" 1239,tS "is_utf8" 1240,tS "left" 1241,tS "low" 1242]
def o694 (P : Params) := di (tT "dict") [tes P "__module__" 1165 (tS "termcore.utf8in" 1143),tes P "__firstlineno__" 1169 (.int 644 1168),tr P "__init__" 1177 643,tr P "feed" 1187 650,tr P "begin" 1197 657,tr P "go_on" 1206 664,tr P "rest" 1214 671,tr P "is_empty" 1221 678,tr P "switch" 1229 685,tr P "same_as" 1237 692,tr P "__static_attributes__" 1243 693,tr P "__dict__" 1245 696,tr P "__weakref__" 1247 697,tes P "__doc__" 1248 .none] 4
def o695 : Obj := ⟨(tT "type"),none,(.cls (tmc (Str.ofString "SignReader") [(tT "object")] [(tR 695),(tT "object")] 694 (Str.ofString "SignReader") true [] [] false none false)),#[none,none,(some (tS "SignReader" 1158)),(some (tS "SignReader" 1166)),(some (.builtin "object.__new__")),(some (.bool true))]⟩
def o696 : Obj := ⟨(tT "getset_descriptor"),none,(.fields #[(tS "__dict__" 1244),(tR 695),(.builtin "function.__dict__"),(.builtin "function.__dict__#set")]),#[]⟩
def o697 : Obj := ⟨(tT "getset_descriptor"),none,(.fields #[(tS "__weakref__" 1246),(tR 695),(.builtin "ExceptionGroup.__weakref__"),.none]),#[]⟩
def o698 : Obj := ⟨(tT "super"),none,(.fields #[(tR 695),(tR 695),(tR 695)]),#[]⟩
def o699 : Obj := ⟨(tT "builtin_function_or_method"),none,(.fields #[(.builtin "object.__init_subclass__"),(tR 695)]),#[]⟩
def o700 := tu []
def o701 := fl []
def o702 := tu [tS "octets" 1254,tS "reader" 1255]
def o703 := tu []
def o704 := f0 (pa 116) "codes_of_utf8" "codes_of_utf8"
def o705 := c3 "codes_of_utf8" "codes_of_utf8" 1251 694 1 3 700 true 701 702 703 704 1256
def o706 := fu (pa 116) "codes_of_utf8" "codes_of_utf8" .none "termcore.utf8in" 1143 705
def o707 := tu [.bytes #[108,101,102,116] 1261,.bytes #[99,101,110,116,114,101] 1262,.bytes #[114,105,103,104,116] 1263,.bytes #[97,98,115,111,108,117,116,101,45,99,101,110,116,114,101] 1264]
def o708 := tu []
def o709 := fl []
def o710 := tu [tS "cells" 1277,tS "code" 1278,tS "pen" 1279,tS "table" 1280,tS "width" 1281,tS "at" 1282,tS "codes" 1283,tS "mine" 1284,tS "is_guarded" 1285]
def o711 := tu []
def o712 := f0 (pa 123) "status_put" "status_put"
def o713 := c3 "status_put" "status_put" 1274 703 4 3 708 true 709 710 711 712 1286
def o714 := fu (pa 123) "status_put" "status_put" .none "termcore.status" 1259 713
def o715 := tu []
def o716 : Obj := ⟨(tT "builtin_function_or_method"),none,(.fields #[(.builtin "type.__prepare__"),(tT "type")]),#[]⟩
def o717 (P : Params) := di (tT "dict") [tes P "__module__" 1296 (tS "termcore.status" 1259),tes P "__qualname__" 1298 (tS "StyledText" 1297),tes P "__firstlineno__" 1300 (.int 718 1299),tr P "__init__" 1310 728,tr P "put" 1319 735,tr P "style" 1329 742,tr P "read" 1340 749,tr P "__static_attributes__" 1348 750] 8
def o718 := tu []
def o719 := fl [tI 720,tI 4,tR 727,tI 731,tI 4,tR 734,tI 735,tI 4,tR 741,tI 751,tI 4,tR 748]
def o720 := c0 "StyledText" "StyledText" 1291 718 0 0 718 false 719 1294
def o721 : Obj := ⟨(tT "frame"),none,.plain,#[(some (tR 720)),(some (tR 3)),(some (tR 717)),none,(some (tS "termcore.status" 1259)),none,(some (tR 0))]⟩
def o722 := tu []
def o723 := fl []
def o724 := tu [tS "self" 1304,tS "base" 1305,tS "table" 1306,tS "align" 1307]
def o725 := tu []
def o726 := f0 (pc 124 0) "__init__" "StyledText.__init__"
def o727 := c3 "__init__" "StyledText.__init__" 1301 720 3 3 722 true 723 724 725 726 1308
def o728 := fu (pc 124 0) "__init__" "StyledText.__init__" .none "termcore.status" 1259 727
def o729 := tu []
def o730 := fl []
def o731 := tu [tS "self" 1314,tS "octets" 1315,tS "code" 1316]
def o732 := tu []
def o733 := f0 (pc 124 1) "put" "StyledText.put"
def o734 := c3 "put" "StyledText.put" 1311 731 2 3 729 true 730 731 732 733 1317
def o735 := fu (pc 124 1) "put" "StyledText.put" .none "termcore.status" 1259 734
def o736 := tu []
def o737 := fl []
def o738 := tu [tS "self" 1323,tS "parts" 1324,tS "word" 1325,tS "value" 1326]
def o739 := tu []
def o740 := f0 (pc 124 2) "style" "StyledText.style"
def o741 := c3 "style" "StyledText.style" 1320 735 2 3 736 true 737 738 739 740 1327
def o742 := fu (pc 124 2) "style" "StyledText.style" .none "termcore.status" 1259 741
def o743 := tu []
def o744 := fl []
def o745 := tu [tS "self" 1333,tS "octets" 1334,tS "is_sign" 1335,tS "part" 1336,tS "parts" 1337]
def o746 := tu []
def o747 := f0 (pc 124 3) "read" "StyledText.read"
def o748 := c3 "read" "StyledText.read" 1330 751 2 3 743 true 744 745 746 747 1338
def o749 := fu (pc 124 3) "read" "StyledText.read" .none "termcore.status" 1259 748
def o750 := tu [tS "align" 1341,tS "aside" 1342,tS "base" 1343,tS "cells" 1344,tS "fill" 1345,tS "pen" 1346,tS "table" 1347]
def o751 (P : Params) := di (tT "dict") [tes P "__module__" 1296 (tS "termcore.status" 1259),tes P "__firstlineno__" 1300 (.int 718 1299),tr P "__init__" 1310 728,tr P "put" 1319 735,tr P "style" 1329 742,tr P "read" 1340 749,tr P "__static_attributes__" 1348 750,tr P "__dict__" 1350 753,tr P "__weakref__" 1352 754,tes P "__doc__" 1353 .none] 4
def o752 : Obj := ⟨(tT "type"),none,(.cls (tmc (Str.ofString "StyledText") [(tT "object")] [(tR 752),(tT "object")] 751 (Str.ofString "StyledText") true [] [] false none false)),#[none,none,(some (tS "StyledText" 1289)),(some (tS "StyledText" 1297)),(some (.builtin "object.__new__")),(some (.bool true))]⟩
def o753 : Obj := ⟨(tT "getset_descriptor"),none,(.fields #[(tS "__dict__" 1349),(tR 752),(.builtin "function.__dict__"),(.builtin "function.__dict__#set")]),#[]⟩
def o754 : Obj := ⟨(tT "getset_descriptor"),none,(.fields #[(tS "__weakref__" 1351),(tR 752),(.builtin "ExceptionGroup.__weakref__"),.none]),#[]⟩
def o755 : Obj := ⟨(tT "super"),none,(.fields #[(tR 752),(tR 752),(tR 752)]),#[]⟩
def o756 : Obj := ⟨(tT "builtin_function_or_method"),none,(.fields #[(.builtin "object.__init_subclass__"),(tR 752)]),#[]⟩
def o757 := tu []
def o758 := fl []
def o759 := tu [tS "octets" 1359,tS "pen" 1360,tS "table" 1361,tS "text" 1362,tS "found" 1363,tS "align" 1364]
def o760 := tu []
def o761 := f0 (pa 125) "styled_cells" "styled_cells"
def o762 := c3 "styled_cells" "styled_cells" 1356 758 3 3 757 true 758 759 760 761 1365
def o763 := fu (pa 125) "styled_cells" "styled_cells" .none "termcore.status" 1259 762
def o764 := tu []
def o765 := fl []
def o766 := tu [tS "options" 1371,tS "name" 1372,tS "base" 1373,tS "parts" 1374]
def o767 := tu []
def o768 := f0 (pa 126) "styled_pen" "styled_pen"
def o769 := c3 "styled_pen" "styled_pen" 1368 765 3 3 764 true 765 766 767 768 1375
def o770 := fu (pa 126) "styled_pen" "styled_pen" .none "termcore.status" 1259 769
def o771 := tu []
def o772 := fl []
def o773 := tu [tS "octets" 1381,tS "facts" 1382]
def o774 := tu []
def o775 := f0 (pa 127) "status_expanded" "status_expanded"
def o776 := c3 "status_expanded" "status_expanded" 1378 768 2 3 771 true 772 773 774 775 1383
def o777 := fu (pa 127) "status_expanded" "status_expanded" .none "termcore.status" 1259 776
def o778 := tu []
def o779 := fl []
def o780 := f0 (pa 128) "status_blanks" "status_blanks"
def o781 := co "status_blanks" "status_blanks" 1386 773 2 3 778 true 779 .none .none .none (tR 780) 1389
def o782 := fu (pa 128) "status_blanks" "status_blanks" .none "termcore.status" 1259 781
def o783 := tu []
def o784 := fl []
def o785 := tu [tS "cells" 1395,tS "most" 1396]
def o786 := tu []
def o787 := f0 (pa 129) "status_cut" "status_cut"
def o788 := c3 "status_cut" "status_cut" 1392 775 2 3 783 true 784 785 786 787 1397
def o789 := fu (pa 129) "status_cut" "status_cut" .none "termcore.status" 1259 788
def o790 := tu []
def o791 := fl []
def o792 := tu [tS "row" 1403,tS "column" 1404,tS "cells" 1405,tS "room" 1406,tS "ahead" 1407,tS "behind" 1408]
def o793 := tu []
def o794 := f0 (pa 130) "status_laid" "status_laid"
def o795 := c3 "status_laid" "status_laid" 1400 777 3 3 790 true 791 792 793 794 1409
def o796 := fu (pa 130) "status_laid" "status_laid" .none "termcore.status" 1259 795
def o797 := tu []
def o798 : Obj := ⟨(tT "builtin_function_or_method"),none,(.fields #[(.builtin "type.__prepare__"),(tT "type")]),#[]⟩
def o799 (P : Params) := di (tT "dict") [tes P "__module__" 1419 (tS "termcore.status" 1259),tes P "__qualname__" 1421 (tS "WindowList" 1420),tes P "__firstlineno__" 1423 (.int 781 1422),tr P "__init__" 1432 810,tr P "__static_attributes__" 1435 811] 5
def o800 := tu []
def o801 := fl [tI 783,tI 4,tR 809]
def o802 := c0 "WindowList" "WindowList" 1414 781 0 0 800 false 801 1417
def o803 : Obj := ⟨(tT "frame"),none,.plain,#[(some (tR 802)),(some (tR 3)),(some (tR 799)),none,(some (tS "termcore.status" 1259)),none,(some (tR 0))]⟩
def o804 := tu []
def o805 := fl []
def o806 := tu [tS "self" 1427,tS "cells" 1428,tS "spots" 1429]
def o807 := tu []
def o808 := f0 (pc 131 0) "__init__" "WindowList.__init__"
def o809 := c3 "__init__" "WindowList.__init__" 1424 783 3 3 804 true 805 806 807 808 1430
def o810 := fu (pc 131 0) "__init__" "WindowList.__init__" .none "termcore.status" 1259 809
def o811 := tu [tS "cells" 1433,tS "spots" 1434]
def o812 (P : Params) := di (tT "dict") [tes P "__module__" 1419 (tS "termcore.status" 1259),tes P "__firstlineno__" 1423 (.int 781 1422),tr P "__init__" 1432 810,tr P "__static_attributes__" 1435 811,tr P "__dict__" 1437 814,tr P "__weakref__" 1439 815,tes P "__doc__" 1440 .none] 4
def o813 : Obj := ⟨(tT "type"),none,(.cls (tmc (Str.ofString "WindowList") [(tT "object")] [(tR 813),(tT "object")] 812 (Str.ofString "WindowList") true [] [] false none false)),#[none,none,(some (tS "WindowList" 1412)),(some (tS "WindowList" 1420)),(some (.builtin "object.__new__")),(some (.bool true))]⟩
def o814 : Obj := ⟨(tT "getset_descriptor"),none,(.fields #[(tS "__dict__" 1436),(tR 813),(.builtin "function.__dict__"),(.builtin "function.__dict__#set")]),#[]⟩
def o815 : Obj := ⟨(tT "getset_descriptor"),none,(.fields #[(tS "__weakref__" 1438),(tR 813),(.builtin "ExceptionGroup.__weakref__"),.none]),#[]⟩
def o816 : Obj := ⟨(tT "super"),none,(.fields #[(tR 813),(tR 813),(tR 813)]),#[]⟩
def o817 : Obj := ⟨(tT "builtin_function_or_method"),none,(.fields #[(.builtin "object.__init_subclass__"),(tR 813)]),#[]⟩
def o818 := tu []
def o819 := fl []
def o820 := tu [tS "windows" 1446,tS "current" 1447,tS "options" 1448,tS "table" 1449,tS "base" 1450,tS "apart" 1451,tS "cells" 1452,tS "spots" 1453,tS "number" 1454,tS "facts" 1455,tS "pen" 1456,tS "name" 1457,tS "told" 1458]
def o821 := tu []
def o822 := f0 (pa 132) "window_list" "window_list"
def o823 := c3 "window_list" "window_list" 1443 786 4 3 818 true 819 820 821 822 1459
def o824 := fu (pa 132) "window_list" "window_list" .none "termcore.status" 1259 823
def o825 := tu []
def o826 := fl []
def o827 := tu [tS "found" 1465,tS "current" 1466,tS "room" 1467,tS "start" 1468,tS "end" 1469]
def o828 := tu []
def o829 := f0 (pa 133) "window_list_offset" "window_list_offset"
def o830 := c3 "window_list_offset" "window_list_offset" 1462 802 3 3 825 true 826 827 828 829 1470
def o831 := fu (pa 133) "window_list_offset" "window_list_offset" .none "termcore.status" 1259 830
def o832 := tu []
def o833 := fl []
def o834 := tu [tS "found" 1476,tS "current" 1477,tS "room" 1478,tS "pen" 1479,tS "offset" 1480,tS "cells" 1481]
def o835 := tu []
def o836 := f0 (pa 134) "window_list_cells" "window_list_cells"
def o837 := c3 "window_list_cells" "window_list_cells" 1473 807 4 3 832 true 833 834 835 836 1482
def o838 := fu (pa 134) "window_list_cells" "window_list_cells" .none "termcore.status" 1259 837
def o839 := tu []
def o840 : Obj := ⟨(tT "builtin_function_or_method"),none,(.fields #[(.builtin "type.__prepare__"),(tT "type")]),#[]⟩
def o841 (P : Params) := di (tT "dict") [tes P "__module__" 1492 (tS "termcore.status" 1259),tes P "__qualname__" 1494 (tS "StatusPlan" 1493),tes P "__firstlineno__" 1496 (.int 817 1495),tr P "__init__" 1511 852,tr P "list_shift" 1520 859,tr P "cells" 1528 866,tr P "window_at" 1539 873,tr P "__static_attributes__" 1549 874] 8
def o842 := tu []
def o843 := fl [tI 819,tI 4,tR 851,tI 832,tI 4,tR 858,tI 840,tI 4,tR 865,tI 845,tI 4,tR 872]
def o844 := c0 "StatusPlan" "StatusPlan" 1487 817 0 0 842 false 843 1490
def o845 : Obj := ⟨(tT "frame"),none,.plain,#[(some (tR 844)),(some (tR 3)),(some (tR 841)),none,(some (tS "termcore.status" 1259)),none,(some (tR 0))]⟩
def o846 := tu []
def o847 := fl []
def o848 := tu [tS "self" 1500,tS "facts" 1501,tS "windows" 1502,tS "current" 1503,tS "options" 1504,tS "width" 1505,tS "table" 1506,tS "left" 1507,tS "right" 1508]
def o849 := tu []
def o850 := f0 (pc 135 0) "__init__" "StatusPlan.__init__"
def o851 := c3 "__init__" "StatusPlan.__init__" 1497 819 7 3 846 true 847 848 849 850 1509
def o852 := fu (pc 135 0) "__init__" "StatusPlan.__init__" .none "termcore.status" 1259 851
def o853 := tu []
def o854 := fl []
def o855 := tu [tS "self" 1515,tS "justify" 1516,tS "free" 1517]
def o856 := tu []
def o857 := f0 (pc 135 1) "list_shift" "StatusPlan.list_shift"
def o858 := c3 "list_shift" "StatusPlan.list_shift" 1512 832 2 3 853 true 854 855 856 857 1518
def o859 := fu (pc 135 1) "list_shift" "StatusPlan.list_shift" .none "termcore.status" 1259 858
def o860 := tu []
def o861 := fl []
def o862 := tu [tS "self" 1524,tS "row" 1525]
def o863 := tu []
def o864 := f0 (pc 135 2) "cells" "StatusPlan.cells"
def o865 := c3 "cells" "StatusPlan.cells" 1521 840 1 3 860 true 861 862 863 864 1526
def o866 := fu (pc 135 2) "cells" "StatusPlan.cells" .none "termcore.status" 1259 865
def o867 := tu []
def o868 := fl []
def o869 := tu [tS "self" 1532,tS "column" 1533,tS "place" 1534,tS "number" 1535,tS "spot" 1536]
def o870 := tu []
def o871 := f0 (pc 135 3) "window_at" "StatusPlan.window_at"
def o872 := c3 "window_at" "StatusPlan.window_at" 1529 845 2 3 867 true 868 869 870 871 1537
def o873 := fu (pc 135 3) "window_at" "StatusPlan.window_at" .none "termcore.status" 1259 872
def o874 := tu [tS "column" 1540,tS "current" 1541,tS "left" 1542,tS "offset" 1543,tS "pen" 1544,tS "right" 1545,tS "room" 1546,tS "width" 1547,tS "windows" 1548]
def o875 (P : Params) := di (tT "dict") [tes P "__module__" 1492 (tS "termcore.status" 1259),tes P "__firstlineno__" 1496 (.int 817 1495),tr P "__init__" 1511 852,tr P "list_shift" 1520 859,tr P "cells" 1528 866,tr P "window_at" 1539 873,tr P "__static_attributes__" 1549 874,tr P "__dict__" 1551 877,tr P "__weakref__" 1553 878,tes P "__doc__" 1554 .none] 4
def o876 : Obj := ⟨(tT "type"),none,(.cls (tmc (Str.ofString "StatusPlan") [(tT "object")] [(tR 876),(tT "object")] 875 (Str.ofString "StatusPlan") true [] [] false none false)),#[none,none,(some (tS "StatusPlan" 1485)),(some (tS "StatusPlan" 1493)),(some (.builtin "object.__new__")),(some (.bool true))]⟩
def o877 : Obj := ⟨(tT "getset_descriptor"),none,(.fields #[(tS "__dict__" 1550),(tR 876),(.builtin "function.__dict__"),(.builtin "function.__dict__#set")]),#[]⟩
def o878 : Obj := ⟨(tT "getset_descriptor"),none,(.fields #[(tS "__weakref__" 1552),(tR 876),(.builtin "ExceptionGroup.__weakref__"),.none]),#[]⟩
def o879 : Obj := ⟨(tT "super"),none,(.fields #[(tR 876),(tR 876),(tR 876)]),#[]⟩
def o880 : Obj := ⟨(tT "builtin_function_or_method"),none,(.fields #[(.builtin "object.__init_subclass__"),(tR 876)]),#[]⟩
def o881 := tu []
def o882 := fl []
def o883 := tu [tS "facts" 1560,tS "options" 1561,tS "name" 1562,tS "base" 1563,tS "table" 1564,tS "pen" 1565,tS "cells" 1566]
def o884 := tu []
def o885 := f0 (pa 136) "status_side" "status_side"
def o886 := c3 "status_side" "status_side" 1557 853 5 3 881 true 882 883 884 885 1567
def o887 := fu (pa 136) "status_side" "status_side" .none "termcore.status" 1259 886
def o888 := tu []
def o889 := fl []
def o890 := f0 (pa 137) "border_column" "border_column"
def o891 := co "border_column" "border_column" 1570 857 3 3 888 true 889 .none .none .none (tR 890) 1573
def o892 := fu (pa 137) "border_column" "border_column" .none "termcore.status" 1259 891
def o893 := tu []
def o894 := fl []
def o895 := tu [tS "ranges" 1581,tS "code" 1582,tS "low" 1583,tS "high" 1584,tS "middle" 1585]
def o896 := tu []
def o897 := f0 (pa 139) "width_in_ranges" "width_in_ranges"
def o898 := c3 "width_in_ranges" "width_in_ranges" 1578 862 2 3 893 true 894 895 896 897 1586
def o899 := fu (pa 139) "width_in_ranges" "width_in_ranges" .none "termcore.cellwidths" 1576 898
def o900 := tu []
def o901 := fl []
def o902 := tu [tS "ranges" 1592,tS "before" 1593,tS "place" 1594,tS "first" 1595,tS "last" 1596]
def o903 := tu []
def o904 := f0 (pa 140) "width_check_ranges" "width_check_ranges"
def o905 := c3 "width_check_ranges" "width_check_ranges" 1589 871 1 3 900 true 901 902 903 904 1597
def o906 := fu (pa 140) "width_check_ranges" "width_check_ranges" .none "termcore.cellwidths" 1576 905
def o907 := tu []
def o908 : Obj := ⟨(tT "builtin_function_or_method"),none,(.fields #[(.builtin "type.__prepare__"),(tT "type")]),#[]⟩
def o909 (P : Params) := di (tT "dict") [tes P "__module__" 1607 (tS "termcore.cellwidths" 1576),tes P "__qualname__" 1609 (tS "WidthTable" 1608),tes P "__firstlineno__" 1611 (.int 877 1610),tr P "__init__" 1622 920,tr P "width_of" 1630 927,tr P "is_picture" 1638 934,tr P "__static_attributes__" 1642 935] 7
def o910 := tu []
def o911 := fl [tI 879,tI 4,tR 919,tI 886,tI 4,tR 926,tI 891,tI 4,tR 933]
def o912 := c0 "WidthTable" "WidthTable" 1602 877 0 0 910 false 911 1605
def o913 : Obj := ⟨(tT "frame"),none,.plain,#[(some (tR 912)),(some (tR 3)),(some (tR 909)),none,(some (tS "termcore.cellwidths" 1576)),none,(some (tR 0))]⟩
def o914 := tu []
def o915 := fl []
def o916 := tu [tS "self" 1615,tS "wide" 1616,tS "marks" 1617,tS "joiners" 1618,tS "ranges" 1619]
def o917 := tu []
def o918 := f0 (pc 141 0) "__init__" "WidthTable.__init__"
def o919 := c3 "__init__" "WidthTable.__init__" 1612 879 4 3 914 true 915 916 917 918 1620
def o920 := fu (pc 141 0) "__init__" "WidthTable.__init__" .none "termcore.cellwidths" 1576 919
def o921 := tu []
def o922 := fl []
def o923 := tu [tS "self" 1626,tS "code" 1627]
def o924 := tu []
def o925 := f0 (pc 141 1) "width_of" "WidthTable.width_of"
def o926 := c3 "width_of" "WidthTable.width_of" 1623 886 2 3 921 true 922 923 924 925 1628
def o927 := fu (pc 141 1) "width_of" "WidthTable.width_of" .none "termcore.cellwidths" 1576 926
def o928 := tu []
def o929 := fl []
def o930 := tu [tS "self" 1634,tS "code" 1635]
def o931 := tu []
def o932 := f0 (pc 141 2) "is_picture" "WidthTable.is_picture"
def o933 := c3 "is_picture" "WidthTable.is_picture" 1631 891 2 3 928 true 929 930 931 932 1636
def o934 := fu (pc 141 2) "is_picture" "WidthTable.is_picture" .none "termcore.cellwidths" 1576 933
def o935 := tu [tS "joiners" 1639,tS "marks" 1640,tS "wide" 1641]
def o936 (P : Params) := di (tT "dict") [tes P "__module__" 1607 (tS "termcore.cellwidths" 1576),tes P "__firstlineno__" 1611 (.int 877 1610),tr P "__init__" 1622 920,tr P "width_of" 1630 927,tr P "is_picture" 1638 934,tr P "__static_attributes__" 1642 935,tr P "__dict__" 1644 938,tr P "__weakref__" 1646 939,tes P "__doc__" 1647 .none] 4
def o937 : Obj := ⟨(tT "type"),none,(.cls (tmc (Str.ofString "WidthTable") [(tT "object")] [(tR 937),(tT "object")] 936 (Str.ofString "WidthTable") true [] [] false none false)),#[none,none,(some (tS "WidthTable" 1600)),(some (tS "WidthTable" 1608)),(some (.builtin "object.__new__")),(some (.bool true))]⟩
def o938 : Obj := ⟨(tT "getset_descriptor"),none,(.fields #[(tS "__dict__" 1643),(tR 937),(.builtin "function.__dict__"),(.builtin "function.__dict__#set")]),#[]⟩
def o939 : Obj := ⟨(tT "getset_descriptor"),none,(.fields #[(tS "__weakref__" 1645),(tR 937),(.builtin "ExceptionGroup.__weakref__"),.none]),#[]⟩
def o940 : Obj := ⟨(tT "super"),none,(.fields #[(tR 937),(tR 937),(tR 937)]),#[]⟩
def o941 : Obj := ⟨(tT "builtin_function_or_method"),none,(.fields #[(.builtin "object.__init_subclass__"),(tR 937)]),#[]⟩
def o942 := tu [.bytes #[108,101,102,116] 1652,.bytes #[99,101,110,116,114,101] 1653,.bytes #[114,105,103,104,116] 1654,.bytes #[97,98,115,111,108,117,116,101,45,99,101,110,116,114,101] 1655]
def o943 := tu [.int 0 1658,.int 1 1659,.int (-1) 1661,.int (-1) 1663,.int 0 1664]
def o944 := tu [.bytes #[102,103,61,114,101,100] 1657,tR 943]
def o945 := tu [.int 0 1666,.int (-1) 1668,.int 7 1669,.int (-1) 1671,.int 0 1672]
def o946 := tu [.bytes #[98,103,61,99,111,108,111,117,114,55] 1665,tR 945]
def o947 := tu [.int 0 1674,.int (-1) 1676,.int (-1) 1678,.int (-1) 1680,.int 0 1681]
def o948 := tu [.bytes #[100,101,102,97,117,108,116] 1673,tR 947]
def o949 := tu [.int 1 1683,.int (-1) 1685,.int (-1) 1687,.int (-1) 1689,.int 0 1690]
def o950 := tu [.bytes #[98,111,108,100] 1682,tR 949]
def o951 := tu [tR 944,tR 946,tR 948,tR 950]
def o952 := tu []
def o953 := fl []
def o954 := f0 (pa 145) "_law_deck" "_law_deck"
def o955 := co "_law_deck" "_law_deck" 1692 896 1 3 952 true 953 .none .none .none (tR 954) 1695
def o956 := fu (pa 145) "_law_deck" "_law_deck" .none "law_og0289_01" 1650 955
def o957 := tu []
def o958 := fl []
def o959 := tu [tS "deck" 1701,tS "many" 1702]
def o960 := tu []
def o961 := f0 (pa 146) "_law_draw" "_law_draw"
def o962 := c3 "_law_draw" "_law_draw" 1698 901 2 3 957 true 958 959 960 961 1703
def o963 := fu (pa 146) "_law_draw" "_law_draw" .none "law_og0289_01" 1650 962
def o964 := tu []
def o965 := fl []
def o966 := tu [tS "deck" 1709,tS "many" 1710,tS "current" 1711,tS "between" 1712,tS "windows" 1713,tS "columns" 1714,tS "place" 1715,tS "is_wide" 1716,tS "size" 1717]
def o967 := tu []
def o968 := f0 (pa 147) "_law_list" "_law_list"
def o969 := c3 "_law_list" "_law_list" 1706 906 4 3 964 true 965 966 967 968 1718
def o970 := fu (pa 147) "_law_list" "_law_list" .none "law_og0289_01" 1650 969
def o971 := tu []
def o972 := fl []
def o973 := tu [tS "way" 1724,tS "room" 1725,tS "left" 1726,tS "width" 1727,tS "size" 1728,tS "free" 1729]
def o974 := tu []
def o975 := f0 (pa 148) "_law_shift" "_law_shift"
def o976 := c3 "_law_shift" "_law_shift" 1721 916 5 3 971 true 972 973 974 975 1730
def o977 := fu (pa 148) "_law_shift" "_law_shift" .none "law_og0289_01" 1650 976
def o978 := tu []
def o979 := fl []
def o980 := f0 (pa 149) "_law_row" "_law_row"
def o981 := co "_law_row" "_law_row" 1733 923 5 3 978 true 979 .none .none .none (tR 980) 1736
def o982 := fu (pa 149) "_law_row" "_law_row" .none "law_og0289_01" 1650 981
def o983 := tu []
def o984 := fl []
def o985 := f0 (pa 150) "_law_codes" "_law_codes"
def o986 := co "_law_codes" "_law_codes" 1739 936 1 3 983 true 984 .none .none .none (tR 985) 1742
def o987 := fu (pa 150) "_law_codes" "_law_codes" .none "law_og0289_01" 1650 986
def o988 := tu []
def o989 := fl []
def o990 := f0 (pa 151) "_law_border_right" "_law_border_right"
def o991 := co "_law_border_right" "_law_border_right" 1745 938 1 3 988 true 989 .none .none .none (tR 990) 1748
def o992 := fu (pa 151) "_law_border_right" "_law_border_right" .none "law_og0289_01" 1650 991
def o993 := tu []
def o994 := fl []
def o995 := tu [tS "way" 1754,tS "between" 1755,tS "texts" 1756,tS "mosts" 1757,tS "found" 1758,tS "at" 1759,tS "name" 1760]
def o996 := tu []
def o997 := f0 (pa 152) "_law_options" "_law_options"
def o998 := c3 "_law_options" "_law_options" 1751 947 4 3 993 true 994 995 996 997 1761
def o999 := fu (pa 152) "_law_options" "_law_options" .none "law_og0289_01" 1650 998
def o1000 := tu []
def o1001 := fl []
def o1002 := f0 (pa 153) "law" "law"
def o1003 := co "law" "law" 1764 959 1 3 1000 true 1001 .none .none .none (tR 1002) 1767
def o1004 := fu (pa 153) "law" "law" .none "law_og0289_01" 1650 1003
def o2b := di .none [] 0
def o3b (P : Params) := di (tT "dict") (tes P "__name__" 165 (tS "__main__" 164) :: (L3 P).take 8) 9
def o12b := fl []
def tree_b (P : Params) : BT := (nd (o0 P) (nd (o1 P) (nd (o3b P) (lf o7) (lf o11)) (nd o5 (lf o9) (lf o13))) (nd o2b (nd o4 (lf o8) (lf o12b)) (nd o6 (lf o10) (lf o14))))
def o3a (P : Params) := di (tT "dict") (tes P "__name__" 165 (tS "termcore.muxformats" 400) :: (L3 P).take 56) 57
def o12a := fl (L12.take 45)
def o3m (P : Params) := di (tT "dict") (tes P "__name__" 165 (tS "termcore.muxformats" 400) :: (L3 P).take 57) 58
def o12m := fl (L12.take 45)
def o3c (P : Params) := di (tT "dict") (tes P "__name__" 165 (tS "termcore.muxformats" 400) :: (L3 P).take 58) 59
def o12c := fl (L12.take 45)
def o3d (P : Params) := di (tT "dict") (tes P "__name__" 165 (tS "termcore.muxformats" 400) :: (L3 P).take 87) 88
def o12d := fl (L12.take 129)
def o3e (P : Params) := di (tT "dict") (tes P "__name__" 165 (tS "termcore.muxoptions" 872) :: (L3 P).take 111) 112
def o12e := fl (L12.take 192)
def o3g (P : Params) := di (tT "dict") (tes P "__name__" 165 (tS "termcore.status" 1259) :: (L3 P).take 134) 135
def o12g := fl (L12.take 237)
def z5 (P : Params) : BT := (nd (o0 P) (nd (o1 P) (nd (o3 P) (nd o7 (nd o15 (nd o31 (nd o63 (nd o127 (nd o255 (lf o511) (lf o767)) (nd o383 (lf o639) (lf o895))) (nd o191 (nd o319 (lf o575) (lf o831)) (nd o447 (lf o703) (lf o959)))) (nd o95 (nd o159 (nd o287 (lf o543) (lf (o799 P))) (nd o415 (lf o671) (lf o927))) (nd o223 (nd o351 (lf o607) (lf o863)) (nd o479 (lf o735) (lf o991))))) (nd o47 (nd o79 (nd o143 (nd o271 (lf o527) (lf o783)) (nd o399 (lf o655) (lf o911))) (nd o207 (nd o335 (lf o591) (lf o847)) (nd o463 (lf o719) (lf o975)))) (nd o111 (nd o175 (nd o303 (lf o559) (lf o815)) (nd o431 (lf o687) (lf o943))) (nd o239 (nd o367 (lf o623) (lf o879)) (nd o495 (lf (o751 P)) .nil))))) (nd o23 (nd (o39 P) (nd o71 (nd o135 (nd o263 (lf o519) (lf o775)) (nd o391 (lf o647) (lf o903))) (nd (o199 P) (nd o327 (lf o583) (lf o839)) (nd o455 (lf o711) (lf o967)))) (nd o103 (nd o167 (nd o295 (lf o551) (lf o807)) (nd o423 (lf o679) (lf o935))) (nd o231 (nd o359 (lf o615) (lf o871)) (nd o487 (lf o743) (lf o999))))) (nd o55 (nd o87 (nd o151 (nd o279 (lf o535) (lf o791)) (nd o407 (lf o663) (lf o919))) (nd o215 (nd o343 (lf o599) (lf o855)) (nd o471 (lf o727) (lf o983)))) (nd o119 (nd o183 (nd o311 (lf o567) (lf o823)) (nd o439 (lf o695) (lf o951))) (nd o247 (nd o375 (lf (o631 P)) (lf o887)) (nd o503 (lf o759) .nil)))))) (nd o11 (nd o19 (nd o35 (nd o67 (nd o131 (nd o259 (lf o515) (lf o771)) (nd o387 (lf o643) (lf o899))) (nd o195 (nd o323 (lf o579) (lf o835)) (nd o451 (lf o707) (lf o963)))) (nd o99 (nd o163 (nd o291 (lf o547) (lf o803)) (nd o419 (lf o675) (lf o931))) (nd o227 (nd o355 (lf o611) (lf o867)) (nd o483 (lf o739) (lf o995))))) (nd o51 (nd o83 (nd o147 (nd o275 (lf o531) (lf o787)) (nd o403 (lf o659) (lf o915))) (nd o211 (nd o339 (lf o595) (lf o851)) (nd o467 (lf o723) (lf o979)))) (nd o115 (nd o179 (nd o307 (lf o563) (lf o819)) (nd o435 (lf o691) (lf o947))) (nd o243 (nd o371 (lf o627) (lf o883)) (nd o499 (lf o755) .nil))))) (nd o27 (nd o43 (nd o75 (nd o139 (nd o267 (lf o523) (lf o779)) (nd o395 (lf o651) (lf o907))) (nd o203 (nd o331 (lf o587) (lf o843)) (nd o459 (lf o715) (lf o971)))) (nd o107 (nd o171 (nd o299 (lf o555) (lf o811)) (nd o427 (lf o683) (lf o939))) (nd o235 (nd o363 (lf o619) (lf (o875 P))) (nd o491 (lf o747) (lf o1003))))) (nd o59 (nd o91 (nd o155 (nd o283 (lf o539) (lf o795)) (nd o411 (lf o667) (lf o923))) (nd o219 (nd o347 (lf o603) (lf o859)) (nd o475 (lf o731) (lf o987)))) (nd o123 (nd o187 (nd o315 (lf o571) (lf o827)) (nd o443 (lf o699) (lf o955))) (nd o251 (nd o379 (lf o635) (lf o891)) (nd o507 (lf o763) .nil))))))) (nd o5 (nd o9 (nd o17 (nd o33 (nd o65 (nd o129 (nd o257 (lf o513) (lf o769)) (nd o385 (lf o641) (lf o897))) (nd o193 (nd o321 (lf o577) (lf o833)) (nd o449 (lf o705) (lf o961)))) (nd o97 (nd (o161 P) (nd o289 (lf o545) (lf o801)) (nd o417 (lf o673) (lf o929))) (nd o225 (nd o353 (lf o609) (lf o865)) (nd o481 (lf o737) (lf o993))))) (nd o49 (nd o81 (nd o145 (nd o273 (lf o529) (lf o785)) (nd o401 (lf o657) (lf o913))) (nd o209 (nd o337 (lf o593) (lf o849)) (nd o465 (lf o721) (lf o977)))) (nd o113 (nd o177 (nd o305 (lf o561) (lf o817)) (nd o433 (lf o689) (lf o945))) (nd o241 (nd o369 (lf o625) (lf o881)) (nd (o497 P) (lf o753) .nil))))) (nd (o25 P) (nd o41 (nd o73 (nd o137 (nd o265 (lf o521) (lf o777)) (nd o393 (lf o649) (lf o905))) (nd o201 (nd o329 (lf o585) (lf (o841 P))) (nd o457 (lf o713) (lf o969)))) (nd o105 (nd o169 (nd o297 (lf o553) (lf o809)) (nd o425 (lf o681) (lf o937))) (nd o233 (nd o361 (lf o617) (lf o873)) (nd o489 (lf o745) (lf o1001))))) (nd o57 (nd o89 (nd o153 (nd o281 (lf o537) (lf o793)) (nd o409 (lf o665) (lf o921))) (nd o217 (nd o345 (lf o601) (lf o857)) (nd o473 (lf o729) (lf o985)))) (nd o121 (nd o185 (nd o313 (lf o569) (lf o825)) (nd (o441 P) (lf o697) (lf o953))) (nd o249 (nd o377 (lf o633) (lf o889)) (nd o505 (lf o761) .nil)))))) (nd o13 (nd o21 (nd o37 (nd o69 (nd o133 (nd o261 (lf o517) (lf o773)) (nd o389 (lf o645) (lf o901))) (nd o197 (nd o325 (lf o581) (lf o837)) (nd o453 (lf o709) (lf o965)))) (nd o101 (nd o165 (nd o293 (lf o549) (lf o805)) (nd o421 (lf o677) (lf o933))) (nd o229 (nd o357 (lf o613) (lf o869)) (nd o485 (lf o741) (lf o997))))) (nd o53 (nd o85 (nd o149 (nd o277 (lf (o533 P)) (lf o789)) (nd o405 (lf o661) (lf o917))) (nd o213 (nd o341 (lf o597) (lf o853)) (nd o469 (lf o725) (lf o981)))) (nd o117 (nd o181 (nd o309 (lf o565) (lf o821)) (nd o437 (lf o693) (lf o949))) (nd o245 (nd o373 (lf o629) (lf o885)) (nd o501 (lf o757) .nil))))) (nd o29 (nd o45 (nd o77 (nd o141 (nd o269 (lf o525) (lf o781)) (nd o397 (lf o653) (lf (o909 P)))) (nd o205 (nd o333 (lf o589) (lf o845)) (nd o461 (lf (o717 P)) (lf o973)))) (nd o109 (nd o173 (nd o301 (lf o557) (lf o813)) (nd o429 (lf o685) (lf o941))) (nd o237 (nd o365 (lf o621) (lf o877)) (nd o493 (lf o749) .nil)))) (nd o61 (nd o93 (nd o157 (nd o285 (lf o541) (lf o797)) (nd o413 (lf o669) (lf o925))) (nd o221 (nd o349 (lf o605) (lf o861)) (nd o477 (lf o733) (lf o989)))) (nd o125 (nd o189 (nd o317 (lf o573) (lf o829)) (nd o445 (lf o701) (lf o957))) (nd o253 (nd o381 (lf o637) (lf o893)) (nd o509 (lf o765) .nil)))))))) (nd (o2 P) (nd o4 (nd o8 (nd o16 (nd o32 (nd (o64 P) (nd o128 (nd o256 (lf o512) (lf o768)) (nd o384 (lf o640) (lf o896))) (nd o192 (nd o320 (lf o576) (lf o832)) (nd o448 (lf o704) (lf o960)))) (nd o96 (nd (o160 P) (nd o288 (lf o544) (lf o800)) (nd o416 (lf o672) (lf o928))) (nd o224 (nd o352 (lf o608) (lf o864)) (nd o480 (lf o736) (lf o992))))) (nd o48 (nd o80 (nd o144 (nd o272 (lf o528) (lf o784)) (nd o400 (lf o656) (lf o912))) (nd o208 (nd o336 (lf o592) (lf o848)) (nd o464 (lf o720) (lf o976)))) (nd o112 (nd o176 (nd o304 (lf o560) (lf o816)) (nd o432 (lf o688) (lf o944))) (nd o240 (nd o368 (lf o624) (lf o880)) (nd o496 (lf o752) .nil))))) (nd o24 (nd o40 (nd o72 (nd o136 (nd o264 (lf o520) (lf o776)) (nd o392 (lf o648) (lf o904))) (nd o200 (nd o328 (lf o584) (lf o840)) (nd (o456 P) (lf o712) (lf o968)))) (nd o104 (nd o168 (nd o296 (lf o552) (lf o808)) (nd o424 (lf o680) (lf (o936 P)))) (nd o232 (nd o360 (lf o616) (lf o872)) (nd o488 (lf o744) (lf o1000))))) (nd o56 (nd o88 (nd o152 (nd o280 (lf o536) (lf o792)) (nd o408 (lf o664) (lf o920))) (nd o216 (nd o344 (lf o600) (lf o856)) (nd o472 (lf o728) (lf o984)))) (nd o120 (nd o184 (nd o312 (lf o568) (lf o824)) (nd o440 (lf o696) (lf o952))) (nd o248 (nd o376 (lf o632) (lf o888)) (nd o504 (lf o760) .nil)))))) (nd o12 (nd o20 (nd o36 (nd o68 (nd o132 (nd o260 (lf o516) (lf o772)) (nd o388 (lf o644) (lf o900))) (nd o196 (nd o324 (lf o580) (lf o836)) (nd o452 (lf o708) (lf o964)))) (nd o100 (nd o164 (nd o292 (lf o548) (lf o804)) (nd o420 (lf o676) (lf o932))) (nd o228 (nd o356 (lf o612) (lf o868)) (nd o484 (lf o740) (lf o996))))) (nd (o52 P) (nd o84 (nd o148 (nd o276 (lf o532) (lf o788)) (nd o404 (lf o660) (lf o916))) (nd (o212 P) (nd o340 (lf o596) (lf o852)) (nd o468 (lf o724) (lf o980)))) (nd o116 (nd o180 (nd o308 (lf o564) (lf o820)) (nd o436 (lf o692) (lf o948))) (nd o244 (nd o372 (lf o628) (lf o884)) (nd o500 (lf o756) .nil))))) (nd o28 (nd o44 (nd (o76 P) (nd o140 (nd o268 (lf o524) (lf o780)) (nd o396 (lf o652) (lf o908))) (nd o204 (nd o332 (lf o588) (lf o844)) (nd o460 (lf o716) (lf o972)))) (nd o108 (nd o172 (nd o300 (lf o556) (lf (o812 P))) (nd o428 (lf o684) (lf o940))) (nd o236 (nd o364 (lf o620) (lf o876)) (nd o492 (lf o748) (lf o1004))))) (nd o60 (nd o92 (nd o156 (nd o284 (lf o540) (lf o796)) (nd o412 (lf o668) (lf o924))) (nd o220 (nd o348 (lf o604) (lf o860)) (nd o476 (lf o732) (lf o988)))) (nd o124 (nd o188 (nd o316 (lf o572) (lf o828)) (nd o444 (lf o700) (lf o956))) (nd o252 (nd o380 (lf o636) (lf o892)) (nd o508 (lf o764) .nil))))))) (nd o6 (nd o10 (nd o18 (nd o34 (nd o66 (nd o130 (nd o258 (lf o514) (lf o770)) (nd o386 (lf o642) (lf o898))) (nd o194 (nd o322 (lf o578) (lf o834)) (nd o450 (lf o706) (lf o962)))) (nd o98 (nd o162 (nd o290 (lf o546) (lf o802)) (nd o418 (lf o674) (lf o930))) (nd o226 (nd o354 (lf o610) (lf o866)) (nd o482 (lf o738) (lf o994))))) (nd o50 (nd o82 (nd o146 (nd o274 (lf o530) (lf o786)) (nd o402 (lf o658) (lf o914))) (nd o210 (nd o338 (lf o594) (lf o850)) (nd o466 (lf o722) (lf o978)))) (nd o114 (nd o178 (nd o306 (lf o562) (lf o818)) (nd o434 (lf o690) (lf o946))) (nd o242 (nd o370 (lf o626) (lf o882)) (nd o498 (lf o754) .nil))))) (nd o26 (nd o42 (nd o74 (nd o138 (nd o266 (lf o522) (lf o778)) (nd o394 (lf o650) (lf o906))) (nd o202 (nd o330 (lf o586) (lf o842)) (nd o458 (lf o714) (lf o970)))) (nd o106 (nd o170 (nd o298 (lf o554) (lf o810)) (nd o426 (lf o682) (lf o938))) (nd o234 (nd o362 (lf o618) (lf o874)) (nd o490 (lf o746) (lf o1002))))) (nd (o58 P) (nd o90 (nd o154 (nd o282 (lf o538) (lf o794)) (nd o410 (lf o666) (lf o922))) (nd o218 (nd o346 (lf o602) (lf o858)) (nd o474 (lf o730) (lf o986)))) (nd o122 (nd o186 (nd o314 (lf o570) (lf o826)) (nd o442 (lf o698) (lf o954))) (nd o250 (nd o378 (lf o634) (lf o890)) (nd o506 (lf o762) .nil)))))) (nd o14 (nd o22 (nd o38 (nd (o70 P) (nd o134 (nd o262 (lf o518) (lf o774)) (nd o390 (lf o646) (lf o902))) (nd o198 (nd o326 (lf o582) (lf o838)) (nd o454 (lf o710) (lf o966)))) (nd o102 (nd o166 (nd o294 (lf o550) (lf o806)) (nd o422 (lf o678) (lf o934))) (nd o230 (nd o358 (lf o614) (lf o870)) (nd o486 (lf o742) (lf o998))))) (nd o54 (nd o86 (nd o150 (nd o278 (lf o534) (lf o790)) (nd o406 (lf o662) (lf o918))) (nd o214 (nd o342 (lf o598) (lf o854)) (nd o470 (lf o726) (lf o982)))) (nd o118 (nd o182 (nd o310 (lf o566) (lf o822)) (nd o438 (lf (o694 P)) (lf o950))) (nd o246 (nd o374 (lf o630) (lf o886)) (nd o502 (lf o758) .nil))))) (nd o30 (nd (o46 P) (nd o78 (nd o142 (nd o270 (lf o526) (lf o782)) (nd o398 (lf o654) (lf o910))) (nd o206 (nd o334 (lf o590) (lf o846)) (nd o462 (lf o718) (lf o974)))) (nd o110 (nd o174 (nd o302 (lf o558) (lf o814)) (nd o430 (lf o686) (lf o942))) (nd o238 (nd o366 (lf o622) (lf o878)) (nd o494 (lf o750) .nil)))) (nd o62 (nd o94 (nd o158 (nd o286 (lf o542) (lf o798)) (nd o414 (lf o670) (lf o926))) (nd o222 (nd o350 (lf o606) (lf o862)) (nd o478 (lf o734) (lf o990)))) (nd o126 (nd o190 (nd o318 (lf o574) (lf o830)) (nd o446 (lf o702) (lf o958))) (nd o254 (nd o382 (lf o638) (lf o894)) (nd o510 (lf o766) .nil)))))))))
def EF (P : Params) : BT := ((Ao 160 1 0 (z5 P)).set 3 fun _ => (o3a P)).set 12 fun _ => o12a
def AR (P : Params) : BT := ((Ao 161 1 0 (z5 P)).set 3 fun _ => (o3m P)).set 12 fun _ => o12m
def EE (P : Params) : BT := ((Ao 162 1 0 (z5 P)).set 3 fun _ => (o3c P)).set 12 fun _ => o12c
def tree_d (P : Params) : BT := ((Ao 364 1 0 (z5 P)).set 3 fun _ => (o3d P)).set 12 fun _ => o12d
def tree_e (P : Params) : BT := ((Ao 560 1 0 (z5 P)).set 3 fun _ => (o3e P)).set 12 fun _ => o12e
def tree_g (P : Params) : BT := ((Ao 764 1 0 (z5 P)).set 3 fun _ => (o3g P)).set 12 fun _ => o12g
end
section
def qK : Env := { scope := pr.main.scope, locals := mainNs, globals := mainNs, cells := [], code := .ref 13, frame := some 14 }
def bdy : List Stmt := behindTheImports pr
def cod : Code := .body bdy qK
noncomputable abbrev p0 : Pos := ⟨0, 0, 0, 0⟩
abbrev fr0 : List Frame := [topFrame p0]
noncomputable def dr0 : Drawn := ⟨0, 0, 0, 0⟩
noncomputable def xx : Life := {}
def st (t : Params → BT) (n k : Nat) (w : World) (os : OsState) : SharedT := ⟨t w.params, n, xx, #[], dr0, k, os⟩
abbrev stb := st tree_b 15 187
abbrev sta := st EF 160 451
abbrev stc := st EE 162 471
abbrev std := st tree_d 364 762
abbrev ste := st tree_e 560 1061
abbrev stg := st tree_g 764 1368
abbrev stf := st z5 1005 1770
set_option maxHeartbeats 0
abbrev xh (w : World) (n : Nat) (s : SharedT) (l : List Stmt) (p : Pos) (s' : SharedT) (p' : Pos) : Prop :=
 segRunT treeTable pr w 11 (some (.ref 6)) 1 n s (piecesOf l qK cod p fr0) = some (.next, s', cod, p')
end
section
set_option maxHeartbeats 0
theorem pre_b (w : World) (os : OsState) : topGo treeTable pr w 11 (some (.ref 6)) 12 ⟨boot_heap w.params, #[], boot_drawn, boot_toks, os⟩ (topStub pr) = some ((stb w os).abs, ⟨denote treeTable cod, cod, p0, fr0⟩) := by
 rw [PySem.W.Fast.te15667345088766844465, PySem.W.Fast.te14364793385576792824, PySem.W.Fast.te11892475500146522536]
 kernel_rfl
theorem seg_a' (w : World) (b : Bool) (os : OsState) : xh (w.withFollow "special-get-raises" b) 1800 (stb w os) (bdy.take 45) p0 (sta w os) ⟨89, 0, 89, 7⟩ := by
 unfold xh
 rw [PySem.W.Fast.te10110043849684766642, PySem.W.Fast.te14364793385576792824]
 cases b <;> kernel_rfl
theorem seg_c1 (w : World) (os : OsState) (p : Pos) : xh w 1200 (stc w os) ((bdy.drop 47).take 29) p (std w os) ⟨346, 0, 349, 82⟩ := by
 unfold xh
 rw [PySem.W.Fast.te10110043849684766642, PySem.W.Fast.te14364793385576792824]
 kernel_rfl
theorem seg_c2 (w : World) (os : OsState) : xh w 1300 (std w os) ((bdy.drop 76).take 25) ⟨346, 0, 349, 82⟩ (ste w os) ⟨550, 0, 555, 37⟩ := by
 unfold xh
 rw [PySem.W.Fast.te10110043849684766642, PySem.W.Fast.te14364793385576792824]
 kernel_rfl
theorem seg_c3 (w : World) (os : OsState) : xh w 1400 (ste w os) ((bdy.drop 101).take 25) ⟨550, 0, 555, 37⟩ (stg w os) ⟨758, 0, 764, 16⟩ := by
 unfold xh
 rw [PySem.W.Fast.te10110043849684766642, PySem.W.Fast.te14364793385576792824]
 kernel_rfl
theorem seg_c4 (w : World) (os : OsState) : xh w 1700 (stg w os) (bdy.drop 126) ⟨758, 0, 764, 16⟩ (stf w os) ⟨959, 0, 975, 34⟩ := by
 unfold xh
 rw [PySem.W.Fast.te10110043849684766642, PySem.W.Fast.te14364793385576792824]
 kernel_rfl
theorem fin_f (w : World) (os : OsState) : topGo treeTable pr w 11 (some (.ref 6)) 1 (stf w os).abs ⟨doneF .next, cod, ⟨959, 0, 975, 34⟩, fr0⟩ = some ((stf w os).abs, ⟨topAfter (.ok .next), .builtin "claim.caller" {}, p0, []⟩) := by
 rw [PySem.W.Fast.te15667345088766844465, PySem.W.Fast.te14364793385576792824]
 kernel_rfl
end
end
end Mine.Top
namespace Mine.Top
noncomputable section
open PySem PySem.W PyProof.Rows PySem.Calls
section
section
variable {p : Program} {w : World}
theorem Ca {n m : Nat} : ∀ {s s₁ : Shared} {t t₁ : Thread}, runN (denote table) p w n s t = .running s₁ t₁ → runN (denote table) p w (n + m) s t = runN (denote table) p w m s₁ t₁ := by
 induction n with
 | zero => intro s s₁ t t₁ h; cases h; rw [Nat.zero_add]
 | succ n ih =>
  intro s s₁ t t₁ h
  rw [Nat.succ_add]
  simp only [runN] at h ⊢
  cases hs : step (denote table) p w s t with
  | go s₂ t₂ => rw [hs] at h; simp only at h ⊢; exact ih h
  | halt o s₂ => rw [hs] at h; cases h
def qn (p : Program) (w : World) (s : Shared) (t : Thread) (s' : Shared) (t' : Thread) : Prop :=
 ∃ n t'', runN (denote table) p w n s t = .running s' t'' ∧ t''.forget = t'.forget ∧ ∀ k s₁ t₁, k < n → runN (denote table) p w k s t = .running s₁ t₁ → t₁.calm = true
theorem QH {n : Nat} {s s' : Shared} {t₁ t₂ t' : Thread} (h : runN (denote table) p w n s t₁ = .running s' t') (e : t₁.forget = t₂.forget) : ∃ s'' t'', runN (denote table) p w n s t₂ = .running s'' t'' ∧ s''.forget = s'.forget ∧ t''.forget = t'.forget := by
 have e1 := runNK_same (denote table) p w n (s₁ := s) (s₂ := s) (t₁ := t₁) (t₂ := t₁) rfl rfl
 have e2 := runNK_same (denote table) p w n (s₁ := s) (s₂ := s) (t₁ := t₁) (t₂ := t₂) rfl e
 rw [e1, h] at e2
 cases hr : runN (denote table) p w n s t₂ with
 | halted o σ => rw [hr] at e2; cases e2
 | running σ τ =>
  rw [hr] at e2
  simp only [Run.forget, Run.running.injEq] at e2
  exact ⟨σ, τ, rfl, e2.1.symm, e2.2.symm⟩
theorem qn.trans {s s₁ s₂ : Shared} {t t₁ t₂ : Thread} (x : qn p w s t s₁ t₁) (y : qn p w s₁ t₁ s₂ t₂) (g : s₂.gens = #[]) : qn p w s t s₂ t₂ := by
 obtain ⟨n, t1', h1, f1, c1⟩ := x
 obtain ⟨m, t2', h2, f2, c2⟩ := y
 obtain ⟨σ, τ, h3, e3, f3⟩ := QH h2 f1.symm
 obtain rfl := Shared.eq_of_forget_eq e3 g
 refine ⟨n + m, τ, (Ca h1).trans h3, f3.trans f2, fun k s' t' hk h => ?_⟩
 by_cases hn : k < n
 ·exact c1 k s' t' hn h
 ·obtain ⟨j, rfl⟩ : ∃ j, k = n + j := ⟨k - n, by omega⟩
  rw [Ca h1] at h
  obtain ⟨σ', τ', h', _, f'⟩ := QH h f1
  have := c2 j σ' τ' (by omega) h'
  rw [← Thread.calm_forget, f', Thread.calm_forget] at this
  exact this
theorem EG {n0 : Nat} {ann : Option Value} {n : Nat} : ∀ {s s' : Shared} {t t' : Thread}, topGo treeTable p w n0 ann n s t = some (s', t') → runN (denote table) p w n s t = .running s' t' ∧ ∀ k s₁ t₁, k < n → runN (denote table) p w k s t = .running s₁ t₁ → t₁.calm = true := by
 rw [← table_eq_tree]
 induction n with
 | zero => intro s s' t t' h; cases h; exact ⟨rfl, fun k _ _ hk => absurd hk (Nat.not_lt_zero _)⟩
 | succ n ih =>
  intro s s' t t' h
  unfold topGo at h
  cases ht : through t with
  | true => rw [ht] at h; cases h
  | false =>
   rw [ht] at h
   cases hk : stepOk n0 ann t with
   | false => rw [hk] at h; cases h
   | true =>
    rw [hk] at h
    cases hs : step (denote table) p w s t with
    | halt o s₂ => rw [hs] at h; cases h
    | go s₂ t₂ =>
     rw [hs] at h
     obtain ⟨h1, h2⟩ := ih h
     refine ⟨by simp only [runN, hs]; exact h1, fun k s₁ t₁ hlt hr => ?_⟩
     cases k with
     | zero => cases hr; exact (Bool.and_eq_true_iff.mp hk).1
     | succ k =>
      simp only [runN, hs] at hr
      exact h2 k s₁ t₁ (by omega) hr
theorem qc {n0 : Nat} {ann : Option Value} {n : Nat} {s s' : Shared} {t t' : Thread} (h : topGo treeTable p w n0 ann n s t = some (s', t')) : qn p w s t s' t' :=
 let ⟨a, b⟩ := EG h; ⟨n, t', a, rfl, b⟩
theorem EQ {n : Nat} : ∀ {s s' : Shared} {t t' : Thread}, s.asleep → runN (denote table) p w n s t = .running s' t' → (∀ k s₁ t₁, k < n → runN (denote table) p w k s t = .running s₁ t₁ → t₁.calm = true) → schedN (denote table) p w n (.single s t) = .running (.single s' t') := by
 induction n with
 | zero => intro s s' t t' _ h _; cases h; rfl
 | succ n ih =>
  intro s s' t t' hr h hc
  simp only [runN] at h
  cases hs : step (denote table) p w s t with
  | halt o s₂ => rw [hs] at h; cases h
  | go s₂ t₂ =>
   rw [hs] at h
   have c := hc 0 s t (Nat.succ_pos _) rfl
   have e : sstep (denote table) p w (.single s t) = .go (.single s₂ t₂) := by
    rcases sstep_single (denote table) p w s t c hr with e | e
    ·rw [e, hs]; rfl
    ·rw [hs] at e; cases e
   simp only [schedN, e]
   exact ih (Shared.asleep_of_life (step_life (denote table) p w s s₂ t t₂ hs) hr) h fun k s₁ t₁ hk hk' => hc (k + 1) s₁ t₁ (by omega) (by simp only [runN, hs]; exact hk')
theorem qn.life {s s' : Shared} {t t' : Thread} (x : qn p w s t s' t') : s'.heap.life = s.heap.life := by
 obtain ⟨n, t'', h, _, _⟩ := x
 exact runN_life_running h
theorem qn.sched {s s' : Shared} {t t' : Thread} (x : qn p w s t s' t') (hr : s.asleep) (ht : through t' = true) : ∃ n t'', schedN (denote table) p w n (.single s t) = .running (.single s' t'') ∧ through t'' = true := by
 obtain ⟨n, t'', h, f, c⟩ := x
 refine ⟨n, t'', EQ hr h c, ?_⟩
 obtain ⟨cur, code, pos, st⟩ := t'
 obtain ⟨cur', code', pos', st'⟩ := t''
 simp only [Thread.forget, Thread.mk.injEq] at f
 obtain ⟨rfl, rfl, rfl, f⟩ := f
 unfold through at ht ⊢
 have : st'.isEmpty = st.isEmpty := by
  cases st <;> cases st' <;> first | rfl | cases f
 rw [this]; exact ht
end

section
variable {α : Type} {tb : String → Option Builtin} {p : Program} {w : World} {n0 : Nat} {ann : Option Value} {B : List Frame} {K' : α → Sem Fin} {H' : Value → Sem Fin} {gd : Bool → Bool} {lv : List Value → List Value} {res : α → Flow}
theorem seg_now {t t' : Thread} {g : Flow} (R : Rel2 (fun a => .pure (.done (res a))) K' deadEnd H' gd lv B t t') (he : endAt B.length t = some g) : ∃ a, res a = g ∧ t' = ⟨K' a, t.code, t.pos, B⟩ := by
 obtain ⟨cur, code, pos, st⟩ := t
 obtain ⟨cur', code', pos', st'⟩ := t'
 obtain ⟨e1, e2, R⟩ := R
 cases e1
 cases e2
 rcases R with ⟨rfl, rfl, x, rfl, rfl⟩ | ⟨rfl, F⟩
 ·simp only [endAt, beq_self_eq_true] at he
  rcases x <;> first | exact nomatch (show (none : Option Flow) = some g from he) | skip
  cases (show some (res _) = some g from he)
  exact ⟨_, rfl, rfl⟩
 ·simp only [endAt, beq_eq_false_iff_ne.mpr (Nat.ne_of_gt F.longer.1)] at he
  cases he
theorem seg_key (hB : splitAtGen B = none) {s s₂ : Shared} {t t' t₂ : Thread} (R : Rel2 (fun a => .pure (.done (res a))) K' deadEnd H' gd lv B t t') (he : endAt B.length t = none) (hk : stepOk n0 ann t = true) (hs : step (denote tb) p w s t = .go s₂ t₂) :
  stepOk n0 ann t' = true ∧ through t' = false ∧ ∃ t2', step (denote tb) p w s t' = .go s₂ t2' ∧ Rel2 (fun a => .pure (.done (res a))) K' deadEnd H' gd lv B t₂ t2' := by
 obtain ⟨cur, code, pos, st⟩ := t
 obtain ⟨cur', code', pos', st'⟩ := t'
 obtain ⟨e1, e2, R⟩ := R
 cases e1
 cases e2
 rcases R with ⟨rfl, rfl, x, rfl, rfl⟩ | ⟨rfl, F⟩
 ·have hp : ∀ a, x ≠ .pure a := by
   rintro a rfl
   simp [endAt, Sem.wrap] at he
  have hr : ∀ e, x ≠ .raise e := by
   rintro e rfl
   cases hs
  exact ⟨(okOuter (K' := K') (H' := H') hp hr hk).1, (okOuter (K' := K') (H' := H') hp hr hk).2, step_outer hB hp hs⟩
 ·exact ⟨(okInner hB F hk).1, (okInner hB F hk).2, step_inner hB F hs⟩
theorem EP (hB : splitAtGen B = none) (n : Nat) (s : Shared) (t t' : Thread) (f : Flow) (s' : Shared) (c' : Code) (p' : Pos) (R : Rel2 (fun a => .pure (.done (res a))) K' deadEnd H' gd lv B t t') (h : segRun tb p w n0 ann B.length n s t = some (f, s', c', p')) :
  ∃ a m, res a = f ∧ topGo tb p w n0 ann m s t' = some (s', ⟨K' a, c', p', B⟩) := by
 induction n generalizing s t t' with
 | zero => cases h
 | succ n ih =>
  rw [segRun] at h
  cases he : endAt B.length t with
  | some g =>
   rw [he] at h
   cases h
   obtain ⟨a, ha, rfl⟩ := seg_now R he
   exact ⟨a, 0, ha, rfl⟩
  | none =>
   rw [he] at h
   cases hk : stepOk n0 ann t with
   | false => rw [hk] at h; cases h
   | true =>
    rw [hk] at h
    cases hs : step (denote tb) p w s t with
    | halt => rw [hs] at h; cases h
    | go s₂ t₂ =>
     rw [hs] at h
     obtain ⟨k1, k2, t2', k3, R'⟩ := seg_key hB R he hk hs
     obtain ⟨a, m, ha, hm⟩ := ih s₂ t₂ t2' R' h
     refine ⟨a, m + 1, ha, ?_⟩
     unfold topGo
     rw [k2, k1, k3]
     exact hm
end
theorem A8 {p : Program} {w : World} {n0 : Nat} {ann : Option Value} {env : Env} {q : Pos} {n : Nat} {s s' : Shared} {l rest : List Stmt} {c : Code} {pos p' : Pos} (h : segRun treeTable p w n0 ann 1 n s (piecesOf l env c pos [topFrame q]) = some (.next, s', c, p')) :
  qn p w s (restOf (l ++ rest) env c pos [topFrame q]) s' (restOf rest env c p' [topFrame q]) := by
 obtain ⟨a, m, ha, hm⟩ := EP (res := id) (K' := fun f => match f with | .next => (execs rest env).wrap doneF (leaveH env) id id | f => doneF f) (H' := leaveH env) (B := [topFrame q]) rfl n s (piecesOf l env c pos [topFrame q])
  ⟨(execs l env).wrap (fun f => match f with | .next => (execs rest env).wrap doneF (leaveH env) id id | f => doneF f) (leaveH env) id id, c, pos, [topFrame q]⟩ _ _ _ _ ⟨rfl, rfl, .inl ⟨rfl, rfl, _, rfl, rfl⟩⟩ h
 obtain rfl : a = .next := ha
 unfold restOf
 rw [execs_app_wrap]
 exact qc hm
end
section
def WC {α : Type} (M : Model) (Γ : Ctx) (st : List Frame) (K : α → Sem Fin) (Q : α → Pos → Shared → Prop) (s : Shared) (t : Thread) : Prop := ∃ s' p' a, Comes M s t s' ⟨K a, Γ.code, p', st⟩ ∧ Q a p' s'
theorem WC.step {α : Type} {M : Model} {Γ : Ctx} {st : List Frame} {K : α → Sem Fin} {Q : α → Pos → Shared → Prop} {s s₁ : Shared} {t t₁ : Thread} (c : WC M Γ st K Q s₁ t₁) (h : M.step s t = .go s₁ t₁) : WC M Γ st K Q s t :=
 let ⟨s', p', a, hc, hq⟩ := c; ⟨s', p', a, .step h hc, hq⟩
theorem WC.trans {α : Type} {M : Model} {Γ : Ctx} {st : List Frame} {K : α → Sem Fin} {Q : α → Pos → Shared → Prop} {s s₁ : Shared} {t t₁ : Thread} (c : WC M Γ st K Q s₁ t₁) (h : Comes M s t s₁ t₁) : WC M Γ st K Q s t :=
 let ⟨s', p', a, hc, hq⟩ := c; ⟨s', p', a, .trans h hc, hq⟩
theorem AO {M : Model} {α : Type} {Γ : Ctx} {st : List Frame} (hf : Γ.Fits st) (K : α → Sem Fin) (H : Value → Sem Fin) (m : Sem α) : ∀ (Q : α → Pos → Shared → Prop) (p : Pos) (s : Shared),
  Sem.wp M Γ m Q (fun _ _ _ => False) p s → WC M Γ st K Q s ⟨m.wrap K H id id, Γ.code, p, st⟩ := by
 induction m with
 | pure a => exact fun Q p s h => ⟨s, p, a, .refl _ _, h⟩
 | raise e => exact fun Q p s h => h.elim
 | unsupported _ => exact fun Q p s h => h.elim
 | finish _ => exact fun Q p s h => h.elim
 | register a k _ => exact fun Q p s h => h.elim
 | «yield» v g l k _ => exact fun Q p s h => h.elim
 | fork c k _ => exact fun Q p s h => h.elim
 | await a f d l k _ => exact fun Q p s h => h.elim
 | rule tag k ih => exact fun Q p s h => (ih () Q p s h).step (step_rule ..)
 | «at» p0 k ih => exact fun Q p s h => (ih () Q p0 s h).step (step_at ..)
 | load b part k ih => exact fun Q p s ⟨o, ho, h⟩ => (ih o Q p s h).step (step_load _ _ _ _ _ _ _ ho)
 | update b part g k ih => exact fun Q p s ⟨hb, h⟩ => (ih () Q p _ h).step (step_update _ _ _ _ _ _ _ _ hb)
 | loadIfAlive b k ih => exact fun Q p s h => (ih _ Q p s h).step (step_loadIfAlive ..)
 | point l k ih => exact fun Q p s h => (ih () Q p s h).step (step_point ..)
 | alloc o k ih => exact fun Q p s h => (ih _ Q p _ h).step (step_alloc ..)
 | fresh k ih => exact fun Q p s h => (ih _ Q p _ h).step (step_fresh ..)
 | ask k ih => exact fun Q p s h => (ih _ Q p s h).step (step_ask ..)
 | choose src n k ih => exact fun Q p s ⟨hn, h⟩ => (ih _ Q p _ h).step (step_choose _ _ _ _ _ _ _ hn)
 | os q l k ih => exact fun Q p s h => (ih _ Q p _ h).step (step_os ..)
 | call c h0 g l k ih =>
  intro Q p s h
  obtain ⟨r, s₁, hr, h⟩ := h
  obtain ⟨t', c', p', pre', hc1, hx⟩ := (runs_reach hr _ (hf.enter c (fun x => (k x).wrap K H id id) h0 g l p [])).comes
  obtain ⟨rfl, rfl⟩ := hx
  exact (((ih r Q p s₁ h).step (step_leaf_ret ..)).trans hc1).step (step_call ..)
 | handled own k ih =>
  intro Q p s h
  refine (ih _ Q p s h).step ?_
  show M.step s ⟨.handled own fun x => (k x).wrap K H id id, Γ.code, p, st⟩ = _
  rw [step_handled]
  cases own
  ·rw [hf.handled]; rfl
  ·rw [hf.own]; rfl
 | genState g k ih => exact fun Q p s ⟨x, hg, h⟩ => (ih _ Q p s h).step (step_genState _ _ _ _ _ _ hg)
 | newGen c k ih => exact fun Q p s h => (ih _ Q p _ h).step (step_newGen ..)
 | resume g r l k ih =>
  exact fun Q p s ⟨res, s₁, hw, h⟩ => (ih res Q p s₁ h).trans (wakes_comes hf l (fun x => (k x).wrap K H id id) hw)
 | stack k ih =>
  intro Q p s h
  refine (ih _ Q p s h).step ?_
  show M.step s ⟨.stack fun x => (k x).wrap K H id id, Γ.code, p, st⟩ = _
  rw [hf.below]; exact step_stack ..
 | thread k ih => exact fun Q p s h => (ih _ Q p s h).step (step_thread ..)
theorem JJ {p : Program} {w : World} {s s' : Shared} {t t' : Thread} (h : stepI (denote table) p w s t = .go s' t') : t.calm = true := by
 rw [Thread.calm_eq]
 cases hl : t.loud with
 | true => rw [stepI_loud _ _ _ hl] at h; cases h
 | false =>
  rw [stepI_quiet _ _ _ hl] at h
  cases hr : t.refused with
  | true => obtain ⟨x, e⟩ := stepK_refused (denote table) p w (s := s) hr; rw [e] at h; cases h
  | false => rfl
theorem BM {p : Program} {w : World} {s s' : Shared} {t t' : Thread} (h : Comes (model p w) s t s' t') (g : s'.gens = #[]) : qn p w s t s' t' := by
 obtain ⟨n, hn⟩ := h
 have hn : runNI (denote table) p w n s t = .running s' t' := hn
 have e1 := runNK_same (denote table) p w n (s₁ := s) (s₂ := s) (t₁ := t) (t₂ := t) rfl rfl
 rw [runNI_running hn] at e1
 cases hr : runN (denote table) p w n s t with
 | halted o σ => rw [hr] at e1; cases e1
 | running σ τ =>
  rw [hr] at e1
  simp only [Run.forget, Run.running.injEq] at e1
  obtain rfl := Shared.eq_of_forget_eq e1.1.symm g
  refine ⟨n, τ, hr, e1.2.symm, ?_⟩
  have calm : ∀ (n : Nat) (s : Shared) (t : Thread) {s' : Shared} {t' : Thread}, runNI (denote table) p w n s t = .running s' t' → ∀ k, k < n → ∃ s₁ t₁, runNI (denote table) p w k s t = .running s₁ t₁ ∧ t₁.calm = true := by
   intro n
   induction n with
   | zero => exact fun _ _ _ _ _ k hk => absurd hk (Nat.not_lt_zero _)
   | succ n ih =>
    intro s t s' t' h k hk
    simp only [runNI] at h
    cases hs : stepI (denote table) p w s t with
    | halt o s₂ => rw [hs] at h; cases h
    | go s₂ t₂ =>
     rw [hs] at h
     cases k with
     | zero => exact ⟨s, t, rfl, JJ hs⟩
     | succ k =>
      obtain ⟨s₁, t₁, h1, h2⟩ := ih s₂ t₂ h k (by omega)
      exact ⟨s₁, t₁, by simp only [runNI, hs]; exact h1, h2⟩
  intro k s₁ t₁ hk hk'
  obtain ⟨s₂, t₂, h2, c2⟩ := calm n s t hn k hk
  have e2 := runNK_same (denote table) p w k (s₁ := s) (s₂ := s) (t₁ := t) (t₂ := t) rfl rfl
  rw [runNI_running h2, hk'] at e2
  simp only [Run.forget, Run.running.injEq] at e2
  rw [← Thread.calm_forget, ← e2.2, Thread.calm_forget]
  exact c2
theorem Dw {p : Program} {w : World} {env : Env} {q : Pos} {s : Shared} {st : Stmt} {rest : List Stmt} {c : Code} {pos : Pos} {s' : Shared}
  (h : Sem.wp (model p w) (Ctx.of c [topFrame q]) (exec st env) (fun f _ s₁ => f = .next ∧ s₁ = s') (fun _ _ _ => False) pos s) (g : s'.gens = #[]) :
  ∃ p', qn p w s (restOf (st :: rest) env c pos [topFrame q]) s' (restOf rest env c p' [topFrame q]) := by
 obtain ⟨s₁, p', a, hc, rfl, rfl⟩ := AO (Ctx.fits_of c [topFrame q]) (fun f => match f with | .next => (execs rest env).wrap doneF (leaveH env) id id | f => doneF f) (leaveH env) (exec st env) _ pos s h
 refine ⟨p', ?_⟩
 unfold restOf
 rw [execs_cons_wrap]
 exact BM hc g
end
section
section
variable {P : Program} {w : World} {A : Around} {E : KV} {s : Shared} {env : Env}
def Yw (w : World) (b : BA) (t : Nat) (v : Value) (o : Obj) : Obj := Obj.mapDictKeys (·.push ⟨hashW w.params (.bytes b.toList), .bytes b t, v⟩) o
theorem XB {d : Addr} {es : Array DictEntry} {ep : Nat} {b : BA} {t : Nat} {v : Value} {Q : KU} (ho : s.heap.get? d = some (zZ es ep)) (hk : KeysOf (bytesKind P w) es)
  (hno : es.findIdx? (fun e => isBytes b.toList e.key) = none) (hz : es.size ≤ 100) (h : Q () { s with heap := s.heap.update d (Yw w b t v), toks := s.toks + 1 }) : wpAny (model P w) A (dictSet d (.bytes b t) v) Q E s := by
 have hkey : (bytesKind P w).is b.toList (.bytes b t) = true := by simp [bytesKind, isBytes]
 unfold dictSet
 refine wpAny_holding ?_
 refine wpAny_bind ((bytesKind P w).pyHash hkey ?_)
 unfold dictSetHashed
 refine wpAny_holding ?_
 refine wpAny_bind (wpAny_dictFind_of (s := { s with toks := s.toks + 1 }) hkey ho rfl hk ?_)
 rw [show (es.findIdx? fun e => (bytesKind P w).is b.toList e.key) = none from hno]
 refine wpAny_bind (wpAny_rule (wpAny_updateDictKeys (s := { s with toks := s.toks + 1 }) (hz := by rw [sizeLine_eq]; omega) ho rfl h))
theorem E9 {a : Addr} {o : Obj} {es : Array DictEntry} {ep : Nat} {name : Str} {v : Value} {Q : KU} (ho : s.heap.get? a = some o) (hd : o.data = .dict es ep) (hn : aRefKeyMayBeTheName name es = false)
  (h : Q () { s with heap := s.heap.update a (Obj.putName name (PyData.keyHash w.params name) (.str name s.toks) v), toks := s.toks + 1 }) : wpAny (model P w) A (nsSet a name v) Q E s := by
 intro Γ p _
 simp only [nsSet, strHash, Sem.wp_bind', Sem.wp_cmd_ask, Sem.wp_pure', Sem.wp_cmd_mkText]
 rw [Sem.wp_loadPart_of (model P w) Γ _ p { s with toks := s.toks + 1 } (o := o) _ ho]
 simp only [hd, hn, Bool.false_eq_true, if_false, Sem.wp_cmd_updatePart]
 exact ⟨by rw [ho]; rfl, h⟩

def cst (c : Const) (t : Nat) : Value := match c with
 | .str x => .str x t
 | .bytes b => .bytes b.toArray t
 | _ => .none
def jO : Const → Bool
 | .str _ => true
 | .bytes _ => true
 | _ => false
theorem jS {c : Const} (h : jO c = true) {k : Nat} {pos : Pos} {Q : KV} (hq : Q (cst c s.toks) { s with toks := s.toks + 1 }) : wpC (model P w) A (eval (.Constant c k pos) env) Q s := by
 cases c <;> first | cases h | skip
 ·exact .of (wpAny_Constant_str hq)
 ·exact .of (fun _ _ _ => hq)
def ent (w : World) (b : BA) (t : Nat) (v : Value) : DictEntry := ⟨hashW w.params (.bytes b.toList), .bytes b t, v⟩
theorem Fx (l : List DictEntry) (h : ∀ e ∈ l, ∃ b t v, e = ent w b t v) : KeysOf (bytesKind P w) l.toArray := fun e he => by
 obtain ⟨b, t, v, rfl⟩ := h e (by simpa using he)
 exact ⟨b.toList, by simp [bytesKind, isBytes, ent], rfl⟩
theorem noB {b : List UInt8} (l : List DictEntry) (h : ∀ e ∈ l, ∃ b' t v, b' ≠ b ∧ e = ent w b'.toArray t v) : (l.toArray.findIdx? fun e => isBytes b.toArray.toList e.key) = none := by
 rw [Array.findIdx?_eq_none_iff]
 intro e he
 obtain ⟨b', t, v, hn, rfl⟩ := h e (by simpa using he)
 simp [isBytes, ent, hn]
def Al (w : World) (h : Heap) (k : Nat) (a : Addr) (x : Str) (b1 b2 b3 : List UInt8) (c1 c2 c3 : Const) : Heap :=
 ((((h.push { cls := .type "dict", data := .dict #[] }).update h.objs.size (Yw w b1.toArray k (cst c1 (k + 1)))).update h.objs.size (Yw w b2.toArray (k + 2) (cst c2 (k + 3)))).update h.objs.size (Yw w b3.toArray (k + 4) (cst c3 (k + 5)))).update a
  (Obj.putName x (PyData.keyHash w.params x) (.str x (k + 9)) (.ref h.objs.size))
theorem BG {x : Str} {px dp pos : Pos} {b1 b2 b3 : List UInt8} {c1 c2 c3 : Const} {q1 q2 q3 r1 r2 r3 : Pos} {n1 n2 n3 m1 m2 m3 : Nat} {es : Array DictEntry} {ep : Nat} {o : Obj} {Q : KG}
  (hkind : env.scope.kind = .module) (hl : env.locals = env.globals) (hx : env.kindOf x = some .local) (hx' : (x == ("__debug__" : Str)) = false) (t1 : jO c1 = true) (t2 : jO c2 = true) (t3 : jO c3 = true) (h12 : b1 ≠ b2) (h13 : b1 ≠ b3) (h23 : b2 ≠ b3)
  (ho : s.heap.get? env.locals = some o) (hd : o.data = .dict es ep) (hn : aRefKeyMayBeTheName x es = false)
  (h : Q .next { s with heap := Al w s.heap s.toks env.locals x b1 b2 b3 c1 c2 c3, toks := s.toks + 10 }) :
  wpC (model P w) A (exec (.Assign [.Name x px] (.Dict [some (.Constant (.bytes b1) n1 q1), some (.Constant (.bytes b2) n2 q2), some (.Constant (.bytes b3) n3 q3)] [.Constant c1 m1 r1, .Constant c2 m2 r2, .Constant c3 m3 r3] dp) pos) env) Q s := by
 have hne : env.locals ≠ s.heap.objs.size := fun e => zn (e ▸ ho) (zS _)
 refine Jz (sw := none) ?_ rfl rfl
 refine GP rfl rfl (by simp) (Nat.le_of_ble_eq_true rfl) ?_
 refine Qq (jS rfl (zb (jS t1 (zj (zf ?_)))))
 refine Qq (jS rfl (zb (jS t2 (zj (zf ?_)))))
 refine Qq (jS rfl (zb (jS t3 (zj (zf (P_nil ?_))))))
 have g0 : (s.heap.push { cls := .type "dict", data := .dict #[] }).get? s.heap.objs.size = some (zZ #[] 0) := Heap.get?_push_size _ rfl
 have g1 := Heap.get?_update_self (Yw w b1.toArray s.toks (cst c1 (s.toks + 1))) g0 rfl
 have g2 := Heap.get?_update_self (Yw w b2.toArray (s.toks + 2) (cst c2 (s.toks + 3))) g1 rfl
 have a0 : (s.heap.push { cls := .type "dict", data := .dict #[] }).get? env.locals = some o := Heap.get?_push_of_some _ ho
 have a3 := (Heap.get?_update_ne (s.heap.push { cls := .type "dict", data := .dict #[] }) env.locals s.heap.objs.size (Yw w b1.toArray s.toks (cst c1 (s.toks + 1))) hne).trans a0
 have a3 := (Heap.get?_update_ne _ env.locals s.heap.objs.size (Yw w b2.toArray (s.toks + 2) (cst c2 (s.toks + 3))) hne).trans a3
 have a3 := (Heap.get?_update_ne _ env.locals s.heap.objs.size (Yw w b3.toArray (s.toks + 4) (cst c3 (s.toks + 5))) hne).trans a3
 dsimp only
 unfold storeAll
 rw [List.forIn_cons]
 refine wpAny_bind (wpAny_bind (XB (es := #[]) (ep := 0) g0 (Fx [] (by simp)) (by simp) (by simp) (wpAny_pure ?_)))
 dsimp only
 rw [List.forIn_cons]
 refine wpAny_bind (wpAny_bind (XB (es := [ent w b1.toArray s.toks (cst c1 (s.toks + 1))].toArray) (ep := 1) g1 (Fx _ (fun e he => by simp only [List.mem_singleton] at he; exact ⟨_, _, _, he⟩)) (noB _ (fun e he => by simp only [List.mem_singleton] at he; exact ⟨b1, _, _, h12, he⟩)) (by simp) (wpAny_pure ?_)))
 dsimp only
 rw [List.forIn_cons]
 refine wpAny_bind (wpAny_bind (XB (es := [ent w b1.toArray s.toks (cst c1 (s.toks + 1)), ent w b2.toArray (s.toks + 2) (cst c2 (s.toks + 3))].toArray) (ep := 2) g2 (Fx _ (fun e he => by simp only [List.mem_cons, List.not_mem_nil, or_false] at he; rcases he with he | he <;> exact ⟨_, _, _, he⟩)) (noB _ (fun e he => by simp only [List.mem_cons, List.not_mem_nil, or_false] at he; rcases he with he | he; exact ⟨b1, _, _, h13, he⟩; exact ⟨b2, _, _, h23, he⟩)) (by simp) (wpAny_pure ?_)))
 dsimp only
 rw [List.forIn_nil]
 refine wpAny_pure (AM ?_)
 show wpC _ _ (assign (.Name x px) env _) _ _
 rw [arm_assign_Name]
 refine zj (yc (.of ?_))
 rw [storeName_local hx (by rw [hkind, hl]; simp)]
 exact E9 a3 hd hn h
end
end
section
def D3 (st : Stmt) (x : Str) (b1 b2 b3 : List UInt8) (c1 c2 c3 : Const) : Prop := ∃ (q : Pos × Pos × Pos × Pos × Pos × Pos × Pos × Pos × Pos) (n : Nat × Nat × Nat × Nat × Nat × Nat),
 st = .Assign [.Name x q.1] (.Dict [some (.Constant (.bytes b1) n.1 q.2.1), some (.Constant (.bytes b2) n.2.1 q.2.2.1), some (.Constant (.bytes b3) n.2.2.1 q.2.2.2.1)] [.Constant c1 n.2.2.2.1 q.2.2.2.2.1, .Constant c2 n.2.2.2.2.1 q.2.2.2.2.2.1, .Constant c3 n.2.2.2.2.2 q.2.2.2.2.2.2.1] q.2.2.2.2.2.2.2.1) q.2.2.2.2.2.2.2.2
theorem d3_stmt {P : Program} {w : World} {A : Around} {s : Shared} {env : Env} {st : Stmt} {x : Str} {b1 b2 b3 : List UInt8} {c1 c2 c3 : Const} (e : D3 st x b1 b2 b3 c1 c2 c3) {es : Array DictEntry} {ep : Nat} {o : Obj} {Q : KG}
  (hkind : env.scope.kind = .module) (hl : env.locals = env.globals) (hx : env.kindOf x = some .local) (hx' : (x == ("__debug__" : Str)) = false) (t1 : jO c1 = true) (t2 : jO c2 = true) (t3 : jO c3 = true) (h12 : b1 ≠ b2) (h13 : b1 ≠ b3) (h23 : b2 ≠ b3)
  (ho : s.heap.get? env.locals = some o) (hd : o.data = .dict es ep) (hn : aRefKeyMayBeTheName x es = false)
  (h : Q .next { s with heap := Al w s.heap s.toks env.locals x b1 b2 b3 c1 c2 c3, toks := s.toks + 10 }) : wpC (model P w) A (exec st env) Q s := by
 obtain ⟨q, n, rfl⟩ := e
 exact BG hkind hl hx hx' t1 t2 t3 h12 h13 h23 ho hd hn h
def topA : Around := { depth := 5000, units := 5000 }
theorem top_in : (Ctx.of cod fr0).In topA := ⟨rfl, Nat.le_of_ble_eq_true (by kernel_rfl), (fun l h => nomatch h), (fun l h => nomatch h), Nat.le_of_ble_eq_true (by kernel_rfl)⟩
theorem top_ok : OkC (Ctx.of cod fr0) := ⟨rfl, fun x hx => by
 have : x = (.builtin "claim.caller" {}, p0) := by simp [Ctx.of, topFrame] at hx; exact hx
 subst this
 decide⟩
def X7 (w : World) (t : BT) (n k a : Nat) (x : Str) (b1 b2 b3 : List UInt8) (c1 c2 c3 : Const) : BT :=
 (((((t.ins n { cls := .type "dict", data := .dict #[] }).set n (Yw w b1.toArray k (cst c1 (k + 1)))).set n (Yw w b2.toArray (k + 2) (cst c2 (k + 3)))).set n (Yw w b3.toArray (k + 4) (cst c3 (k + 5)))).set a
  (Obj.putName x (PyData.keyHash w.params x) (.str x (k + 9)) (.ref n)))
theorem Eb {w : World} {t : BT} {n k a : Nat} {x : Str} {b1 b2 b3 : List UInt8} {c1 c2 c3 : Const} {o : Obj} {life : Life} (g : (t.ins n { cls := .type "dict", data := .dict #[] }).get n = some { cls := .type "dict", data := .dict #[] }) (ga : (t.ins n { cls := .type "dict", data := .dict #[] }).get a = some o) (hne : a ≠ n) :
  Al w (absHeap t n life) k a x b1 b2 b3 c1 c2 c3 = absHeap (X7 w t n k a x b1 b2 b3 c1 c2 c3) (n + 1) life := by
 unfold Al X7
 rw [absHeap_size, absHeap_set (o := o), absHeap_set (o := _), absHeap_set (o := _), absHeap_set (o := _) g, absHeap_ins (by rw [g]; rfl)]
 ·rw [BT.get_set, if_pos rfl, g]; rfl
 ·rw [BT.get_set, if_pos rfl, BT.get_set, if_pos rfl, g]; rfl
 ·rw [BT.get_set, if_neg hne, BT.get_set, if_neg hne, BT.get_set, if_neg hne, ga]
def EO : Stmt := tat bdy 45
def Dy : Stmt := tat bdy 46
theorem cut45 : bdy.drop 45 = EO :: Dy :: bdy.drop 47 := by kernel_rfl
abbrev sb (x : String) : List UInt8 := (x.toList.map fun c => c.toNat.toUInt8)
theorem d45 : D3 EO (Str.ofString "LISTS") [83] [87] [80] (.str (Str.ofString "sessions")) (.str (Str.ofString "windows")) (.str (Str.ofString "panes")) := ⟨(_, _, _, _, _, _, _, _, _), (_, _, _, _, _, _), rfl⟩
theorem d46 : D3 Dy (Str.ofString "IS_ACTIVE") [83] [87] [80] (.bytes [115,101,115,115,105,111,110,95,97,99,116,105,118,101]) (.bytes [119,105,110,100,111,119,95,97,99,116,105,118,101]) (.bytes [112,97,110,101,95,97,99,116,105,118,101]) := ⟨(_, _, _, _, _, _, _, _, _), (_, _, _, _, _, _), rfl⟩
def esOf (o : Obj) : Array DictEntry := match o.data with | .dict es _ => es | _ => #[]
def epOf (o : Obj) : Nat := match o.data with | .dict _ n => n | _ => 0
abbrev stm := st AR 161 461
set_option maxHeartbeats 0
theorem goesD {w : World} {os : OsState} {t t' : BT} {n k : Nat} {st : Stmt} {x : Str} {b1 b2 b3 : List UInt8} {c1 c2 c3 : Const} {o : Obj} (e : D3 st x b1 b2 b3 c1 c2 c3) (ga : t.get 3 = some o) (hn : 3 < n) (ho : alive o = some o) (hd : o.data = .dict (esOf o) (epOf o)) (hr : aRefKeyMayBeTheName x (esOf o) = false)
  (hx : qK.kindOf x = some .local) (hx' : (x == ("__debug__" : Str)) = false) (t1 : jO c1 = true) (t2 : jO c2 = true) (t3 : jO c3 = true) (h12 : b1 ≠ b2) (h13 : b1 ≠ b3) (h23 : b2 ≠ b3)
  (g1 : (t.ins n { cls := .type "dict", data := .dict #[] }).get n = some { cls := .type "dict", data := .dict #[] }) (g2 : (t.ins n { cls := .type "dict", data := .dict #[] }).get 3 = some o) (e2 : X7 w t n k 3 x b1 b2 b3 c1 c2 c3 = t') (pos : Pos) :
  Sem.wp (model pr w) (Ctx.of cod fr0) (exec st qK) (fun f _ s₁ => f = .next ∧ s₁ = (SharedT.mk t' (n + 1) xx #[] dr0 (k + 10) os).abs) (fun _ _ _ => False) pos (SharedT.mk t n xx #[] dr0 k os).abs := by
 refine d3_stmt (P := pr) (w := w) (A := topA) (env := qK) (Q := fun f s₁ => f = .next ∧ s₁ = (SharedT.mk t' (n + 1) xx #[] dr0 (k + 10) os).abs) e rfl rfl hx hx' t1 t2 t3 h12 h13 h23 ((abs_get hn ga).trans ho) hd hr ⟨rfl, ?_⟩ _ _ top_in top_ok
 have e3 := Eb (w := w) (k := k) (x := x) (b1 := b1) (b2 := b2) (b3 := b3) (c1 := c1) (c2 := c2) (c3 := c3) (life := xx) g1 g2 (Nat.ne_of_lt hn)
 rw [e2] at e3
 show Shared.mk (Al w (absHeap t n xx) k 3 x b1 b2 b3 c1 c2 c3) #[] dr0 (k + 10) os = Shared.mk (absHeap t' (n + 1) xx) #[] dr0 (k + 10) os
 rw [e3]
structure Qp (w : World) (st : Stmt) (s s' : Shared) : Prop where
 ends : ∀ pos, Sem.wp (model pr w) (Ctx.of cod fr0) (exec st qK) (fun f _ s₁ => f = .next ∧ s₁ = s') (fun _ _ _ => False) pos s
theorem FL {w : World} {os : OsState} {t t' : Params → BT} {n k n' k' : Nat} {st_ : Stmt} {x : Str} {b1 b2 b3 : List UInt8} {c1 c2 c3 : Const} {o : Obj} (e : D3 st_ x b1 b2 b3 c1 c2 c3) (ga : (t w.params).get 3 = some o) (hn : 3 < n) (hn' : n + 1 = n') (hk' : k + 10 = k') (ho : alive o = some o) (hd : o.data = .dict (esOf o) (epOf o)) (hr : aRefKeyMayBeTheName x (esOf o) = false)
  (hx : qK.kindOf x = some .local) (hx' : (x == ("__debug__" : Str)) = false) (t1 : jO c1 = true) (t2 : jO c2 = true) (t3 : jO c3 = true) (h12 : b1 ≠ b2) (h13 : b1 ≠ b3) (h23 : b2 ≠ b3)
  (g1 : ((t w.params).ins n { cls := .type "dict", data := .dict #[] }).get n = some { cls := .type "dict", data := .dict #[] }) (g2 : ((t w.params).ins n { cls := .type "dict", data := .dict #[] }).get 3 = some o) (e2 : X7 w (t w.params) n k 3 x b1 b2 b3 c1 c2 c3 = t' w.params) :
  Qp w st_ (st t n k w os).abs (st t' n' k' w os).abs := by
 subst hn' hk'
 exact ⟨fun pos => goesD e ga hn ho hd hr hx hx' t1 t2 t3 h12 h13 h23 g1 g2 e2 pos⟩
theorem goes45 (w : World) (os : OsState) : Qp w EO (sta w os).abs (stm w os).abs :=
 FL (t := EF) (t' := AR) (n := 160) (k := 451) (o := o3a w.params) d45 (by kernel_rfl) (by decide) rfl rfl (by kernel_rfl) (by kernel_rfl) (by kernel_rfl) (by kernel_rfl) (by kernel_rfl) rfl rfl rfl (by decide) (by decide) (by decide) (by kernel_rfl) (by kernel_rfl) (by kernel_rfl)
theorem goes46 (w : World) (os : OsState) : Qp w Dy (stm w os).abs (stc w os).abs :=
 FL (t := AR) (t' := EE) (n := 161) (k := 461) (o := o3m w.params) d46 (by kernel_rfl) (by decide) rfl rfl (by kernel_rfl) (by kernel_rfl) (by kernel_rfl) (by kernel_rfl) (by kernel_rfl) rfl rfl rfl (by decide) (by decide) (by decide) (by kernel_rfl) (by kernel_rfl) (by kernel_rfl)
end
section
theorem seg_a (w : World) (os : OsState) : xh w 1800 (stb w os) (bdy.take 45) p0 (sta w os) ⟨89, 0, 89, 7⟩ := by
 have h := seg_a' w (w.params.followText "special-get-raises") os
 rw [World.withFollow_self] at h
 exact h
theorem blk : blockStart bdy qK = .pure () := by kernel_rfl
theorem En : (⟨denote treeTable cod, cod, p0, fr0⟩ : Thread) = restOf bdy qK cod p0 fr0 := by
 show (⟨denote treeTable (.body bdy qK), cod, p0, fr0⟩ : Thread) = _
 rw [body_wrap, blk]
 rfl
theorem gns (t : Params → BT) (n k : Nat) (w : World) (os : OsState) : (st t n k w os).abs.gens = #[] := rfl
theorem jJ {w : World} {n : Nat} {s s' : SharedT} {l : List Stmt} {p p' : Pos} (h : xh w n s l p s' p') (rest : List Stmt) : qn pr w s.abs (restOf (l ++ rest) qK cod p fr0) s'.abs (restOf rest qK cod p' fr0) := A8 (segRun_of h)
theorem Xf {w : World} {st : Stmt} {s s' : Shared} (h : Qp w st s s') (g : s'.gens = #[]) (rest : List Stmt) (p : Pos) : ∃ p', qn pr w s (restOf (st :: rest) qK cod p fr0) s' (restOf rest qK cod p' fr0) := Dw (h.ends p) g
theorem cutA : bdy.take 45 ++ (EO :: Dy :: bdy.drop 47) = bdy := by rw [← cut45, List.take_append_drop]
theorem cutC (a b : Nat) : (bdy.drop a).take b ++ bdy.drop (a + b) = bdy.drop a := by rw [← List.drop_drop, List.take_append_drop]
theorem FK (w : World) (os : OsState) : qn pr w ⟨boot_heap w.params, #[], boot_drawn, boot_toks, os⟩ (topStub pr) (stf w os).abs ⟨topAfter (.ok .next), .builtin "claim.caller" {}, p0, []⟩ := by
 have h1 := qc (pre_b w os)
 rw [En] at h1
 have h2 := jJ (seg_a w os) (EO :: Dy :: bdy.drop 47)
 rw [cutA] at h2
 obtain ⟨p1, h3⟩ := Xf (goes45 w os) (gns ..) (Dy :: bdy.drop 47) ⟨89, 0, 89, 7⟩
 obtain ⟨p2, h4⟩ := Xf (goes46 w os) (gns ..) (bdy.drop 47) p1
 have h5 := jJ (seg_c1 w os p2) (bdy.drop 76)
 rw [cutC 47 29] at h5
 have h6 := jJ (seg_c2 w os) (bdy.drop 101)
 rw [cutC 76 25] at h6
 have h7 := jJ (seg_c3 w os) (bdy.drop 126)
 rw [cutC 101 25] at h7
 have h8 := jJ (seg_c4 w os) []
 rw [List.append_nil] at h8
 have h9 := qc (fin_f w os)
 exact (((((((h1.trans h2 (gns ..)).trans h3 (gns ..)).trans h4 (gns ..)).trans h5 (gns ..)).trans h6 (gns ..)).trans h7 (gns ..)).trans h8 (gns ..)).trans h9 (gns ..)
end
section
def qv : Program := view pr [153]
def lse : List Str := qv.main.scope.names.filterMap fun x => if x.1 == Str.ofString "law" then none else some x.1
set_option maxHeartbeats 0
theorem Ek : chainsOk qv = true := by kernel_rfl
theorem Ei : opensWell pr = true := by kernel_rfl
theorem Ej (w : World) (os : OsState) : openSeen qv lse (importedModules pr.main.body) (fun _ => true) true (stf w os).abs = openGood qv lse := by
 rw [PySem.W.Fast.te4187177175401517315]
 kernel_rfl
theorem Gn (w : World) : (staticsOk (importedModules pr.main.body) (boot_heap w.params) (absHeap (z5 w.params) 1005 xx) && namesBound pr (absHeap (z5 w.params) 1005 xx) && laidKept (boot_heap w.params) (absHeap (z5 w.params) 1005 xx)) = true := by kernel_rfl
end
section
abbrev Hf (P : Params) : Heap := absHeap (z5 P) 1005 xx
set_option maxHeartbeats 0
theorem Go (w : World) : (boot_heap w.params).objs.size = 11 := by kernel_rfl
theorem chk_old (P : Params) : ∀ b, b < 11 → b ≠ 2 → b ≠ 3 → (boot_heap P).get? b = (Hf P).get? b := by
 have h : [0, 1, 4, 5, 6, 7, 8, 9, 10].map (boot_heap P).get? = [0, 1, 4, 5, 6, 7, 8, 9, 10].map (Hf P).get? := by kernel_rfl
 have m : ∀ b, b < 11 → b ≠ 2 → b ≠ 3 → b ∈ [0, 1, 4, 5, 6, 7, 8, 9, 10] := by decide
 exact fun b h1 h2 h3 => List.map_inj_left.mp h b (m b h1 h2 h3)
theorem main_eq : mainNs = 3 := rfl
theorem stat_eq : cStatics = 2 := rfl
theorem chk_law (P : Params) : (Hf P).nsMap mainGlobals (Str.ofString "law") = some (.ref 1004) := by kernel_rfl
theorem chk_def : (defOf qv (Str.ofString "law")).map (fun x => (x.1.params, x.1.body, x.1.scope)) = pr.theDef (Str.ofString "law") ∧ ((defOf qv (Str.ofString "law")).map fun x => kwWritten? x.1.params.kwonlyargs x.1.params.kw_defaults) = (defOf qv (Str.ofString "law")).map (fun x => some x.2) ∧ (defOf qv (Str.ofString "law")).isSome = true := ⟨by kernel_rfl, by kernel_rfl, by kernel_rfl⟩
theorem Bb : opening pr = plainProg pr.main.scope.names := by kernel_rfl
theorem F3 : ∀ s, fenceModules? pr s = some s := fun s => by kernel_rfl
theorem BP (w : World) : (∃ s, AfterRun (opening pr) w s) ∧ ∀ s, AfterRun (opening pr) w s → ∃ s0 os, fenceModules? pr s = some s0 ∧ s0.gens = #[] ∧ TopRan pr w s0 (stf w os).abs ∧ (stf w os).abs.asleep ∧
  Ground qv lse [] (fun _ _ => True) w (stf w os).abs ((stf w os).abs.heap.nsMap mainGlobals) ((stf w os).abs.heap.nsMap builtinsNs) (stf w os).abs.heap ∧ (stf w os).abs.heap.isNs mainGlobals = true := by
 have hb := boot_open (p := pr) (N := 600) Bb rfl F3 w
 rw [← table_eq_tree] at hb
 obtain ⟨s0, h1, h2⟩ := Option.map_eq_some_iff.mp hb
 obtain ⟨s, h4, h5⟩ := Option.bind_eq_some_iff.mp h1
 have A := AfterImport.of_importEnds h4
 refine ⟨⟨s, A⟩, fun s' hs' => ?_⟩
 obtain rfl : s' = s := AfterImport.unique hs' A
 have z : s0.asleep := Shared.asleep_of_life (fence_lifeW h5) A.life
 obtain ⟨h, g, d, k, os⟩ := s0
 simp only [Prod.mk.injEq] at h2
 obtain ⟨rfl, rfl, rfl, rfl⟩ := h2
 have G := FK w os
 obtain ⟨GG, k7, hg, g2, g3, g4, g5⟩ := ground_of_open (w := w) (XP := fun _ _ => True) (fun _ _ => trivial) Ek (Ej w os)
 have hst := Gn w
 simp only [Bool.and_eq_true] at hst
 obtain ⟨⟨hs1, hs2⟩, hs3⟩ := hst
 refine ⟨_, os, h5, rfl, ⟨G.sched z rfl, G.life, Shared.rest_eq rfl, fun b o hb hn => ?_, g2, statics_of_ok hs1, g3, g4, g5, fun g hg => by simp [SharedT.abs, st] at hg, names_of_bound hs2, laid_of_kept hs3⟩, Shared.asleep_of_life G.life z, GG, hg⟩
 have hlt := Heap.lt_size hb
 rw [Go w] at hlt
 rw [← hb]
 exact (chk_old w.params b hlt (fun q => hn (.inr (.inl (q.trans stat_eq.symm)))) (fun q => hn (.inl (q.trans main_eq.symm)))).symm
def j2 : List Int → Nat → List Value
 | [], _ => []
 | i :: r, k => .int i k :: j2 r (k + 1)
def j0 (P : Params) (xs : List Int) : Heap := (Hf P).push { cls := .type "list", data := .seq (j2 xs 1770).toArray }
def yT (w : World) (os : OsState) (xs : List Int) : Shared := ⟨j0 w.params xs, #[], dr0, 1770 + xs.length, os⟩
def BX : Prop := ∀ (w : World) (os : OsState) (xs : List Int), xs.length ≤ 63 →
 wpC (model pr w) callerA (call (.ref 1004) [.ref 1005]) (fun v s' => v = .bool true ∧ s'.gens = #[] ∧ s'.os = os ∧ ∀ b o, (j0 w.params xs).get? b = some o → s'.heap.get? b = some o) (yT w os xs)
theorem Q2 {R : WRecords} {cl : Str → Option Addr} {P : Params} {ord : List DictEntry → List DictEntry} : ∀ (xs : List Int) (s : Shared), layAllW R cl P ord (xs.map .int) s = some (j2 xs s.toks, { s with toks := s.toks + xs.length })
 | [], s => rfl
 | i :: r, s => by
  simp only [List.map_cons, layAllW, layW, Q2 r, j2, List.length_cons]
  congr 3
  omega
theorem El : OkC ⟨.builtin "claim.caller" {}, none, none, [], none⟩ := ⟨by decide, fun x hx => by cases hx⟩
abbrev rw1 : OpenRow := PySem.Challenge.rw_og0289_01.row
theorem nf {P : Prop} (h : false = true) : P := nomatch h
theorem CL : ∀ ds : List WData, WShape.hasItems [] ds .int = true → ∃ xs : List Int, ds = xs.map .int
 | [], _ => ⟨[], rfl⟩
 | a :: r, h => by
  have h : (WShape.has [] a .int && WShape.hasItems [] r .int) = true := h
  obtain ⟨xs, rfl⟩ := CL r (Bool.and_eq_true_iff.mp h).2
  have h := (Bool.and_eq_true_iff.mp h).1
  cases a with
  | int i => exact ⟨i :: xs, rfl⟩
  | _ => exact nf h
theorem list_of {d : WData} (h : WShape.has [] d (.list .int) = true) : ∃ ds, d = .list ds ∧ WShape.hasItems [] ds .int = true := by
 cases d with
 | list ds => exact ⟨ds, rfl, (Bool.or_false (WShape.hasItems [] ds .int)).symm.trans h⟩
 | _ => exact nf h
theorem le63 {l : List WData} (h2 : WTm.holds [] (.and (.not (.lt (.lit (.int 63)) (.len (.arg 0)))) (.lit (.bool true))) { args := [.list l] } = true) : l.length ≤ 63 := by
 apply Nat.not_lt.mp
 intro hlt
 have e : less? (.int 63) (.int (l.length : Int)) = some true := congrArg some (decide_eq_true (Int.ofNat_lt.mpr hlt))
 simp [WTm.holds, WTm.value] at h2
 rw [e] at h2
 cases h2
theorem lwc : leftWithCleanup #[] = false := by kernel_rfl
theorem args_of {args : List WData} (h : rw1.toRowW.claim.pre args = true) : ∃ xs : List Int, args = [.list (xs.map .int)] ∧ xs.length ≤ 63 := by
 obtain ⟨h1, h2⟩ := pre_splitW h
 obtain ⟨d, r, rfl, hd, hr⟩ := hasAllW_cons (R := []) (e := .list .int) (es := []) h1
 obtain rfl := hasAllW_nil hr
 obtain ⟨ds, rfl, hd2⟩ := list_of hd
 obtain ⟨xs, rfl⟩ := CL ds hd2
 refine ⟨xs, rfl, ?_⟩
 rw [← List.length_map (f := WData.int)]
 exact le63 h2
theorem ex4_7 {α β γ δ : Type} {P1 P2 P3 P4 P5 P6 P7 : α → β → γ → δ → Prop} {G : Prop} (h : ∃ a b c d, P1 a b c d ∧ P2 a b c d ∧ P3 a b c d ∧ P4 a b c d ∧ P5 a b c d ∧ P6 a b c d ∧ P7 a b c d)
  (k : ∀ a b c d, P1 a b c d → P2 a b c d → P3 a b c d → P4 a b c d → P5 a b c d → P6 a b c d → P7 a b c d → G) : G :=
 h.elim fun a h => h.elim fun b h => h.elim fun c h => h.elim fun d h => k a b c d h.1 h.2.1 h.2.2.1 h.2.2.2.1 h.2.2.2.2.1 h.2.2.2.2.2.1 h.2.2.2.2.2.2
theorem ex2_6 {α β : Type} {P1 P2 P3 P4 P5 P6 : α → β → Prop} {G : Prop} (h : ∃ a b, P1 a b ∧ P2 a b ∧ P3 a b ∧ P4 a b ∧ P5 a b ∧ P6 a b) (k : ∀ a b, P1 a b → P2 a b → P3 a b → P4 a b → P5 a b → P6 a b → G) : G :=
 h.elim fun a h => h.elim fun b h => k a b h.1 h.2.1 h.2.2.1 h.2.2.2.1 h.2.2.2.2.1 h.2.2.2.2.2
theorem qJ {α : Type} {P1 P2 P3 : α → Prop} {G : Prop} (h : ∃ a, P1 a ∧ P2 a ∧ P3 a) (k : ∀ a, P1 a → P2 a → P3 a → G) : G := h.elim fun a h => k a h.1 h.2.1 h.2.2
theorem ex1_2 {α : Type} {P1 P2 : α → Prop} {G : Prop} (h : ∃ a, P1 a ∧ P2 a) (k : ∀ a, P1 a → P2 a → G) : G := h.elim fun a h => k a h.1 h.2
theorem holds_of (call : BX) (said : rw1.wellSaid = true) (hb : pr.bare) : rw1.Holds := by
 have hfr : frees rw1.toRowW = true := by kernel_rfl
 obtain ⟨hsame, hu, ha, hap, hm⟩ := frees_parts hfr
 refine ⟨said, ⟨[.list []], by decide +kernel, by decide +kernel⟩, ⟨⟨hb, Ei, rfl⟩, ⟨[.list []], by decide +kernel, by decide +kernel⟩, fun w => ⟨(BP w).1, fun s' hs' => ?_⟩⟩⟩
 refine ex2_6 ((BP w).2 s' hs') fun s0 os hf hg0 hT hz G hg => ?_
 refine ⟨s0, hf, hg0, (stf w os).abs, hT, fun n hn => ?_, fun x hx => (nomatch hx), fun x hx => (nomatch hx), ?_⟩
 ·obtain rfl : n = Str.ofString "law" := List.mem_singleton.mp hn
  obtain ⟨c1, c2, c3⟩ := chk_def
  obtain ⟨⟨d, kwd⟩, hd⟩ := Option.isSome_iff_exists.mp c3
  rw [hd] at c1 c2
  exact pinned_of_view (p := pr) hg G hd c1.symm (Option.some.inj c2)
 ·intro args hpre hlay ord hord
  refine ex1_2 (args_of hpre) fun xs e hlen => ?_
  clear hpre
  subst e
  have hl := Q2 (R := rw1.claim.records) (cl := classAt (stf w os).abs.heap) (P := w.params) (ord := ord) xs (stf w os).abs
  have hlaid : layAllW rw1.claim.records (classAt (stf w os).abs.heap) w.params ord [.list (xs.map .int)] (stf w os).abs = some ([.ref 1005], yT w os xs) := by
   simp only [layAllW, layW, hl]
   show some ([Value.ref (Hf w.params).objs.size], _) = _
   rw [absHeap_size]
   rfl
  refine ⟨_, _, hlaid, ?_⟩
  have hz1 : (yT w os xs).asleep := Shared.asleep_of_life rfl hz
  have hg1 : (yT w os xs).heap.Ns mainGlobals ((Hf w.params).nsMap mainGlobals) := G.T.g.at fun o e => Heap.get?_push_of_some _ e
  have hw : wpC (model pr w) callerA (callStub (Str.ofString "law") [.ref 1005]).cur (fun fin s' => ∃ f, fin = .done f ∧ f = .ret (.bool true) ∧ s'.gens = #[] ∧ s'.os = os ∧ ∀ b o, (j0 w.params xs).get? b = some o → s'.heap.get? b = some o) (yT w os xs) := by
   unfold callStub
   refine ze (wpAny_nsGet hg1 ?_)
   rw [chk_law]
   exact zb (zi (call w os xs hlen) fun v s' hv => zf ⟨_, rfl, by rw [hv.1], hv.2⟩)
  have hw1 := hw _ default caller_in El
  have hw2 : Sem.wp (model pr w) ⟨.builtin "claim.caller" {}, none, none, [], none⟩ (callStub (Str.ofString "law") [.ref 1005]).cur
    (Sem.finPost (model pr w) ⟨.builtin "claim.caller" {}, none, none, [], none⟩ fun r s' => (r = .ok (.ret (.bool true)) ∧ s'.gens = #[] ∧ s'.os = os ∧ ∀ b o, (j0 w.params xs).get? b = some o → s'.heap.get? b = some o) ∧ leftWithCleanup s'.gens = false)
    (fun e _ s' => ((.error e : Result) = .ok (.ret (.bool true)) ∧ s'.gens = #[] ∧ s'.os = os ∧ ∀ b o, (j0 w.params xs).get? b = some o → s'.heap.get? b = some o) ∧ leftWithCleanup s'.gens = false) default (yT w os xs) := by
   refine Sem.wp_mono _ _ _ (fun fin p' s' h' => ?_) (fun _ _ _ h' => h'.elim) _ _ hw1
   obtain ⟨f, rfl, rfl, h1, h2, h3⟩ := h'
   exact ⟨⟨rfl, h1, h2, h3⟩, by rw [h1]; exact lwc⟩
  have hh := wp_halts_full (M := model pr w) hz1 hw2
  refine ex4_7 hh fun n r s2 s3 h1 h2 h3 e h5 h6 h7 => ?_
  clear hh hw hw1 hw2 hl
  have e3 := Shared.eq_of_forget_eq h3 h5
  subst e3 e
  refine qJ (reads_layAllW hord _ _ _ hlaid hlay s3.heap h7) fun bs hrd _ _ => ?_
  have hlife : s3.heap.life = (yT w os xs).heap.life := runN_life _ _ _ h2
  refine ⟨n, _, s3, h1, .inl ⟨.bool true, rfl, fun cls => rfl, ⟨.bool true, _, [], bs, .bool true, hrd, by kernel_rfl, fun _ => ⟨.nil, (fun a ha => nomatch ha), fun a ha => nomatch ha⟩, fun as0 _ => ident_freeW hu ha hap _ _⟩, (fun i hi => nomatch hi), fun b o hb _ _ _ => .inl (h7 b o hb), fun i hi => nomatch hi⟩, (fun _ i x hx => by simp [SharedT.abs, st] at hx), (fun q => nomatch q), by rw [hlife]; rfl, Shared.rest_eq h6⟩
end
section
noncomputable def zw (st : Stmt) (d : Option PV) : FnI := match st with
 | .FunctionDef _ a b _ _ _ scope _ _ _ => ⟨a.args.map (·.arg), scope.names, d, b⟩
 | _ => ⟨[], [], none, []⟩
noncomputable def xU (o : Obj) : FuncData := match o.data with | .func f => f | _ => default
noncomputable def flOf (o : Obj) : Array Value := match o.data with | .fields vs => vs | _ => #[]
def EM (o : Obj) (i : Nat) : Option Str := match (flOf o)[i]? with | some (.str x _) => some x | _ => none
noncomputable def XS (o : Obj) : Nat := match o.data with | .func _ => 1 | .fields _ => 2 | .seq .. => 3 | _ => 0
theorem func_of {o : Obj} (h : XS o = 1) : o.data = .func (xU o) := by
 obtain ⟨c, d, dt, sl⟩ := o
 cases dt <;> first | rfl | cases h
theorem D8 {o : Obj} (h : XS o = 2) : o.data = .fields (flOf o) := by
 obtain ⟨c, d, dt, sl⟩ := o
 cases dt <;> first | rfl | cases h
def parOk (fi : FnI) : Bool := fi.params.all fun x => isK (lk fi.names x) .local || isK (lk fi.names x) .cell
theorem Ya {P : Params} {a : Addr} {o : Obj} (h : (z5 P).get a = some o) (hl : Nat.blt a 1005 = true) (hal : alive o = some o) : (Hf P).get? a = some o := (abs_get (Nat.blt_eq.mp hl) h).trans hal
def chkF (fi : FnI) (o : Obj) (c : Nat) (oc : Obj) (n : Nat) :=
 ((XS o, XS oc, noO (lk fi.names "__debug__"), parOk fi, fi.params.length), (xU o).body, (xU o).closure, (xU o).code, EM oc 1, ((xU o).scope.isCoroutine, (xU o).scope.isGenerator), (xU o).scope.kind, (xU o).scope.names, (xU o).globals, (xU o).builtins)
def goodF (fi : FnI) (o : Obj) (c : Nat) (n : Nat) :=
 ((1, 2, true, true, n), FuncBody.stmts fi.body, ([] : List (Str × Addr)), Value.ref c, some (xU o).qualname, (false, false), ScopeKind.function, fi.names, mainGlobals, builtinsNs)
theorem qH {w : World} {a c : Addr} {fi : FnI} {o oc : Obj} {n : Nat} (h1 : ((z5 w.params).get a, (z5 w.params).get c, alive o, alive oc, Nat.blt a 1005, Nat.blt c 1005) = (some o, some oc, some o, some oc, true, true)) (h2 : chkF fi o c oc n = goodF fi o c n)
  (hb : ∀ (s : Shared), KIn (Hf w.params) s.heap → ∀ as : List Value, as.length = n → BindsTo s (xU o) ⟨as, []⟩ (fi.params.zip as))
  (hd : ∀ v, fi.dflt = some v → ∃ d, GV w (Hf w.params) d v ∧ ∀ (s : Shared), KIn (Hf w.params) s.heap → ∀ as : List Value, as.length + 1 = n → BindsTo s (xU o) ⟨as, []⟩ (fi.params.zip (as ++ [d]))) : YA w (Hf w.params) a fi := by
 have e4 : parOk fi = true := congrArg (fun x => x.1.2.2.2.1) h2
 have e5 : fi.params.length = n := congrArg (fun x => x.1.2.2.2.2) h2
 have e9 : EM oc 1 = some (xU o).qualname := congrArg (fun x => x.2.2.2.2.1) h2
 refine ⟨Fe (congrArg (fun x => x.1.2.2.1) h2), fun x hx => ?_, o, xU o, Ya (congrArg (·.1) h1) (congrArg (·.2.2.2.2.1) h1) (congrArg (·.2.2.1) h1), func_of (congrArg (fun x => x.1.1) h2), congrArg (fun x => x.2.1) h2, congrArg (fun x => x.2.2.1) h2, ?_, congrArg (fun x => x.2.2.2.2.2.1.1) h2, congrArg (fun x => x.2.2.2.2.2.1.2) h2, congrArg (fun x => x.2.2.2.2.2.2.1) h2, congrArg (fun x => x.2.2.2.2.2.2.2.1) h2, congrArg (fun x => x.2.2.2.2.2.2.2.2.1) h2, congrArg (fun x => x.2.2.2.2.2.2.2.2.2) h2, fun s hk as ha => hb s hk as (ha.trans e5), fun v hv => ?_⟩
 ·have := List.all_eq_true.mp e4 x hx
  rw [Bool.or_eq_true] at this
  rw [← jf]
  exact this.imp j1 j1
 ·unfold EM at e9
  split at e9
  ·rename_i x t q
   cases e9
   exact ⟨c, oc, flOf oc, t, congrArg (fun x => x.2.2.2.1) h2, Ya (congrArg (·.2.1) h1) (congrArg (·.2.2.2.2.2) h1) (congrArg (·.2.2.2.1) h1), D8 (congrArg (fun x => x.1.2.1) h2), q⟩
  ·cases e9
 ·obtain ⟨d, h3, h4⟩ := hd v hv
  exact ⟨d, h3, fun s hk as ha => h4 s hk as (ha.trans e5)⟩
theorem x9 {p : List Value → Prop} (h : p []) : ∀ as : List Value, as.length = 0 → p as := fun as e => by rw [List.length_eq_zero_iff.mp e]; exact h
theorem yE {p : List Value → Prop} {n : Nat} (h : ∀ a, ∀ as : List Value, as.length = n → p (a :: as)) : ∀ as : List Value, as.length = n + 1 → p as := fun as e => by
 cases as with
 | nil => cases e
 | cons a r => exact h a r (Nat.succ.inj e)
theorem y1 {p : List Value → Prop} (h : ∀ a, p [a]) : ∀ as : List Value, as.length = 1 → p as := yE fun a => x9 (h a)
theorem yN {p : List Value → Prop} (h : ∀ a b, p [a, b]) : ∀ as : List Value, as.length = 2 → p as := yE fun a => yE fun b => x9 (h a b)
theorem y0 {p : List Value → Prop} (h : ∀ a b c, p [a, b, c]) : ∀ as : List Value, as.length = 3 → p as := yE fun a => yE fun b => yE fun c => x9 (h a b c)
theorem qQ {p : List Value → Prop} (h : ∀ a b c d, p [a, b, c, d]) : ∀ as : List Value, as.length = 4 → p as := yE fun a => yE fun b => yE fun c => yE fun d => x9 (h a b c d)
theorem Dd {p : List Value → Prop} (h : ∀ a b c d e, p [a, b, c, d, e]) : ∀ as : List Value, as.length = 5 → p as := yE fun a => yE fun b => yE fun c => yE fun d => yE fun e => x9 (h a b c d e)
theorem bind7 {p : List Value → Prop} (h : ∀ a b c d e f g, p [a, b, c, d, e, f, g]) : ∀ as : List Value, as.length = 7 → p as := yE fun a => yE fun b => yE fun c => yE fun d => yE fun e => yE fun f => yE fun g => x9 (h a b c d e f g)
theorem dbind1 {p : List Value → Prop} (h : ∀ a, p [a]) : ∀ as : List Value, as.length = 1 → p as := y1 h
theorem dbind3 {p : List Value → Prop} (h : ∀ a b c, p [a, b, c]) : ∀ as : List Value, as.length = 3 → p as := y0 h
theorem dbind4 {p : List Value → Prop} (h : ∀ a b c d, p [a, b, c, d]) : ∀ as : List Value, as.length = 4 → p as := qQ h
theorem CF {T a : Addr} {oT o : Obj} (e : [(T, oT)].lookup a = some o) : a = T ∧ oT = o := by
 change (match a == T with | true => some oT | false => none) = some o at e
 cases q : a == T with
 | true => rw [q] at e; exact ⟨beq_iff_eq.mp q, Option.some.inj e⟩
 | false => rw [q] at e; cases e
theorem X8 {w : World} {fi : FnI} {fd : FuncData} {v u : PV} {d : Value} {T : Addr} {oT : Obj} {n : Nat} (h : some u = some v) (g : GV w (Hf w.params) d u) (h1 : (z5 w.params).get T = some oT) (h2 : Nat.blt T 1005 = true) (h3 : alive oT = some oT)
  (hb : ∀ S : Setting, ∀ as : List Value, as.length = n → peek [(T, oT)] S (bindArgs fd ⟨as, []⟩) = some (fi.params.zip (as ++ [d]))) :
  ∃ d, GV w (Hf w.params) d v ∧ ∀ (s : Shared), KIn (Hf w.params) s.heap → ∀ as : List Value, as.length + 1 = n + 1 → BindsTo s fd ⟨as, []⟩ (fi.params.zip (as ++ [d])) := by
 cases h
 refine ⟨d, g, fun s hk as ha => kp_binds (K := [(T, oT)]) (fun a o e => ?_) fun S => hb S as (Nat.succ.inj ha)⟩
 rw [(CF e).1, ← (CF e).2]
 exact hk _ _ (Ya h1 h2 h3)
theorem full_of {w : World} {fi : FnI} {fd : FuncData} {n : Nat} (hb : ∀ as : List Value, as.length = n → bindArgs fd ⟨as, []⟩ = pure (fi.params.zip as)) : ∀ (s : Shared), KIn (Hf w.params) s.heap → ∀ as : List Value, as.length = n → BindsTo s fd ⟨as, []⟩ (fi.params.zip as) :=
 fun s hk as ha => .of_eq (hb as ha)
abbrev Fk (w : World) (a : Nat) (s : Stmt) : Prop := YA w (Hf w.params) a (zw s none)
theorem fi_none (s : Stmt) : (zw s none).dflt = none := by cases s <;> rfl
theorem fk {w : World} {a : Nat} {s : Stmt} {o oc : Obj} {n : Nat} (h1 : ((z5 w.params).get a, (z5 w.params).get (a - 1), alive o, alive oc, Nat.blt a 1005, Nat.blt (a - 1) 1005) = (some o, some oc, some o, some oc, true, true)) (h2 : chkF (zw s none) o (a - 1) oc n = goodF (zw s none) o (a - 1) n)
  (hb : ∀ as : List Value, as.length = n → bindArgs (xU o) ⟨as, []⟩ = pure ((zw s none).params.zip as)) : Fk w a s := qH h1 h2 (full_of hb) (fun v h => nomatch (fi_none s).symm.trans h)
theorem qD {w : World} {fi : FnI} {fd : FuncData} {T : Addr} {oT : Obj} {n : Nat} (h1 : (z5 w.params).get T = some oT) (h2 : Nat.blt T 1005 = true) (h3 : alive oT = some oT)
  (hb : ∀ S : Setting, ∀ as : List Value, as.length = n → peek [(T, oT)] S (bindArgs fd ⟨as, []⟩) = some (fi.params.zip as)) : ∀ (s : Shared), KIn (Hf w.params) s.heap → ∀ as : List Value, as.length = n → BindsTo s fd ⟨as, []⟩ (fi.params.zip as) := fun s hk as ha =>
 kp_binds (K := [(T, oT)]) (fun a o e => by
  rw [(CF e).1, ← (CF e).2]
  exact hk _ _ (Ya h1 h2 h3)) fun S => hb S as ha
theorem GV_nil {w : World} {a : Addr} {o : Obj} (h1 : ((z5 w.params).get a, Nat.blt a 1005, alive o, Nat.beq a 1) = (some o, true, some o, false)) (h2 : o = ⟨.type "tuple", none, .seq #[] 0, #[]⟩) : GV w (Hf w.params) (.ref a) (.tup []) := by
 intro Z μ h hk hz
 have g := Ya (congrArg (·.1) h1) (congrArg (·.2.1) h1) (congrArg (·.2.2.1) h1)
 have g4 : Nat.beq a 1 = false := congrArg (·.2.2.2) h1
 exact .tup (hz a o g fun q => by rw [q] at g4; cases g4) ((hk _ _ g).trans (congrArg some h2)) .nil
theorem j6 {kf : Frag} {C : Addr} {ci : ClI} (h1 : makesIn kf C = true) (h2 : findIn kf (.ref C) "__init__" = some (some (.ref ci.init))) (h3 : typeIn kf (.ref ci.init) = some (.type "function")) (h4 : findIn kf (.ref C) "__getattribute__" = some (some (.builtin "object.__getattribute__")))
  (h5 : findIn kf (.ref C) "__getattr__" = some none) (h6 : findIn kf (.ref C) "__setattr__" = some (some (.builtin "object.__setattr__"))) (h7 : plainOver kf C = true) (h8 : (clsIn kf C).any (·.hasDict) = true)
  (h9 : ci.fields.map (findIn kf (.ref C)) = ci.fields.map fun _ => some none) (h10 : ci.meths.map (fun p => (findIn kf (.ref C) p.1, typeIn kf (.ref p.2))) = ci.meths.map fun p => (some (some (.ref p.2)), some (.type "function"))) : xI kf C ci :=
 ⟨h1, h2, h3, h4, h5, h6, h7, h8, fun x hx => List.map_inj_left.mp h9 x hx, fun x f hx => by
  have := List.map_inj_left.mp h10 _ (J6 hx)
  simp only [Prod.mk.injEq] at this
  exact this⟩
theorem f86 (w : World) : Fk w 86 (tat tbd 24) := fk (o := o86) (oc := o85) (by kernel_rfl) (by kernel_rfl) (y0 fun a b c => by kernel_rfl)
theorem f100 (w : World) : Fk w 100 (tat tbd 26) := fk (o := o100) (oc := o99) (by kernel_rfl) (by kernel_rfl) (y1 fun a => by kernel_rfl)
theorem f114 (w : World) : Fk w 114 (tat tbd 28) := fk (o := o114) (oc := o113) (by kernel_rfl) (by kernel_rfl) (y0 fun a b c => by kernel_rfl)
theorem f135 (w : World) : Fk w 135 (tat tbd 31) := fk (o := o135) (oc := o134) (by kernel_rfl) (by kernel_rfl) (y1 fun a => by kernel_rfl)
theorem f142 (w : World) : Fk w 142 (tat tbd 32) := fk (o := o142) (oc := o141) (by kernel_rfl) (by kernel_rfl) (y1 fun a => by kernel_rfl)
theorem f149 (w : World) : Fk w 149 (tat tbd 34) := fk (o := o149) (oc := o148) (by kernel_rfl) (by kernel_rfl) (y0 fun a b c => by kernel_rfl)
theorem f168 (w : World) : Fk w 168 (tat tbd 48) := fk (o := o168) (oc := o167) (by kernel_rfl) (by kernel_rfl) (x9 (by kernel_rfl))
theorem f189 (w : World) : Fk w 189 (tat tbd 51) := fk (o := o189) (oc := o188) (by kernel_rfl) (by kernel_rfl) (y0 fun a b c => by kernel_rfl)
theorem f224 (w : World) : Fk w 224 (tat tbd 54) := fk (o := o224) (oc := o223) (by kernel_rfl) (by kernel_rfl) (yN fun a b => by kernel_rfl)
theorem f238 (w : World) : Fk w 238 (tat tbd 56) := fk (o := o238) (oc := o237) (by kernel_rfl) (by kernel_rfl) (y1 fun a => by kernel_rfl)
theorem f245 (w : World) : Fk w 245 (tat tbd 57) := fk (o := o245) (oc := o244) (by kernel_rfl) (by kernel_rfl) (yN fun a b => by kernel_rfl)
theorem f252 (w : World) : Fk w 252 (tat tbd 58) := fk (o := o252) (oc := o251) (by kernel_rfl) (by kernel_rfl) (yN fun a b => by kernel_rfl)
theorem f259 (w : World) : Fk w 259 (tat tbd 59) := fk (o := o259) (oc := o258) (by kernel_rfl) (by kernel_rfl) (y0 fun a b c => by kernel_rfl)
theorem f264 (w : World) : Fk w 264 (tat tbd 60) := fk (o := o264) (oc := o263) (by kernel_rfl) (by kernel_rfl) (y0 fun a b c => by kernel_rfl)
theorem f271 (w : World) : Fk w 271 (tat tbd 61) := fk (o := o271) (oc := o270) (by kernel_rfl) (by kernel_rfl) (qQ fun a b c d => by kernel_rfl)
theorem f278 (w : World) : Fk w 278 (tat tbd 62) := fk (o := o278) (oc := o277) (by kernel_rfl) (by kernel_rfl) (y0 fun a b c => by kernel_rfl)
theorem f405 (w : World) : Fk w 405 (tat tbd 81) := fk (o := o405) (oc := o404) (by kernel_rfl) (by kernel_rfl) (y1 fun a => by kernel_rfl)
theorem f436 (w : World) : Fk w 436 (tat tbd 86) := fk (o := o436) (oc := o435) (by kernel_rfl) (by kernel_rfl) (yN fun a b => by kernel_rfl)
theorem f454 (w : World) : YA w (Hf w.params) 454 (zw (tat (tcb tbd 91) 0) (some (.tup []))) := qH (o := o454) (c := 453) (oc := o453) (n := 5) (by kernel_rfl) (by kernel_rfl) (qD (T := 447) (oT := o447) (by kernel_rfl) (by kernel_rfl) (by kernel_rfl) (fun S => Dd fun a b c d e => by kernel_rfl)) (fun v h => X8 (d := (.ref 446)) (T := 447) (oT := o447) (n := 4) h (GV_nil (o := o446) (a := 446) (by kernel_rfl) (by kernel_rfl)) (by kernel_rfl) (by kernel_rfl) (by kernel_rfl) (fun S => dbind4 fun a b c d => by kernel_rfl))
theorem f480 (w : World) : Fk w 480 (tat tbd 94) := fk (o := o480) (oc := o479) (by kernel_rfl) (by kernel_rfl) (yN fun a b => by kernel_rfl)
theorem f509 (w : World) : YA w (Hf w.params) 509 (zw (tat (tcb tbd 97) 0) (some .none)) := qH (o := o509) (c := 508) (oc := o508) (n := 4) (by kernel_rfl) (by kernel_rfl) (qD (T := 502) (oT := o502) (by kernel_rfl) (by kernel_rfl) (by kernel_rfl) (fun S => qQ fun a b c d => by kernel_rfl)) (fun v h => X8 (d := .none) (T := 502) (oT := o502) (n := 3) h (fun _ _ _ _ _ => .none) (by kernel_rfl) (by kernel_rfl) (by kernel_rfl) (fun S => dbind3 fun a b c => by kernel_rfl))
theorem f516 (w : World) : Fk w 516 (tat (tcb tbd 97) 1) := fk (o := o516) (oc := o515) (by kernel_rfl) (by kernel_rfl) (yN fun a b => by kernel_rfl)
theorem f573 (w : World) : Fk w 573 (tat tbd 102) := fk (o := o573) (oc := o572) (by kernel_rfl) (by kernel_rfl) (x9 (by kernel_rfl))
theorem f578 (w : World) : Fk w 578 (tat tbd 103) := fk (o := o578) (oc := o577) (by kernel_rfl) (by kernel_rfl) (y1 fun a => by kernel_rfl)
theorem f585 (w : World) : Fk w 585 (tat tbd 104) := fk (o := o585) (oc := o584) (by kernel_rfl) (by kernel_rfl) (x9 (by kernel_rfl))
theorem f592 (w : World) : Fk w 592 (tat tbd 105) := fk (o := o592) (oc := o591) (by kernel_rfl) (by kernel_rfl) (x9 (by kernel_rfl))
theorem f599 (w : World) : Fk w 599 (tat tbd 106) := fk (o := o599) (oc := o598) (by kernel_rfl) (by kernel_rfl) (y1 fun a => by kernel_rfl)
theorem f606 (w : World) : Fk w 606 (tat tbd 107) := fk (o := o606) (oc := o605) (by kernel_rfl) (by kernel_rfl) (y1 fun a => by kernel_rfl)
theorem f613 (w : World) : Fk w 613 (tat tbd 108) := fk (o := o613) (oc := o612) (by kernel_rfl) (by kernel_rfl) (yN fun a b => by kernel_rfl)
theorem f621 (w : World) : YA w (Hf w.params) 621 (zw (tat tbd 109) none) := qH (o := o621) (c := 620) (oc := o620) (n := 3) (by kernel_rfl) (by kernel_rfl) (qD (T := 614) (oT := o614) (by kernel_rfl) (by kernel_rfl) (by kernel_rfl) (fun S => y0 fun a b c => by kernel_rfl)) (fun v h => nomatch h)
theorem f628 (w : World) : Fk w 628 (tat tbd 114) := fk (o := o628) (oc := o627) (by kernel_rfl) (by kernel_rfl) (y1 fun a => by kernel_rfl)
theorem f643 (w : World) : YA w (Hf w.params) 643 (zw (tat (tcb tbd 115) 0) (some (.bool true))) := qH (o := o643) (c := 642) (oc := o642) (n := 2) (by kernel_rfl) (by kernel_rfl) (qD (T := 636) (oT := o636) (by kernel_rfl) (by kernel_rfl) (by kernel_rfl) (fun S => yN fun a b => by kernel_rfl)) (fun v h => X8 (d := (.bool true)) (T := 636) (oT := o636) (n := 1) h (fun _ _ _ _ _ => .bool) (by kernel_rfl) (by kernel_rfl) (by kernel_rfl) (fun S => dbind1 fun a => by kernel_rfl))
theorem f650 (w : World) : Fk w 650 (tat (tcb tbd 115) 1) := fk (o := o650) (oc := o649) (by kernel_rfl) (by kernel_rfl) (yN fun a b => by kernel_rfl)
theorem f657 (w : World) : Fk w 657 (tat (tcb tbd 115) 2) := fk (o := o657) (oc := o656) (by kernel_rfl) (by kernel_rfl) (y0 fun a b c => by kernel_rfl)
theorem f664 (w : World) : Fk w 664 (tat (tcb tbd 115) 3) := fk (o := o664) (oc := o663) (by kernel_rfl) (by kernel_rfl) (y0 fun a b c => by kernel_rfl)
theorem f671 (w : World) : Fk w 671 (tat (tcb tbd 115) 4) := fk (o := o671) (oc := o670) (by kernel_rfl) (by kernel_rfl) (y1 fun a => by kernel_rfl)
theorem f706 (w : World) : Fk w 706 (tat tbd 116) := fk (o := o706) (oc := o705) (by kernel_rfl) (by kernel_rfl) (y1 fun a => by kernel_rfl)
theorem f714 (w : World) : Fk w 714 (tat tbd 123) := fk (o := o714) (oc := o713) (by kernel_rfl) (by kernel_rfl) (qQ fun a b c d => by kernel_rfl)
theorem f728 (w : World) : Fk w 728 (tat (tcb tbd 124) 0) := fk (o := o728) (oc := o727) (by kernel_rfl) (by kernel_rfl) (y0 fun a b c => by kernel_rfl)
theorem f735 (w : World) : Fk w 735 (tat (tcb tbd 124) 1) := fk (o := o735) (oc := o734) (by kernel_rfl) (by kernel_rfl) (yN fun a b => by kernel_rfl)
theorem f742 (w : World) : Fk w 742 (tat (tcb tbd 124) 2) := fk (o := o742) (oc := o741) (by kernel_rfl) (by kernel_rfl) (yN fun a b => by kernel_rfl)
theorem f749 (w : World) : Fk w 749 (tat (tcb tbd 124) 3) := fk (o := o749) (oc := o748) (by kernel_rfl) (by kernel_rfl) (yN fun a b => by kernel_rfl)
theorem f763 (w : World) : Fk w 763 (tat tbd 125) := fk (o := o763) (oc := o762) (by kernel_rfl) (by kernel_rfl) (y0 fun a b c => by kernel_rfl)
theorem f770 (w : World) : Fk w 770 (tat tbd 126) := fk (o := o770) (oc := o769) (by kernel_rfl) (by kernel_rfl) (y0 fun a b c => by kernel_rfl)
theorem f777 (w : World) : Fk w 777 (tat tbd 127) := fk (o := o777) (oc := o776) (by kernel_rfl) (by kernel_rfl) (yN fun a b => by kernel_rfl)
theorem f782 (w : World) : Fk w 782 (tat tbd 128) := fk (o := o782) (oc := o781) (by kernel_rfl) (by kernel_rfl) (yN fun a b => by kernel_rfl)
theorem f789 (w : World) : Fk w 789 (tat tbd 129) := fk (o := o789) (oc := o788) (by kernel_rfl) (by kernel_rfl) (yN fun a b => by kernel_rfl)
theorem f796 (w : World) : Fk w 796 (tat tbd 130) := fk (o := o796) (oc := o795) (by kernel_rfl) (by kernel_rfl) (y0 fun a b c => by kernel_rfl)
theorem f810 (w : World) : Fk w 810 (tat (tcb tbd 131) 0) := fk (o := o810) (oc := o809) (by kernel_rfl) (by kernel_rfl) (y0 fun a b c => by kernel_rfl)
theorem f824 (w : World) : Fk w 824 (tat tbd 132) := fk (o := o824) (oc := o823) (by kernel_rfl) (by kernel_rfl) (qQ fun a b c d => by kernel_rfl)
theorem f831 (w : World) : Fk w 831 (tat tbd 133) := fk (o := o831) (oc := o830) (by kernel_rfl) (by kernel_rfl) (y0 fun a b c => by kernel_rfl)
theorem f838 (w : World) : Fk w 838 (tat tbd 134) := fk (o := o838) (oc := o837) (by kernel_rfl) (by kernel_rfl) (qQ fun a b c d => by kernel_rfl)
theorem f852 (w : World) : Fk w 852 (tat (tcb tbd 135) 0) := fk (o := o852) (oc := o851) (by kernel_rfl) (by kernel_rfl) (bind7 fun a b c d e f g => by kernel_rfl)
theorem f859 (w : World) : Fk w 859 (tat (tcb tbd 135) 1) := fk (o := o859) (oc := o858) (by kernel_rfl) (by kernel_rfl) (yN fun a b => by kernel_rfl)
theorem f866 (w : World) : Fk w 866 (tat (tcb tbd 135) 2) := fk (o := o866) (oc := o865) (by kernel_rfl) (by kernel_rfl) (y1 fun a => by kernel_rfl)
theorem f873 (w : World) : Fk w 873 (tat (tcb tbd 135) 3) := fk (o := o873) (oc := o872) (by kernel_rfl) (by kernel_rfl) (yN fun a b => by kernel_rfl)
theorem f887 (w : World) : Fk w 887 (tat tbd 136) := fk (o := o887) (oc := o886) (by kernel_rfl) (by kernel_rfl) (Dd fun a b c d e => by kernel_rfl)
theorem f892 (w : World) : Fk w 892 (tat tbd 137) := fk (o := o892) (oc := o891) (by kernel_rfl) (by kernel_rfl) (y0 fun a b c => by kernel_rfl)
theorem f899 (w : World) : Fk w 899 (tat tbd 139) := fk (o := o899) (oc := o898) (by kernel_rfl) (by kernel_rfl) (yN fun a b => by kernel_rfl)
theorem f906 (w : World) : Fk w 906 (tat tbd 140) := fk (o := o906) (oc := o905) (by kernel_rfl) (by kernel_rfl) (y1 fun a => by kernel_rfl)
theorem f920 (w : World) : Fk w 920 (tat (tcb tbd 141) 0) := fk (o := o920) (oc := o919) (by kernel_rfl) (by kernel_rfl) (qQ fun a b c d => by kernel_rfl)
theorem f927 (w : World) : Fk w 927 (tat (tcb tbd 141) 1) := fk (o := o927) (oc := o926) (by kernel_rfl) (by kernel_rfl) (yN fun a b => by kernel_rfl)
theorem f956 (w : World) : Fk w 956 (tat tbd 145) := fk (o := o956) (oc := o955) (by kernel_rfl) (by kernel_rfl) (y1 fun a => by kernel_rfl)
theorem f963 (w : World) : Fk w 963 (tat tbd 146) := fk (o := o963) (oc := o962) (by kernel_rfl) (by kernel_rfl) (yN fun a b => by kernel_rfl)
theorem f970 (w : World) : Fk w 970 (tat tbd 147) := fk (o := o970) (oc := o969) (by kernel_rfl) (by kernel_rfl) (qQ fun a b c d => by kernel_rfl)
theorem f977 (w : World) : Fk w 977 (tat tbd 148) := fk (o := o977) (oc := o976) (by kernel_rfl) (by kernel_rfl) (Dd fun a b c d e => by kernel_rfl)
theorem f982 (w : World) : Fk w 982 (tat tbd 149) := fk (o := o982) (oc := o981) (by kernel_rfl) (by kernel_rfl) (Dd fun a b c d e => by kernel_rfl)
theorem f987 (w : World) : Fk w 987 (tat tbd 150) := fk (o := o987) (oc := o986) (by kernel_rfl) (by kernel_rfl) (y1 fun a => by kernel_rfl)
theorem f992 (w : World) : Fk w 992 (tat tbd 151) := fk (o := o992) (oc := o991) (by kernel_rfl) (by kernel_rfl) (y1 fun a => by kernel_rfl)
theorem f999 (w : World) : Fk w 999 (tat tbd 152) := fk (o := o999) (oc := o998) (by kernel_rfl) (by kernel_rfl) (qQ fun a b c d => by kernel_rfl)
theorem f1004 (w : World) : Fk w 1004 (tat tbd 153) := fk (o := o1004) (oc := o1003) (by kernel_rfl) (by kernel_rfl) (y1 fun a => by kernel_rfl)
def kfr (P : Params) : Frag := [(457, o457), (456, o456 P), (454, o454), (534, o534), (533, o533 P), (509, o509), (516, o516), (695, o695), (694, o694 P), (643, o643), (650, o650), (657, o657), (664, o664), (671, o671), (752, o752), (751, o751 P), (728, o728), (735, o735), (742, o742), (749, o749), (813, o813), (812, o812 P), (810, o810), (876, o876), (875, o875 P), (852, o852), (859, o859), (866, o866), (873, o873), (937, o937), (936, o936 P), (920, o920), (927, o927)]
theorem kfr_in (P : Params) : (kfr P).In (Hf P) := Frag.in_of (as := [457, 456, 454, 534, 533, 509, 516, 695, 694, 643, 650, 657, 664, 671, 752, 751, 728, 735, 742, 749, 813, 812, 810, 876, 875, 852, 859, 866, 873, 937, 936, 920, 927]) rfl (by kernel_rfl)
noncomputable def c457 : ClI := ⟨454, [Str.ofString "kind", Str.ofString "scope", Str.ofString "first", Str.ofString "bounds"], []⟩
theorem k457 (P : Params) : xI (kfr P) 457 c457 := j6 (by kernel_rfl) (by kernel_rfl) (by kernel_rfl) (by kernel_rfl) (by kernel_rfl) (by kernel_rfl) (by kernel_rfl) (by kernel_rfl) (by kernel_rfl) (by kernel_rfl)
noncomputable def c534 : ClI := ⟨509, [Str.ofString "table", Str.ofString "scope", Str.ofString "parent", Str.ofString "values"], [(Str.ofString "get", 516)]⟩
theorem k534 (P : Params) : xI (kfr P) 534 c534 := j6 (by kernel_rfl) (by kernel_rfl) (by kernel_rfl) (by kernel_rfl) (by kernel_rfl) (by kernel_rfl) (by kernel_rfl) (by kernel_rfl) (by kernel_rfl) (by kernel_rfl)
noncomputable def c695 : ClI := ⟨643, [Str.ofString "is_utf8", Str.ofString "left", Str.ofString "code", Str.ofString "low", Str.ofString "high"], [(Str.ofString "feed", 650), (Str.ofString "begin", 657), (Str.ofString "go_on", 664), (Str.ofString "rest", 671)]⟩
theorem k695 (P : Params) : xI (kfr P) 695 c695 := j6 (by kernel_rfl) (by kernel_rfl) (by kernel_rfl) (by kernel_rfl) (by kernel_rfl) (by kernel_rfl) (by kernel_rfl) (by kernel_rfl) (by kernel_rfl) (by kernel_rfl)
noncomputable def c752 : ClI := ⟨728, [Str.ofString "table", Str.ofString "base", Str.ofString "aside", Str.ofString "pen", Str.ofString "fill", Str.ofString "align", Str.ofString "cells"], [(Str.ofString "put", 735), (Str.ofString "style", 742), (Str.ofString "read", 749)]⟩
theorem k752 (P : Params) : xI (kfr P) 752 c752 := j6 (by kernel_rfl) (by kernel_rfl) (by kernel_rfl) (by kernel_rfl) (by kernel_rfl) (by kernel_rfl) (by kernel_rfl) (by kernel_rfl) (by kernel_rfl) (by kernel_rfl)
noncomputable def c813 : ClI := ⟨810, [Str.ofString "cells", Str.ofString "spots"], []⟩
theorem k813 (P : Params) : xI (kfr P) 813 c813 := j6 (by kernel_rfl) (by kernel_rfl) (by kernel_rfl) (by kernel_rfl) (by kernel_rfl) (by kernel_rfl) (by kernel_rfl) (by kernel_rfl) (by kernel_rfl) (by kernel_rfl)
noncomputable def c876 : ClI := ⟨852, [Str.ofString "pen", Str.ofString "width", Str.ofString "current", Str.ofString "left", Str.ofString "right", Str.ofString "windows", Str.ofString "room", Str.ofString "offset", Str.ofString "column"], [(Str.ofString "list_shift", 859), (Str.ofString "cells", 866), (Str.ofString "window_at", 873)]⟩
theorem k876 (P : Params) : xI (kfr P) 876 c876 := j6 (by kernel_rfl) (by kernel_rfl) (by kernel_rfl) (by kernel_rfl) (by kernel_rfl) (by kernel_rfl) (by kernel_rfl) (by kernel_rfl) (by kernel_rfl) (by kernel_rfl)
noncomputable def c937 : ClI := ⟨920, [Str.ofString "wide", Str.ofString "marks", Str.ofString "joiners"], [(Str.ofString "width_of", 927)]⟩
theorem k937 (P : Params) : xI (kfr P) 937 c937 := j6 (by kernel_rfl) (by kernel_rfl) (by kernel_rfl) (by kernel_rfl) (by kernel_rfl) (by kernel_rfl) (by kernel_rfl) (by kernel_rfl) (by kernel_rfl) (by kernel_rfl)
noncomputable def gp (x : String) (v : PV) : Str × PV := (Str.ofString x, v)
def gT : List (Str × PV) := [gp "BOLD" (.int 1),
 gp "FAINT" (.int 2),
 gp "ITALIC" (.int 4),
 gp "BLINK" (.int 8),
 gp "INVERSE" (.int 32),
 gp "HIDDEN" (.int 64),
 gp "STRUCK" (.int 128),
 gp "OVERLINE" (.int 256),
 gp "UNDER_SHIFT" (.int 9),
 gp "UNDER_MASK" (.int 3584),
 gp "NO_COLOUR" (.int (-1)),
 gp "DIRECT" (.int 16777216),
 gp "PLAIN" (.tup [(.int 0), (.int (-1)), (.int (-1)), (.int (-1)), (.int 0)]),
 gp "FORE" (.int 1),
 gp "BACK" (.int 2),
 gp "UNDER" (.int 3),
 gp "BLANK" (.int 32),
 gp "DELETE" (.int 127),
 gp "clamp" (.con (.ref 86)),
 gp "number_of" (.con (.ref 100)),
 gp "pen_with" (.con (.ref 114)),
 gp "erased_pen" (.con (.ref 135)),
 gp "blank_cell" (.con (.ref 142)),
 gp "line_slice" (.con (.ref 149)),
 gp "SIGN" (.int 35),
 gp "OPEN" (.int 123),
 gp "CLOSE" (.int 125),
 gp "COMMA" (.int 44),
 gp "COLON" (.int 58),
 gp "SEMICOLON" (.int 59),
 gp "SLASH" (.int 47),
 gp "MINUS" (.int 45),
 gp "BACKSLASH" (.int 92),
 gp "MOST_DEEP" (.int 10),
 gp "MOST_WIDE" (.int 10000),
 gp "PLAIN_MODIFIERS" (.tup [(.bytes #[108]), (.bytes #[69]), (.bytes #[84]), (.bytes #[98]), (.bytes #[100]), (.bytes #[110]), (.bytes #[119]), (.bytes #[97]), (.bytes #[83]), (.bytes #[87]), (.bytes #[80]), (.bytes #[33]), (.bytes #[33,33])]),
 gp "PAIR_MODIFIERS" (.tup [(.bytes #[124,124]), (.bytes #[38,38]), (.bytes #[61,61]), (.bytes #[33,61]), (.bytes #[60,61]), (.bytes #[62,61]), (.bytes #[60]), (.bytes #[62])]),
 gp "TOLD_MODIFIERS" (.bytes #[109,78,115,116,61,112,101,113,82]),
 gp "SPECIAL" (.bytes #[32,9,124,38,59,60,62,40,41,36,96,34,39,42,63,91,35,61,37,92,126,33,123,125]),
 gp "DAY" (.int 86400),
 gp "format_letters" (.con (.ref 168)),
 gp "format_end" (.con (.ref 189)),
 gp "format_modifier_at" (.con (.ref 224)),
 gp "format_modifiers" (.con (.ref 238)),
 gp "format_modifier" (.con (.ref 245)),
 gp "expand_format" (.con (.ref 252)),
 gp "format_expanded" (.con (.ref 259)),
 gp "format_part" (.con (.ref 264)),
 gp "format_told" (.con (.ref 271)),
 gp "format_value" (.con (.ref 278)),
 gp "format_pieces" (.con (.ref 405)),
 gp "format_finished" (.con (.ref 436)),
 gp "OPTION_OWN" (.int 64),
 gp "STYLE_PARTS" (.tup [(.bytes #[97,108,105,103,110]), (.bytes #[102,105,108,108]), (.bytes #[108,105,115,116]), (.bytes #[114,97,110,103,101])]),
 gp "STYLE_ALONE" (.tup [(.bytes #[110,111,108,105,115,116]), (.bytes #[110,111,114,97,110,103,101]), (.bytes #[110,111,97,108,105,103,110]), (.bytes #[112,117,115,104,45,100,101,102,97,117,108,116]), (.bytes #[112,111,112,45,100,101,102,97,117,108,116]), (.bytes #[105,103,110,111,114,101]), (.bytes #[110,111,105,103,110,111,114,101])]),
 gp "OptionKind" (.con (.ref 457)),
 gp "option_name" (.con (.ref 480)),
 gp "Options" (.con (.ref 534)),
 gp "style_names" (.con (.ref 573)),
 gp "style_colour" (.con (.ref 578)),
 gp "style_bits" (.con (.ref 585)),
 gp "style_unders" (.con (.ref 592)),
 gp "style_part" (.con (.ref 599)),
 gp "style_parts" (.con (.ref 606)),
 gp "style_word_over" (.con (.ref 613)),
 gp "style_over" (.con (.ref 621)),
 gp "SIGN_ILL" (.int 65533),
 gp "SIGN_TRAIL" (.int 128),
 gp "SIGN_MASK" (.int 63),
 gp "sign_lead" (.con (.ref 628)),
 gp "SignReader" (.con (.ref 695)),
 gp "codes_of_utf8" (.con (.ref 706)),
 gp "ALIGNS" (.tup [(.bytes #[108,101,102,116]), (.bytes #[99,101,110,116,114,101]), (.bytes #[114,105,103,104,116]), (.bytes #[97,98,115,111,108,117,116,101,45,99,101,110,116,114,101])]),
 gp "LESS_SIGN" (.int 60),
 gp "MORE_SIGN" (.int 62),
 gp "CONTROL_LAST" (.int 159),
 gp "LEAST_MARKED" (.int 3),
 gp "status_put" (.con (.ref 714)),
 gp "StyledText" (.con (.ref 752)),
 gp "styled_cells" (.con (.ref 763)),
 gp "styled_pen" (.con (.ref 770)),
 gp "status_expanded" (.con (.ref 777)),
 gp "status_blanks" (.con (.ref 782)),
 gp "status_cut" (.con (.ref 789)),
 gp "status_laid" (.con (.ref 796)),
 gp "WindowList" (.con (.ref 813)),
 gp "window_list" (.con (.ref 824)),
 gp "window_list_offset" (.con (.ref 831)),
 gp "window_list_cells" (.con (.ref 838)),
 gp "StatusPlan" (.con (.ref 876)),
 gp "status_side" (.con (.ref 887)),
 gp "border_column" (.con (.ref 892)),
 gp "width_in_ranges" (.con (.ref 899)),
 gp "width_check_ranges" (.con (.ref 906)),
 gp "WidthTable" (.con (.ref 937)),
 gp "_law_ways" (.tup [(.bytes #[108,101,102,116]), (.bytes #[99,101,110,116,114,101]), (.bytes #[114,105,103,104,116]), (.bytes #[97,98,115,111,108,117,116,101,45,99,101,110,116,114,101])]),
 gp "_law_styles" (.tup [(.tup [(.bytes #[102,103,61,114,101,100]), (.tup [(.int 0), (.int 1), (.int (-1)), (.int (-1)), (.int 0)])]), (.tup [(.bytes #[98,103,61,99,111,108,111,117,114,55]), (.tup [(.int 0), (.int (-1)), (.int 7), (.int (-1)), (.int 0)])]), (.tup [(.bytes #[100,101,102,97,117,108,116]), (.tup [(.int 0), (.int (-1)), (.int (-1)), (.int (-1)), (.int 0)])]), (.tup [(.bytes #[98,111,108,100]), (.tup [(.int 1), (.int (-1)), (.int (-1)), (.int (-1)), (.int 0)])])]),
 gp "_law_deck" (.con (.ref 956)),
 gp "_law_draw" (.con (.ref 963)),
 gp "_law_list" (.con (.ref 970)),
 gp "_law_shift" (.con (.ref 977)),
 gp "_law_row" (.con (.ref 982)),
 gp "_law_codes" (.con (.ref 987)),
 gp "_law_border_right" (.con (.ref 992)),
 gp "_law_options" (.con (.ref 999)),
 gp "law" (.con (.ref 1004))]
noncomputable def gB0 : List (Str × BI) := [("len", .len), ("max", .max), ("min", .min), ("int", .int), ("list", .list), ("tuple", .tuple), ("bytes", .bytes), ("bytearray", .bytearray), ("range", .range), ("enumerate", .enumerate)]
noncomputable def gB : List (Str × PV) := [("len", .bi .len), ("max", .bi .max), ("min", .bi .min), ("int", .bi .int), ("list", .bi .list), ("tuple", .bi .tuple), ("bytes", .bi .bytes), ("bytearray", .bi .bytearray), ("range", .bi .range), ("enumerate", .bi .enumerate)]
def fnT : List (Addr × FnI) := [(86, zw (tat tbd 24) none),
 (100, zw (tat tbd 26) none),
 (114, zw (tat tbd 28) none),
 (135, zw (tat tbd 31) none),
 (142, zw (tat tbd 32) none),
 (149, zw (tat tbd 34) none),
 (168, zw (tat tbd 48) none),
 (189, zw (tat tbd 51) none),
 (224, zw (tat tbd 54) none),
 (238, zw (tat tbd 56) none),
 (245, zw (tat tbd 57) none),
 (252, zw (tat tbd 58) none),
 (259, zw (tat tbd 59) none),
 (264, zw (tat tbd 60) none),
 (271, zw (tat tbd 61) none),
 (278, zw (tat tbd 62) none),
 (405, zw (tat tbd 81) none),
 (436, zw (tat tbd 86) none),
 (454, zw (tat (tcb tbd 91) 0) (some (.tup []))),
 (480, zw (tat tbd 94) none),
 (509, zw (tat (tcb tbd 97) 0) (some .none)),
 (516, zw (tat (tcb tbd 97) 1) none),
 (573, zw (tat tbd 102) none),
 (578, zw (tat tbd 103) none),
 (585, zw (tat tbd 104) none),
 (592, zw (tat tbd 105) none),
 (599, zw (tat tbd 106) none),
 (606, zw (tat tbd 107) none),
 (613, zw (tat tbd 108) none),
 (621, zw (tat tbd 109) none),
 (628, zw (tat tbd 114) none),
 (643, zw (tat (tcb tbd 115) 0) (some (.bool true))),
 (650, zw (tat (tcb tbd 115) 1) none),
 (657, zw (tat (tcb tbd 115) 2) none),
 (664, zw (tat (tcb tbd 115) 3) none),
 (671, zw (tat (tcb tbd 115) 4) none),
 (706, zw (tat tbd 116) none),
 (714, zw (tat tbd 123) none),
 (728, zw (tat (tcb tbd 124) 0) none),
 (735, zw (tat (tcb tbd 124) 1) none),
 (742, zw (tat (tcb tbd 124) 2) none),
 (749, zw (tat (tcb tbd 124) 3) none),
 (763, zw (tat tbd 125) none),
 (770, zw (tat tbd 126) none),
 (777, zw (tat tbd 127) none),
 (782, zw (tat tbd 128) none),
 (789, zw (tat tbd 129) none),
 (796, zw (tat tbd 130) none),
 (810, zw (tat (tcb tbd 131) 0) none),
 (824, zw (tat tbd 132) none),
 (831, zw (tat tbd 133) none),
 (838, zw (tat tbd 134) none),
 (852, zw (tat (tcb tbd 135) 0) none),
 (859, zw (tat (tcb tbd 135) 1) none),
 (866, zw (tat (tcb tbd 135) 2) none),
 (873, zw (tat (tcb tbd 135) 3) none),
 (887, zw (tat tbd 136) none),
 (892, zw (tat tbd 137) none),
 (899, zw (tat tbd 139) none),
 (906, zw (tat tbd 140) none),
 (920, zw (tat (tcb tbd 141) 0) none),
 (927, zw (tat (tcb tbd 141) 1) none),
 (956, zw (tat tbd 145) none),
 (963, zw (tat tbd 146) none),
 (970, zw (tat tbd 147) none),
 (977, zw (tat tbd 148) none),
 (982, zw (tat tbd 149) none),
 (987, zw (tat tbd 150) none),
 (992, zw (tat tbd 151) none),
 (999, zw (tat tbd 152) none),
 (1004, zw (tat tbd 153) none)]
def clT : List (Addr × ClI) := [(457, c457), (534, c534), (695, c695), (752, c752), (813, c813), (876, c876), (937, c937)]
def yF (a : Addr) : Prop := a < 1005
def W0 : Wd := ⟨gT ++ gB, fnT, clT⟩
noncomputable def rdL (g : Value → Option PV) : List Value → Option (List PV)
 | [] => some []
 | v :: r => (g v).bind fun a => (rdL g r).bind fun b => some (a :: b)
def tyN (v : Value) : Option String := match v with | .type T => some T | _ => none
def itsOf (d : Data) : Option (Array Value) := match d with | .seq its _ => some its | _ => none
noncomputable def AQ (o : Obj) : Option (Array Value) := match o with
 | ⟨c, d, dt, sl⟩ => (tyN c).bind fun T => bOf (decide (T = "tuple") && d.isNone && Nat.beq sl.size 0) (itsOf dt)
def rdRef (t : BT) (g : Value → Option PV) (a : Addr) : Option PV := (t.get a).bind fun o => match AQ o with
 | some its => (rdL g its.toList).bind fun r => bOf (Nat.blt a 1005 && !(Nat.beq a 1)) (some (.tup r))
 | none => some (.con (.ref a))
def rdV (t : BT) : Nat → Value → Option PV
 | 0, _ => none
 | n + 1, v => match v with
  | .none => some .none
  | .bool b => some (.bool b)
  | .int i _ => some (.int i)
  | .str x _ => some (.str x)
  | .bytes b _ => some (.bytes b)
  | .ref a => rdRef t (rdV t n) a
  | _ => none
theorem DC {w : World} {g : Value → Option PV} (hg : ∀ v u, g v = some u → GV w (Hf w.params) v u) (vs : List Value) (us : List PV) (e : rdL g vs = some us) (Z : AP) (μ : LA) (h : Heap) (hk : KIn (Hf w.params) h) (hz : ∀ a o, (Hf w.params).get? a = some o → a ≠ sysModules → Z a) : RVs w Z μ h us vs := by
 induction vs generalizing us with
 | nil => rw [← Option.some.inj e]; exact .nil
 | cons v r ih => obtain ⟨a, h1, e⟩ := zp e; obtain ⟨b, h2, rfl⟩ := zL e; exact .cons (hg _ _ h1 Z μ h hk hz) (ih _ h2)
theorem tyN_at {v : Value} {T : String} (h : tyN v = some T) : v = .type T := by rcases v <;> first | (cases h; rfl) | cases h
theorem FC {d : Data} {its : Array Value} (h : itsOf d = some its) : ∃ n, d = .seq its n := by rcases d <;> first | (cases h; exact ⟨_, rfl⟩) | cases h
theorem Du {o : Obj} {its : Array Value} (h : AQ o = some its) : ∃ n, o = ⟨.type "tuple", none, .seq its n, #[]⟩ := by
 obtain ⟨c, d, dt, sl⟩ := o
 obtain ⟨T, h1, h⟩ := zp h
 obtain ⟨q, h⟩ := zQ h
 obtain ⟨n, rfl⟩ := FC h
 rw [tyN_at h1, of_decide_eq_true (zI (zI q).1).1, Option.isNone_iff_eq_none.mp (zI (zI q).1).2, Array.eq_empty_of_size_eq_zero (Nat.eq_of_beq_eq_true (zI q).2)]
 exact ⟨n, rfl⟩
theorem QJ {w : World} {g : Value → Option PV} (hg : ∀ v u, g v = some u → GV w (Hf w.params) v u) {a : Addr} {u : PV} (e : rdRef (z5 w.params) g a = some u) : GV w (Hf w.params) (.ref a) u := by
 obtain ⟨o, ho, e⟩ := zp e
 intro Z μ h hk hz
 cases hi : AQ o with
 | none => rw [hi] at e; rw [← Option.some.inj e]; exact .con
 | some its =>
  rw [hi] at e
  obtain ⟨r, hr, e⟩ := zp e
  obtain ⟨q, e⟩ := zQ e
  obtain ⟨k, rfl⟩ := Du hi
  have g := Ya ho (zI q).1 rfl
  rw [← Option.some.inj e]
  exact .tup (hz a _ g fun e => by rw [e] at q; exact nomatch (zI q).2) (hk _ _ g) (DC hg _ _ hr Z μ h hk hz)
theorem DB {w : World} (n : Nat) (v : Value) (u : PV) (e : rdV (z5 w.params) n v = some u) : GV w (Hf w.params) v u := by
 induction n generalizing v u with
 | zero => cases e
 | succ n ih =>
  rcases v <;> first | cases e; done | (rw [← Option.some.inj e]; intro Z μ h hk hz; first | exact .none | exact .bool | exact .int | exact .str | exact .bytes) | exact QJ ih e
theorem g_top (w : World) : gT.map (fun x => ((Hf w.params).nsMap mainGlobals x.1).bind (rdV (z5 w.params) 5)) = gT.map fun x => some x.2 := by kernel_rfl
theorem g_blt (w : World) : gB0.map (fun x => ((Hf w.params).nsMap mainGlobals x.1, (Hf w.params).nsMap builtinsNs x.1)) = gB0.map fun x => (none, some x.2.val) := by kernel_rfl
theorem gB_eq : gB = gB0.map fun x => (x.1, .bi x.2) := by kernel_rfl
theorem ns_ok (w : World) : (Hf w.params).isNs mainGlobals = true ∧ (Hf w.params).isNs builtinsNs = true := ⟨by kernel_rfl, by kernel_rfl⟩
def Dl (w : World) : List (Addr × FnI) → Prop
 | [] => True
 | x :: r => YA w (Hf w.params) x.1 x.2 ∧ Dl w r
theorem Dl.at {w : World} {l : List (Addr × FnI)} {a : Addr} {fi : FnI} (h : Dl w l) (e : lkA l a = some fi) : YA w (Hf w.params) a fi := by
 induction l with
 | nil => cases e
 | cons p r ih =>
  change (match Nat.beq p.1 a with | true => some p.2 | false => lkA r a) = some fi at e
  cases q : Nat.beq p.1 a with
  | true => rw [q] at e; rw [← Nat.eq_of_beq_eq_true q, ← Option.some.inj e]; exact h.1
  | false => rw [q] at e; exact ih h.2 e
def Dm (P : Params) : List (Addr × ClI) → Prop
 | [] => True
 | x :: r => xI (kfr P) x.1 x.2 ∧ Dm P r
theorem Dm.at {P : Params} {l : List (Addr × ClI)} {a : Addr} {ci : ClI} (h : Dm P l) (e : lkA l a = some ci) : xI (kfr P) a ci := by
 induction l with
 | nil => cases e
 | cons p r ih =>
  change (match Nat.beq p.1 a with | true => some p.2 | false => lkA r a) = some ci at e
  cases q : Nat.beq p.1 a with
  | true => rw [q] at e; rw [← Nat.eq_of_beq_eq_true q, ← Option.some.inj e]; exact h.1
  | false => rw [q] at e; exact ih h.2 e
theorem fn_all (w : World) : Dl w fnT := ⟨f86 w, f100 w, f114 w, f135 w, f142 w, f149 w, f168 w, f189 w, f224 w, f238 w, f245 w, f252 w, f259 w, f264 w, f271 w, f278 w, f405 w, f436 w, f454 w, f480 w, f509 w, f516 w, f573 w, f578 w, f585 w, f592 w, f599 w, f606 w, f613 w, f621 w, f628 w, f643 w, f650 w, f657 w, f664 w, f671 w, f706 w, f714 w, f728 w, f735 w, f742 w, f749 w, f763 w, f770 w, f777 w, f782 w, f789 w, f796 w, f810 w, f824 w, f831 w, f838 w, f852 w, f859 w, f866 w, f873 w, f887 w, f892 w, f899 w, f906 w, f920 w, f927 w, f956 w, f963 w, f970 w, f977 w, f982 w, f987 w, f992 w, f999 w, f1004 w, trivial⟩
theorem cl_all (P : Params) : Dm P clT := ⟨k457 P, k534 P, k695 P, k752 P, k813 P, k876 P, k937 P, trivial⟩
theorem wok (w : World) : WOk w (Hf w.params) yF (kfr w.params) W0 := by
 refine ⟨fun a o e => ?_, kfr_in _, ⟨_, _, .of_isNs (ns_ok w).1, .of_isNs (ns_ok w).2, fun x v h => ?_⟩, fun a fi h => (fn_all w).at h, fun a ci h => (cl_all w.params).at h⟩
 ·have := Heap.lt_size e
  rwa [absHeap_size] at this
 ·have hm := J6 h
  rcases List.mem_append.mp hm with hm | hm
  ·have := List.map_inj_left.mp (g_top w) _ hm
   obtain ⟨a, h1, h2⟩ := Option.bind_eq_some_iff.mp this
   exact .inl ⟨a, h1, DB 5 a v h2⟩
  ·rw [gB_eq] at hm
   obtain ⟨⟨y, k⟩, hm', e⟩ := List.mem_map.mp hm
   cases e
   have := List.map_inj_left.mp (g_blt w) _ hm'
   simp only [Prod.mk.injEq] at this
   exact .inr ⟨this.1, k.val, this.2, fun _ _ _ _ _ => .bi⟩
end
section
abbrev PO (w : World) (dp : Nat) (a : Addr) (args : List PV) (r : PV) : Prop := jr pr w (Hf w.params) yF dp (.con (.ref a)) args r
theorem Eu (w : World) : ((List.range 1005).all fun a => match (z5 w.params).get a with | some o => (match alive o with | some _ => true | none => false) | none => false) = true := by kernel_rfl
theorem J9 (w : World) {a : Addr} (h : a < 1005) : ∃ o, (Hf w.params).get? a = some o := by
 have := List.all_eq_true.mp (Eu w) a (List.mem_range.mpr h)
 split at this
 ·rename_i o ho
  split at this
  ·rename_i o' ha
   exact ⟨o', (abs_get h ho).trans ha⟩
  ·cases this
 ·cases this
theorem Fa (w : World) : (Hf w.params).NoLimit := ⟨_, .of_isNs (show (Hf w.params).isNs cStatics = true by kernel_rfl), by kernel_rfl⟩
theorem CK {w : World} {Z : AP} {μ : LA} {h : Heap} : ∀ (xs : List Int) (k : Nat), RVs w Z μ h (xs.map .int) (j2 xs k)
 | [], _ => .nil
 | i :: r, k => .cons .int (CK r (k + 1))
theorem amb_top : Amb callerA 60 := ⟨rfl, by decide, by decide⟩
theorem call_of (H : ∀ (w : World) (xs : List Int), xs.length ≤ 63 → PO w 60 1004 [.list (xs.map .int)] (.bool true)) : BX := by
 intro w os xs hlen
 have hnew : (j0 w.params xs).get? 1005 = some { cls := .type "list", data := .seq (j2 xs 1770).toArray } := by
  have := Heap.get?_push_size (Hf w.params) (o := { cls := .type "list", data := .seq (j2 xs 1770).toArray }) rfl
  rwa [absHeap_size] at this
 have hk : KIn (Hf w.params) (j0 w.params xs) := fun a o e => Heap.get?_push_of_some _ e
 have S : St w (Hf w.params) yF (fun a => a ≠ sysModules ∧ a < 1006) [] [] (yT w os xs) := by
  refine ⟨hk, (Fa w).keeps fun a o e => hk a o e, fun a ha => ?_, fun a z => ⟨?_, by simp⟩, rfl, List.nodup_nil, (fun a q => nomatch q), (fun l c a e => nomatch e), (show 2 < 1005 by decide), (show 1 < 1005 by decide), fun a z => z.1, fun a o e n => ⟨n, ?_⟩⟩
  ·obtain ⟨o, e⟩ := J9 w ha
   exact ⟨o, hk _ _ e⟩
  ·by_cases h : a < 1005
   ·obtain ⟨o, e⟩ := J9 w h
    exact ⟨o, hk _ _ e⟩
   ·obtain rfl : a = 1005 := Nat.le_antisymm (Nat.le_of_lt_succ z.2) (Nat.not_lt.mp h)
    exact ⟨_, hnew⟩
  ·have := Heap.lt_size e
   rw [absHeap_size] at this
   exact Nat.lt_succ_of_lt this
 refine H w xs hlen [] callerA (yT w os xs) (fun a => a ≠ sysModules ∧ a < 1006) [] (.ref 1004) [.ref 1005] _ amb_top S .con (.cons (.list ⟨by decide, by decide⟩ hnew (CK xs 1770)) .nil) fun v σ' s' Z' μ' a e S' X r => ?_
 obtain ⟨rfl, rfl⟩ := e
 cases r
 exact ⟨rfl, X.gens, X.os, fun b o e => X.pres b o e (by simp) fun q => q⟩
end
section
/-! the evaluator on paths, upon the law's program -/
abbrev MC (w : World) (dp : Nat) (a : Addr) (args : List PV) (σ : za) (D : KD) : Prop := yr pr w (Hf w.params) yF dp (.con (.ref a)) args σ D
abbrev ET (w : World) (stp : Expr → Bool) (n : Nat) : yg RT → RT := evT pr w (Hf w.params) yF W0 stp n
noncomputable def nos : Expr → Bool := fun _ => false
abbrev CT (w : World) (stp : Expr → Bool) (dp : Nat) (a : Addr) (args : List PV) (σ : za) (D : KD) : RT := xE anT W0 (ET w stp 100) dp (.con (.ref a)) args σ fun v σ => jn (D v σ)
theorem goF (w : World) {dp : Nat} {a : Addr} {args : List PV} {σ : za} {D : KD} (h : TI (CT w nos dp a args σ D)) : MC w dp a args σ D := goC (wok w) 100 nos h
theorem Br (w : World) (stp : Expr → Bool) {dp : Nat} {a : Addr} {args : List PV} {σ : za} {D : KD} (h : TI (CT w stp dp a args σ D)) : MC w dp a args σ D := goC (wok w) 100 stp h
def stN (i j : Nat) : Stmt := (zw (tat tbd i) none).body.getD j (.Pass default)
def stM (c i j : Nat) : Stmt := (zw (tat (tcb tbd c) i) none).body.getD j (.Pass default)
noncomputable def retE : Stmt → Expr
 | .Return (some e) _ => e
 | _ => .Constant .none 0 default
noncomputable def Qn : Stmt → Expr
 | .Assign _ e _ => e
 | _ => .Constant .none 0 default
noncomputable def opsE (e : Expr) : Expr × Expr := match e with
 | .Compare l _ rs _ => (l, rs.getD 0 (.Constant .none 0 default))
 | .BinOp l _ r _ => (l, r)
 | _ => (.Constant .none 0 default, .Constant .none 0 default)
structure CP where
 elt : Expr
 tgt : Expr
 ifs : List Expr
 sc : List (Str × NameKind)
noncomputable def cpE : Expr → CP
 | .ListComp elt [⟨t, _, ifs, _⟩] sc _ => ⟨elt, t, ifs, sc.names⟩
 | _ => ⟨.Constant .none 0 default, .Constant .none 0 default, [], []⟩
noncomputable def posN : Expr → Pos
 | .Name _ p => p
 | _ => default
def CP.fr (c : CP) (dp : Nat) : Fr0 := ⟨y2 c.sc, dp⟩
structure FP where
 tgt : Expr
 body : List Stmt
 els : List Stmt
noncomputable def fpS : Stmt → FP
 | .For t _ b o _ => ⟨t, b, o⟩
 | _ => ⟨.Constant .none 0 default, [], []⟩
def frN (i dp : Nat) : Fr0 := ⟨(zw (tat tbd i) none).names, dp⟩
def frM (c i dp : Nat) : Fr0 := ⟨(zw (tat (tcb tbd c) i) none).names, dp⟩
abbrev MKm (w : World) (c : CP) (dp : Nat) (x : Str) (src : Src) (l : Nat) (ρ : zc) (σ : za) (D : za → Prop) : Prop := j8 pr w (Hf w.params) yF (c.fr dp) c.elt (.Name x (posN c.tgt)) [] src 0 l ρ σ D
abbrev ME (w : World) (f : Fr0) (e : Expr) (ρ : zc) (σ : za) (D : KD) : Prop := BxE pr w (Hf w.params) yF f e ρ σ D
abbrev CS (w : World) (dp : Nat) (a : Addr) (args : List PV) (σ : za) (r : PV) : Prop := ∀ D : KD, D r σ → MC w dp a args σ D
abbrev CE (w : World) (f : Fr0) (e : Expr) (ρ : zc) (σ : za) (r : PV) : Prop := ∀ D : KD, D r σ → ME w f e ρ σ D
theorem goX (w : World) {f : Fr0} {e : Expr} {ρ : zc} {σ : za} {D : KD} (h : TI (xO anT W0 (ET w nos 100) f e ρ σ fun v σ => jn (D v σ))) : ME w f e ρ σ D := goE (wok w) 100 nos h
theorem PO.gm {w : World} {d dp : Nat} {a : Addr} {args : List PV} {r : PV} (h : PO w d a args r) (hd : d ≤ dp) {σ : za} (D : KD) (c : D r σ) : MC w dp a args σ D := jr.goM h hd c
theorem evs (w : World) : Sound pr w (Hf w.params) yF anT (ET w nos 100) := (xP (wok w) 100).toSound
end
section
inductive Cl where
 | one (c : Int) | wide (c : Int) | tail | blank
noncomputable def zq : PV := .tup [.int 0, .int (-1), .int (-1), .int (-1), .int 0]
noncomputable def Cl.cd : Cl → PV
 | .one c => .tup [.int c]
 | .wide c => .tup [.int c]
 | .tail => .tup []
 | .blank => .tup []
noncomputable def Cl.w : Cl → Int
 | .one _ => 1
 | .wide _ => 2
 | .tail => 0
 | .blank => 1
def Cl.pv (c : Cl) : PV := .tup [c.cd, .int c.w, zq, .bool false]
def pvs (cs : List Cl) : List PV := cs.map Cl.pv
theorem lt4 {n : Nat} (h : n < 4) : n = 0 ∨ n = 1 ∨ n = 2 ∨ n = 3 := (by decide : ∀ n, n < 4 → n = 0 ∨ n = 1 ∨ n = 2 ∨ n = 3) n h
theorem Ff (c : Cl) : zD c.pv = true := by cases c <;> rfl
theorem yf {α : Type} {g : α → PV} (h : ∀ x, zD (g x) = true) : ∀ l : List α, zx (l.map g) = true
 | [] => rfl
 | x :: r => by simp [zx, h, yf h r]
theorem z7 (cs : List Cl) : zx (pvs cs) = true := yf Ff cs
theorem dep_pv (c : Cl) : dep c.pv = 2 := by cases c <;> rfl
theorem YJ {n : Nat} : ∀ {vs : List PV}, (∀ v ∈ vs, dep v ≤ n) → j5 vs ≤ n
 | [], _ => by simp [j5]
 | v :: vs, h => by
  simp only [j5]
  exact Nat.max_le.mpr ⟨h v (by simp), YJ fun u hu => h u (by simp [hu])⟩
theorem An (cs : List Cl) : Nat.ble (j5 (pvs cs)) 20 = true := Nat.ble_eq.mpr (Nat.le_trans (YJ (n := 2) fun v hv => by
 obtain ⟨c, _, rfl⟩ := List.mem_map.mp hv
 exact Nat.le_of_eq (dep_pv c)) (by decide))
section
variable {w : World} {dp : Nat} {a : Addr} {args : List PV} {r : PV}
theorem xd (ha : zx args = true) (h : ∀ D : KD, (∀ u σ', FzV σ' 0 u r → D u σ') → MC w dp a args [] D) : PO w dp a args r :=
 XF rfl ha (h _ fun u σ' f => f)
theorem jC (h : ∀ (σ : za) (D : KD), D r σ → MC w dp a args σ D) : PO w dp a args r := Cj h
theorem zW (ha : zx args = true) (N M : Nat) (e : evK BV W0 N (.callV dp (.con (.ref a)) args [] fun u σ' => fzG σ' 0 M u = some r) = (some r = some r)) : PO w dp a args r :=
 XF rfl ha (((Yc BV (wok w) N).callV _ _ _ _ _ (show evK BV W0 N _ by rw [e])).mono fun u σ' c => BB M u r c)
end
theorem qC {n j : Nat} (h : j < n) (hb : j < 1099511627776) : idx n (j : Int) = some j := by
 show (match decide (0 ≤ (j : Int)) with | true => bOf (decide ((j : Int) < n) && decide ((j : Int) < 1099511627776)) (some (j : Int).toNat) | false => bOf (decide (-(n : Int) ≤ j) && decide (-1099511627776 ≤ (j : Int))) (some ((j : Int) + n).toNat)) = _
 rw [decide_eq_true (Int.natCast_nonneg j), decide_eq_true (Int.ofNat_lt.mpr h), decide_eq_true (show (j : Int) < 1099511627776 from Int.ofNat_lt.mpr hb)]
 rfl
theorem Q5 {n : Nat} (h : 0 < n) : idx n (-1) = some (n - 1) := by
 show bOf (decide (-(n : Int) ≤ -1) && true) (some (-1 + (n : Int)).toNat) = _
 rw [decide_eq_true (show -(n : Int) ≤ -1 from Int.neg_le_neg (Int.ofNat_le.mpr h)), Int.add_comm, ← Int.sub_eq_add_neg, show (n : Int) - 1 = ((n - 1 : Nat) : Int) from (Int.ofNat_sub h).symm]
 rfl
theorem qh {σ : za} {l m : Nat} {v : PV} {vs : List PV} (h1 : σ[l]? = some (.list (v :: vs))) (h2 : σ[m]? = some (.list [])) (hd : Nat.ble (j5 (v :: vs)) 20 = true) : z0 σ .NotEq (.loc l) (.loc m) = some true := by
 show (((σ[l]?.bind Ji).bind fun vs => (σ[m]?.bind Ji).bind fun ws => bOf (Nat.ble (j5 vs) 20) (qt vs ws)).bind fun b => some (!b)) = _
 rw [h1, h2]
 show (bOf (Nat.ble (j5 (v :: vs)) 20) (some false)).bind _ = _
 rw [hd]; rfl
theorem e86 (w : World) (a b c : Int) : PO w 1 86 [.int a, .int b, .int c] (.int (ix b (mn a c))) := jC fun σ D h => goF w (mkI [] true _ rfl h)
theorem e142 (w : World) : PO w 2 142 [zq] Cl.blank.pv := zW rfl 100 5 (by kernel_rfl)
end
section
def y6 : List Cl → List Cl
 | [] => []
 | c :: t => (if c.w = 0 then .blank else c) :: t
def yA (f : List Cl) : List Cl := match f.getLast? with
 | some d => if d.w = 2 then f.dropLast ++ [.blank] else f
 | none => f
def qO (cs : List Cl) (l r : Int) : List Cl := yt cs (some (ix 0 l)) (some (ix 0 (r + 1)))
def zo (cs : List Cl) (l r : Int) : List Cl := yA (y6 (qO cs l r))
theorem C6 (σ : za) (vs : List PV) (i : Nat) : yU σ (.enm (.list vs)) i = some (vs.mapIdx fun i v => PV.tup [.int (i : Int), v])[i]? := by
 rw [List.getElem?_mapIdx]
 show some (vs[i]?.bind fun x => some (PV.tup [.int (i : Int), x])) = _
 cases vs[i]? <;> rfl
theorem qs (n i : Nat) (σ : za) : yU σ (.rng (n : Int)) i = some ((List.range n).map fun i : Nat => PV.int (i : Int))[i]? := by
 rw [List.getElem?_map]
 show some (bOf (decide ((i : Int) < n)) (some (PV.int i))) = _
 by_cases h : i < n
 ·rw [List.getElem?_range h, decide_eq_true (Int.ofNat_lt.mpr h)]; rfl
 ·rw [List.getElem?_eq_none (by rw [List.length_range]; exact Nat.le_of_not_lt h), decide_eq_false fun q => h (Int.ofNat_lt.mp q)]; rfl
theorem nn_loc {σ : za} {l m : Nat} (h1 : σ[l]? = some (.list [])) (h2 : σ[m]? = some (.list [])) : z0 σ .NotEq (.loc l) (.loc m) = some false := by
 show (((σ[l]?.bind Ji).bind fun vs => (σ[m]?.bind Ji).bind fun ws => bOf (Nat.ble (j5 vs) 20) (qt vs ws)).bind fun b => some (!b)) = _
 rw [h1, h2]; rfl
theorem Jq {α β : Type} (g : α → β) (l : List α) (a b : Option Int) : yt (l.map g) a b = (yt l a b).map g := by
 unfold yt
 simp [List.map_take, List.map_drop]
theorem Jr {α : Type} (l : List α) (a b : Option Int) : (yt l a b).length ≤ l.length := by
 unfold yt
 rw [List.length_take, List.length_drop]
 exact Nat.le_trans (Nat.min_le_right ..) (Nat.sub_le ..)
theorem Yf {σ : za} {vs : List PV} (h : vs.length ≤ 16777216) (a b : Option Int) : qM σ (.list vs) a b = some (.list (yt vs a b)) := by
 show bOf (Nat.ble vs.length 16777216) (some (PV.list (yt vs a b))) = _; rw [Nat.ble_eq.mpr h]; rfl
theorem Ds {σ : za} {l : Nat} {vs : List PV} (h : σ[l]? = some (.list vs)) : ym σ (.loc l) = some vs := by show σ[l]?.bind Ji = _; rw [h]; rfl
theorem Q8 {σ : za} {l : Nat} {vs : List PV} (h : σ[l]? = some (.list vs)) (i : PV) : yI σ (.loc l) i = D0 vs i := by
 show (match ym σ (.loc l) with | some vs => D0 vs i | none => getD σ (.loc l) i) = _
 rw [Ds h]
theorem Jn (vs : List PV) (k : Int) (j : Nat) (h : idx vs.length k = some j) : D0 vs (.int k) = vs[j]? := by show (idx vs.length k).bind _ = _; rw [h]; rfl
theorem Bv {σ : za} {l : Nat} {v : PV} {vs : List PV} (h1 : σ[l]? = some (.list (v :: vs))) : yI σ (.loc l) (.int 0) = some v := by
 rw [Q8 h1, Jn _ _ 0 (show idx (v :: vs).length (0 : Int) = some 0 from qC (n := (v :: vs).length) (j := 0) (Nat.succ_pos _) (by decide))]; rfl
theorem jm {σ : za} {l : Nat} {v : PV} {vs : List PV} (h1 : σ[l]? = some (.list vs)) (h2 : vs.getLast? = some v) : yI σ (.loc l) (.int (-1)) = some v := by
 rw [Q8 h1, Jn _ _ (vs.length - 1) (Q5 (Nat.pos_of_ne_zero fun e => by rw [List.eq_nil_of_length_eq_zero e] at h2; cases h2)), ← List.getLast?_eq_getElem?]
 exact h2
theorem zm (cs : List Cl) : (pvs cs).length = cs.length := List.length_map ..
theorem jK {cs : List Cl} {d : Cl} (h : cs.getLast? = some d) : (pvs cs).getLast? = some d.pv := by simp [pvs, h]
theorem QD (cs : List Cl) (h : cs ≠ []) (d : Cl) : (pvs cs).set ((pvs cs).length - 1) d.pv = pvs (cs.dropLast ++ [d]) := by
 obtain ⟨i, c, rfl⟩ : ∃ i c, cs = i ++ [c] := ⟨cs.dropLast, cs.getLast h, (List.dropLast_concat_getLast h).symm⟩
 simp [pvs]
theorem QW (σ : za) (f : List Cl) (l m : Nat) (h1 : σ[l]? = some (.list (pvs f))) (h2 : σ[m]? = some (.list [])) (hf : f ≠ []) : z0 σ .NotEq (.loc l) (.loc m) = some true := by
 cases f with
 | nil => exact absurd rfl hf
 | cons c t => exact qh h1 h2 (An (c :: t))
theorem last_of (c c' : Cl) (t : List Cl) : ∃ d, (c' :: t).getLast? = some d := ⟨_, List.getLast?_eq_some_getLast (by simp)⟩
theorem e149 (w : World) (cs : List Cl) (l r : Int) (hn : cs.length ≤ 1000000) : PO w 3 149 [.list (pvs cs), .int l, .int r] (.list (pvs (zo cs l r))) := by
 unfold zo
 refine xd (by simp [zx, zD, z7]) fun D H => goF w ?_
 have hcut : qM [] (.list (pvs cs)) (some (ix 0 l)) (some (ix 0 (r + 1))) = some (.list (pvs (qO cs l r))) := by
  rw [Yf (by rw [zm]; omega)]
  unfold qO pvs
  rw [Jq]
 have hlen : (pvs (qO cs l r)).length.ble 1000000 = true := by
  rw [zm]
  exact Nat.ble_eq.mpr (Nat.le_trans (Jr ..) hn)
 generalize qO cs l r = f at hcut hlen H
 cases f with
 | nil =>
  refine mkI [.val (.list []), .bit false, .bit false] true (qM [] (.list (pvs cs)) (some (ix 0 l)) (some (ix 0 (r + 1))) = some (.list (pvs [])) ∧ D (.loc 0) [.list [], .list [], .list []]) rfl ⟨hcut, H _ _ (.locList (Nat.zero_le _) rfl .nil)⟩
 | cons c t =>
  have fin : ∀ (g : List Cl) (σ : za) , σ[0]? = some (.list (pvs g)) → FzV σ 0 (.loc 0) (.list (pvs g)) := fun g σ h => .locList (Nat.zero_le _) h (yk.same _ _ (z7 g))
  have key : ∀ (c' : Cl), ∃ d, (c' :: t).getLast? = some d := fun c' => last_of c c' t
  have il : ∀ c' : Cl, idx (pvs (c' :: t)).length (-1) = some ((pvs (c' :: t)).length - 1) := fun c' => Q5 (by simp [pvs])
  by_cases hc : c.w = 0
  ·obtain ⟨d, hd⟩ := key .blank
   have hfix : y6 (c :: t) = .blank :: t := by simp [y6, hc]
   by_cases hd2 : d.w = 2
   ·have hl : yA (.blank :: t) = (Cl.blank :: t).dropLast ++ [.blank] := by simp [yA, hd, hd2]
    refine mkI [.val (.list (pvs (c :: t))), .bit true, .val c.pv, .bit true, .val c.pv, .res Cl.blank.pv [.list (pvs (c :: t)), .list []], .nat 0, .bit true, .val d.pv, .bit true, .val d.pv, .res Cl.blank.pv [.list (pvs (.blank :: t)), .list [], .list []], .nat ((pvs (Cl.blank :: t)).length - 1)]
     ((pvs (c :: t)).length.ble 1000000 && (zh (z0 [.list (pvs (c :: t)), .list []] .NotEq (.loc 0) (.loc 1)) true && (zh (some (c.w == 0)) true && true)))
     (qM [] (.list (pvs cs)) (some (ix 0 l)) (some (ix 0 (r + 1))) = some (.list (pvs (c :: t))) ∧ yI [.list (pvs (c :: t)), .list []] (.loc 0) (.int 0) = some c.pv ∧ yI [.list (pvs (c :: t)), .list []] (.loc 0) (.int 0) = some c.pv ∧
      CS w 2 142 [zq] [.list (pvs (c :: t)), .list []] Cl.blank.pv ∧
      (zh (z0 [.list (pvs (.blank :: t)), .list [], .list []] .NotEq (.loc 0) (.loc 2)) true && (zh (some (d.w == 2)) true && true)) = true ∧
      idx (pvs (c :: t)).length 0 = some 0 ∧ yI [.list (pvs (.blank :: t)), .list [], .list []] (.loc 0) (.int (-1)) = some d.pv ∧ yI [.list (pvs (.blank :: t)), .list [], .list []] (.loc 0) (.int (-1)) = some d.pv ∧
      CS w 2 142 [zq] [.list (pvs (.blank :: t)), .list [], .list []] Cl.blank.pv ∧ true = true ∧
      idx (pvs (Cl.blank :: t)).length (-1) = some ((pvs (Cl.blank :: t)).length - 1) ∧
      D (.loc 0) [.list ((pvs (.blank :: t)).set ((pvs (Cl.blank :: t)).length - 1) Cl.blank.pv), .list [], .list []]) ?_ ?_
    ·simp only [Bool.and_eq_true, zl]
     exact ⟨hlen, QW _ (c :: t) _ _ rfl rfl (by simp), by simp [hc], trivial⟩
    ·refine ⟨hcut, Bv rfl, Bv rfl, fun D => (e142 w).go, ?_, qC (by simp [pvs]) (by decide), jm rfl (jK hd), jm rfl (jK hd), fun D => (e142 w).go, rfl, il _, ?_⟩
     ·simp only [Bool.and_eq_true, zl]
      exact ⟨QW _ (.blank :: t) _ _ rfl rfl (by simp), by simp [hd2], trivial⟩
     ·rw [QD _ (by simp)]
      exact H _ _ (by rw [hfix, hl]; exact fin _ _ rfl)
   ·have hl : yA (.blank :: t) = .blank :: t := by simp [yA, hd, hd2]
    refine mkI [.val (.list (pvs (c :: t))), .bit true, .val c.pv, .bit true, .val c.pv, .res Cl.blank.pv [.list (pvs (c :: t)), .list []], .nat 0, .bit true, .val d.pv, .bit false]
     ((pvs (c :: t)).length.ble 1000000 && (zh (z0 [.list (pvs (c :: t)), .list []] .NotEq (.loc 0) (.loc 1)) true && (zh (some (c.w == 0)) true && true)))
     (qM [] (.list (pvs cs)) (some (ix 0 l)) (some (ix 0 (r + 1))) = some (.list (pvs (c :: t))) ∧ yI [.list (pvs (c :: t)), .list []] (.loc 0) (.int 0) = some c.pv ∧ yI [.list (pvs (c :: t)), .list []] (.loc 0) (.int 0) = some c.pv ∧
      CS w 2 142 [zq] [.list (pvs (c :: t)), .list []] Cl.blank.pv ∧
      (zh (z0 [.list (pvs (.blank :: t)), .list [], .list []] .NotEq (.loc 0) (.loc 2)) true && (zh (some (d.w == 2)) false && true)) = true ∧
      idx (pvs (c :: t)).length 0 = some 0 ∧ yI [.list (pvs (.blank :: t)), .list [], .list []] (.loc 0) (.int (-1)) = some d.pv ∧
      D (.loc 0) [.list (pvs (.blank :: t)), .list [], .list []]) ?_ ?_
    ·simp only [Bool.and_eq_true, zl]
     exact ⟨hlen, QW _ (c :: t) _ _ rfl rfl (by simp), by simp [hc], trivial⟩
    ·refine ⟨hcut, Bv rfl, Bv rfl, fun D => (e142 w).go, ?_, qC (by simp [pvs]) (by decide), jm rfl (jK hd), ?_⟩
     ·simp only [Bool.and_eq_true, zl]
      exact ⟨QW _ (.blank :: t) _ _ rfl rfl (by simp), by simp [hd2], trivial⟩
     ·exact H _ _ (by rw [hfix, hl]; exact fin _ _ rfl)
  ·obtain ⟨d, hd⟩ := key c
   have hfix : y6 (c :: t) = c :: t := by simp [y6, hc]
   by_cases hd2 : d.w = 2
   ·have hl : yA (c :: t) = (c :: t).dropLast ++ [.blank] := by simp [yA, hd, hd2]
    refine mkI [.val (.list (pvs (c :: t))), .bit true, .val c.pv, .bit false, .bit true, .val d.pv, .bit true, .val d.pv, .res Cl.blank.pv [.list (pvs (c :: t)), .list [], .list []], .nat ((pvs (c :: t)).length - 1)]
     ((pvs (c :: t)).length.ble 1000000 && (zh (z0 [.list (pvs (c :: t)), .list []] .NotEq (.loc 0) (.loc 1)) true && (zh (some (c.w == 0)) false && (zh (z0 [.list (pvs (c :: t)), .list [], .list []] .NotEq (.loc 0) (.loc 2)) true && (zh (some (d.w == 2)) true && true)))))
     (qM [] (.list (pvs cs)) (some (ix 0 l)) (some (ix 0 (r + 1))) = some (.list (pvs (c :: t))) ∧ yI [.list (pvs (c :: t)), .list []] (.loc 0) (.int 0) = some c.pv ∧
      yI [.list (pvs (c :: t)), .list [], .list []] (.loc 0) (.int (-1)) = some d.pv ∧ yI [.list (pvs (c :: t)), .list [], .list []] (.loc 0) (.int (-1)) = some d.pv ∧
      CS w 2 142 [zq] [.list (pvs (c :: t)), .list [], .list []] Cl.blank.pv ∧ true = true ∧
      idx (pvs (c :: t)).length (-1) = some ((pvs (c :: t)).length - 1) ∧
      D (.loc 0) [.list ((pvs (c :: t)).set ((pvs (c :: t)).length - 1) Cl.blank.pv), .list [], .list []]) ?_ ?_
    ·simp only [Bool.and_eq_true, zl]
     exact ⟨hlen, QW _ (c :: t) _ _ rfl rfl (by simp), by simp [hc], QW _ (c :: t) _ _ rfl rfl (by simp), by simp [hd2], trivial⟩
    ·refine ⟨hcut, Bv rfl, jm rfl (jK hd), jm rfl (jK hd), fun D => (e142 w).go, rfl, il _, ?_⟩
     ·rw [QD _ (by simp)]
      exact H _ _ (by rw [hfix, hl]; exact fin _ _ rfl)
   ·have hl : yA (c :: t) = c :: t := by simp [yA, hd, hd2]
    refine mkI [.val (.list (pvs (c :: t))), .bit true, .val c.pv, .bit false, .bit true, .val d.pv, .bit false]
     ((pvs (c :: t)).length.ble 1000000 && (zh (z0 [.list (pvs (c :: t)), .list []] .NotEq (.loc 0) (.loc 1)) true && (zh (some (c.w == 0)) false && (zh (z0 [.list (pvs (c :: t)), .list [], .list []] .NotEq (.loc 0) (.loc 2)) true && (zh (some (d.w == 2)) false && true)))))
     (qM [] (.list (pvs cs)) (some (ix 0 l)) (some (ix 0 (r + 1))) = some (.list (pvs (c :: t))) ∧ yI [.list (pvs (c :: t)), .list []] (.loc 0) (.int 0) = some c.pv ∧
      yI [.list (pvs (c :: t)), .list [], .list []] (.loc 0) (.int (-1)) = some d.pv ∧
      D (.loc 0) [.list (pvs (c :: t)), .list [], .list []]) ?_ ?_
    ·simp only [Bool.and_eq_true, zl]
     exact ⟨hlen, QW _ (c :: t) _ _ rfl rfl (by simp), by simp [hc], QW _ (c :: t) _ _ rfl rfl (by simp), by simp [hd2], trivial⟩
    ·exact ⟨hcut, Bv rfl, jm rfl (jK hd), H _ _ (by rw [hfix, hl]; exact fin _ _ rfl)⟩
end
section
def zA (cs : List Cl) (most : Int) : List Cl := if most < (cs.length : Int) then zo cs 0 (most - 1) else cs
theorem zK {cs : List Cl} (h : cs.length ≤ 1000000) : (pvs cs).length.ble 1000000 = true := Nat.ble_eq.mpr (by rw [zm]; exact h)
theorem e789 (w : World) (cs : List Cl) (m : Int) (hn : cs.length ≤ 1000000) : PO w 4 789 [.list (pvs cs), .int m] (.list (pvs (zA cs m))) := by
 refine jC fun σ D H => goF w ?_
 unfold zA at H
 split at H
 ·rename_i h
  refine mkI [.bit true, .res (.list (pvs (zo cs 0 (m - 1)))) σ] ((pvs cs).length.ble 1000000 && (zh (some (decide (m < ((pvs cs).length : Int)))) true && true))
   (CS w 3 149 [.list (pvs cs), .int 0, .int (m - 1)] σ (.list (pvs (zo cs 0 (m - 1)))) ∧ true = true ∧ D (.list (pvs (zo cs 0 (m - 1)))) σ) ?_ ?_
  ·simp only [Bool.and_eq_true, zl]
   exact ⟨zK hn, by rw [zm]; simp [h], trivial⟩
  ·exact ⟨fun D => (e149 w cs _ _ hn).gm (by decide) D, rfl, H⟩
 ·rename_i h
  refine mkI [.bit false] ((pvs cs).length.ble 1000000 && (zh (some (decide (m < ((pvs cs).length : Int)))) false && true)) (D (.list (pvs cs)) σ) ?_ H
  simp only [Bool.and_eq_true, zl]
  exact ⟨zK hn, by rw [zm]; simp [h], trivial⟩
def cp782 : CP := cpE (retE (stN 128 0))
theorem e782 (w : World) (m : Int) (h0 : 0 ≤ m) (h1 : m ≤ 1000) : PO w 3 782 [.int m, zq] (.list (pvs (List.replicate m.toNat .blank))) := by
 refine xd rfl fun D H => goF w ?_
 refine mkI [.sto [.list (pvs (List.replicate m.toNat .blank))]] ((decide (0 ≤ m) && decide (m ≤ 1000)) && true)
  ((∀ D : za → Prop, D [.list (pvs (List.replicate m.toNat .blank))] → MKm w cp782 2 "column" (.rng m) 0 [("pen", zq)] [.list []] D) ∧ true = true ∧ D (.loc 0) [.list (pvs (List.replicate m.toNat .blank))]) (by simp [h0, h1]) ?_
 refine ⟨fun D hD => ?_, rfl, H _ _ (.locList (Nat.zero_le _) rfl (yk.same _ _ (z7 _)))⟩
 refine yV (σ := []) (wok w) (evs w) ((List.range m.toNat).map fun i : Nat => PV.int (i : Int)) (fun _ => Cl.blank.pv) (by kernel_rfl) (fun v q => nomatch q) (fun i acc => ?_) (by simp; omega) (fun v hv acc D hd => goX w ?_) ?_
 ·have := qs m.toNat i [.list acc]
  rwa [Int.toNat_of_nonneg h0] at this
 ·refine mkI [.res Cl.blank.pv [.list acc]] true (CS w 2 142 [zq] [.list acc] Cl.blank.pv ∧ true = true ∧ D Cl.blank.pv [.list acc]) rfl ⟨fun D => (e142 w).gm (by decide) D, rfl, hd⟩
 ·have : ((List.range m.toNat).map fun i : Nat => PV.int (i : Int)).map (fun _ => Cl.blank.pv) = pvs (List.replicate m.toNat .blank) := by
   rw [List.map_map, pvs, List.map_replicate, List.eq_replicate_iff]
   simp
  rw [this]
  exact hD
def zB (row : List Cl) (m : Int) (cs : List Cl) : List Cl := if zA cs (ix 0 ((row.length : Int) - m)) = [] then row else zo row 0 (m - 1) ++ zA cs (ix 0 ((row.length : Int) - m)) ++ zo row (m + ((zA cs (ix 0 ((row.length : Int) - m))).length : Int)) ((row.length : Int) - 1)
theorem Af (f : List Cl) : (y6 f).length = f.length := by cases f <;> simp [y6]
theorem Ae (f : List Cl) : (yA f).length = f.length := by
 unfold yA
 split
 ·rename_i d h
  split
  ·have : f ≠ [] := by rintro rfl; cases h
   have := List.length_pos_iff.mpr this
   simp
   omega
  ·rfl
 ·rfl
theorem x6 (cs : List Cl) (l r : Int) : (zo cs l r).length = (qO cs l r).length := by unfold zo; rw [Ae, Af]
theorem yp (cs : List Cl) (l r : Int) : (zo cs l r).length ≤ cs.length := by rw [x6]; exact Jr ..
theorem yQ (cs : List Cl) (m : Int) : (zA cs m).length ≤ cs.length := by unfold zA; split; exact yp ..; exact Nat.le_refl _
theorem Ah (σ : za) (f : List Cl) (m : Nat) (h2 : σ[m]? = some (.list [])) (hf : f ≠ []) : z0 σ .NotEq (.list (pvs f)) (.loc m) = some true := by
 cases f with
 | nil => exact absurd rfl hf
 | cons c t =>
  have hd := An (c :: t)
  show ((((some (pvs (c :: t)) : Option (List PV))).bind fun vs => (σ[m]?.bind Ji).bind fun ws => bOf (Nat.ble (j5 vs) 20) (qt vs ws)).bind fun b => some (!b)) = _
  rw [h2]
  show (bOf (Nat.ble (j5 (pvs (c :: t))) 20) (some false)).bind _ = _
  rw [hd]; rfl
theorem e796 (w : World) (row : List Cl) (m : Int) (cs : List Cl) (hr : row.length ≤ 100000) (hn : cs.length ≤ 100000) : PO w 5 796 [.list (pvs row), .int m, .list (pvs cs)] (.list (pvs (zB row m cs))) := by
 unfold zB
 refine xd (by simp [zx, zD, z7]) fun D H => goF w ?_
 have hrm : (zA cs (ix 0 ((row.length : Int) - m))).length ≤ 100000 := Nat.le_trans (yQ ..) hn
 have hsp : ∀ D : KD, D (.list (pvs (zA cs (ix 0 ((row.length : Int) - m))))) [] → MC w 4 789 [.list (pvs cs), .int (ix 0 (((pvs row).length : Int) - m))] [] D := by
  rw [zm]
  exact fun D => (e789 w cs _ (by omega)).gm (by decide) D
 generalize zA cs (ix 0 ((row.length : Int) - m)) = rm at H hrm hsp
 have h1 := yp row 0 (m - 1)
 have h2 := yp row (m + (rm.length : Int)) ((row.length : Int) - 1)
 have hc : rm ≠ [] ∨ rm = [] := by cases rm <;> simp
 rcases hc with hc | rfl
 ·rw [if_neg hc] at H
  refine mkI [.res (.list (pvs rm)) [], .res (.list (pvs (zo row 0 (m - 1)))) [], .res (.list (pvs (zo row (m + (rm.length : Int)) ((row.length : Int) - 1)))) [], .bit true]
   ((pvs row).length.ble 1000000 && true)
   (CS w 4 789 [.list (pvs cs), .int (ix 0 (((pvs row).length : Int) - m))] [] (.list (pvs rm)) ∧ true = true ∧
    CS w 4 149 [.list (pvs row), .int 0, .int (m - 1)] [] (.list (pvs (zo row 0 (m - 1)))) ∧ ((pvs rm).length.ble 1000000 && ((pvs row).length.ble 1000000 && true)) = true ∧
    CS w 4 149 [.list (pvs row), .int (m + ((pvs rm).length : Int)), .int (((pvs row).length : Int) - 1)] [] (.list (pvs (zo row (m + (rm.length : Int)) ((row.length : Int) - 1)))) ∧
    (zh (z0 [.list []] .NotEq (.list (pvs rm)) (.loc 0)) true && (decide ((pvs (zo row 0 (m - 1))).length + (pvs rm).length ≤ 16777216) && (decide ((pvs (zo row 0 (m - 1)) ++ pvs rm).length + (pvs (zo row (m + (rm.length : Int)) ((row.length : Int) - 1))).length ≤ 16777216) && true))) = true ∧
    D (.list (pvs (zo row 0 (m - 1)) ++ pvs rm ++ pvs (zo row (m + (rm.length : Int)) ((row.length : Int) - 1)))) [.list []]) (by rw [zK (by omega)]; rfl) ?_
  refine ⟨hsp, rfl, fun D => (e149 w row _ _ (by omega)).gm (by decide) D, by rw [zK (by omega), zK (by omega)]; rfl, ?_, ?_, ?_⟩
  ·rw [zm, zm]
   exact fun D => (e149 w row _ _ (by omega)).gm (by decide) D
  ·simp only [Bool.and_eq_true, zl, decide_eq_true_eq, List.length_append, zm]
   exact ⟨Ah _ _ _ rfl hc, by omega, by omega, trivial⟩
  ·have : ∀ a b c : List Cl, pvs a ++ pvs b ++ pvs c = pvs (a ++ b ++ c) := by simp [pvs]
   rw [this]
   exact H _ _ (.same _ _ (by simp only [zD, z7]))
 ·rw [if_pos rfl] at H
  refine mkI [.res (.list []) [], .res (.list (pvs (zo row 0 (m - 1)))) [], .res (.list (pvs (zo row (m + 0) ((row.length : Int) - 1)))) [], .bit false]
   ((pvs row).length.ble 1000000 && true)
   (CS w 4 789 [.list (pvs cs), .int (ix 0 (((pvs row).length : Int) - m))] [] (.list []) ∧ true = true ∧
    CS w 4 149 [.list (pvs row), .int 0, .int (m - 1)] [] (.list (pvs (zo row 0 (m - 1)))) ∧ ((pvs row).length.ble 1000000 && true) = true ∧
    CS w 4 149 [.list (pvs row), .int (m + 0), .int (((pvs row).length : Int) - 1)] [] (.list (pvs (zo row (m + 0) ((row.length : Int) - 1)))) ∧
    true = true ∧ D (.list (pvs row)) [.list []]) (by rw [zK (by omega)]; rfl) ?_
  refine ⟨hsp, rfl, fun D => (e149 w row _ _ (by omega)).gm (by decide) D, by rw [zK (by omega)]; rfl, ?_, rfl, H _ _ (.same _ _ ?_)⟩
  ·rw [zm]
   exact fun D => (e149 w row _ _ (by omega)).gm (by decide) D
  ·simp only [zD, z7]
end
section
noncomputable def Fp : Array UInt8 := #[115, 116, 97, 116, 117, 115, 45, 106, 117, 115, 116, 105, 102, 121]
noncomputable def J5 : Array UInt8 := #[115, 116, 97, 116, 117, 115, 45, 108, 101, 102, 116]
noncomputable def Bi : Array UInt8 := #[115, 116, 97, 116, 117, 115, 45, 108, 101, 102, 116, 45, 108, 101, 110, 103, 116, 104]
noncomputable def Bh : Array UInt8 := #[115, 116, 97, 116, 117, 115, 45, 108, 101, 102, 116, 45, 115, 116, 121, 108, 101]
noncomputable def q7 : Array UInt8 := #[115, 116, 97, 116, 117, 115, 45, 114, 105, 103, 104, 116]
noncomputable def XK : Array UInt8 := #[115, 116, 97, 116, 117, 115, 45, 114, 105, 103, 104, 116, 45, 108, 101, 110, 103, 116, 104]
noncomputable def XJ : Array UInt8 := #[115, 116, 97, 116, 117, 115, 45, 114, 105, 103, 104, 116, 45, 115, 116, 121, 108, 101]
noncomputable def nSep : Array UInt8 := #[119, 105, 110, 100, 111, 119, 45, 115, 116, 97, 116, 117, 115, 45, 115, 101, 112, 97, 114, 97, 116, 111, 114]
noncomputable def Bj : Array UInt8 := #[119, 105, 110, 100, 111, 119, 45, 115, 116, 97, 116, 117, 115, 45, 102, 111, 114, 109, 97, 116]
noncomputable def Jg : Array UInt8 := #[119, 105, 110, 100, 111, 119, 45, 115, 116, 97, 116, 117, 115, 45, 99, 117, 114, 114, 101, 110, 116, 45, 102, 111, 114, 109, 97, 116]
noncomputable def nSt : Array UInt8 := #[115, 116, 97, 116, 117, 115, 45, 115, 116, 121, 108, 101]
noncomputable def DQ : Array UInt8 := #[119, 105, 110, 100, 111, 119, 45, 115, 116, 97, 116, 117, 115, 45, 115, 116, 121, 108, 101]
noncomputable def Cz : Array UInt8 := #[119, 105, 110, 100, 111, 119, 45, 115, 116, 97, 116, 117, 115, 45, 99, 117, 114, 114, 101, 110, 116, 45, 115, 116, 121, 108, 101]
noncomputable def GC : Array UInt8 := #[100, 101, 102, 97, 117, 108, 116]
noncomputable def JL : Array UInt8 := #[35, 123, 119, 105, 110, 100, 111, 119, 95, 110, 97, 109, 101, 125]
noncomputable def qa : Array UInt8 := #[35, 123, 119, 105, 110, 100, 111, 119, 95, 110, 97, 109, 101, 125, 42]
noncomputable def xj : Array UInt8 := #[119, 105, 110, 100, 111, 119, 95, 110, 97, 109, 101]
noncomputable def jL (kind scope : Str) (v bounds : PV) : PV := .inst 457 [("kind", .str kind), ("scope", .str scope), ("first", v), ("bounds", bounds)]
noncomputable def Xq : PV := .tup [.bytes #[108, 101, 102, 116], .bytes #[99, 101, 110, 116, 114, 101], .bytes #[114, 105, 103, 104, 116], .bytes #[97, 98, 115, 111, 108, 117, 116, 101, 45, 99, 101, 110, 116, 114, 101]]
structure Opt where
 way : Array UInt8
 t0 : Array UInt8
 t1 : Array UInt8
 sep : Array UInt8
 m0 : Int
 m1 : Int
def Opt.table (o : Opt) : List (PV × PV) := [
 (.bytes Fp, jL "choice" "session" (.bytes o.way) Xq),
 (.bytes J5, jL "octets" "session" (.bytes o.t0) (.tup [])),
 (.bytes Bi, jL "number" "session" (.int o.m0) (.tup [.int 0, .int 99])),
 (.bytes Bh, jL "style" "session" (.bytes GC) (.tup [])),
 (.bytes q7, jL "octets" "session" (.bytes o.t1) (.tup [])),
 (.bytes XK, jL "number" "session" (.int o.m1) (.tup [.int 0, .int 99])),
 (.bytes XJ, jL "style" "session" (.bytes GC) (.tup [])),
 (.bytes nSep, jL "octets" "window" (.bytes o.sep) (.tup [])),
 (.bytes Bj, jL "octets" "window" (.bytes JL) (.tup [])),
 (.bytes Jg, jL "octets" "window" (.bytes qa) (.tup [])),
 (.bytes nSt, jL "style" "window" (.bytes GC) (.tup [])),
 (.bytes DQ, jL "style" "window" (.bytes GC) (.tup [])),
 (.bytes Cz, jL "style" "window" (.bytes GC) (.tup []))]
noncomputable def yn (t : List (PV × PV)) (scope : Str) : PV := .inst 534 [("table", .dict t), ("scope", .str scope), ("parent", .none), ("values", .dict [])]
def Opt.pv (o : Opt) : PV := yn o.table "window"
theorem D2 (w : World) (o : Opt) : PO w 3 516 [o.pv, .bytes Fp] (.bytes o.way) := zW rfl 60 4 (by kernel_rfl)
theorem D1 (w : World) (o : Opt) : PO w 3 516 [o.pv, .bytes J5] (.bytes o.t0) := zW rfl 60 4 (by kernel_rfl)
theorem Bt (w : World) (o : Opt) : PO w 3 516 [o.pv, .bytes Bi] (.int o.m0) := zW rfl 60 4 (by kernel_rfl)
theorem Bs (w : World) (o : Opt) : PO w 3 516 [o.pv, .bytes q7] (.bytes o.t1) := zW rfl 60 4 (by kernel_rfl)
theorem Q6 (w : World) (o : Opt) : PO w 3 516 [o.pv, .bytes XK] (.int o.m1) := zW rfl 60 4 (by kernel_rfl)
theorem FM (w : World) (o : Opt) : PO w 3 516 [o.pv, .bytes nSep] (.bytes o.sep) := zW rfl 60 4 (by kernel_rfl)
theorem Q7 (w : World) (o : Opt) : PO w 3 516 [o.pv, .bytes Bj] (.bytes JL) := zW rfl 60 4 (by kernel_rfl)
theorem Xa (w : World) (o : Opt) : PO w 3 516 [o.pv, .bytes Jg] (.bytes qa) := zW rfl 60 4 (by kernel_rfl)
theorem Cm (w : World) (o : Opt) : PO w 6 770 [o.pv, .bytes nSt, zq] zq := zW rfl 120 6 (by kernel_rfl)
theorem A9 (w : World) (o : Opt) : PO w 6 770 [o.pv, .bytes Bh, zq] zq := zW rfl 120 6 (by kernel_rfl)
theorem QP (w : World) (o : Opt) : PO w 6 770 [o.pv, .bytes XJ, zq] zq := zW rfl 120 6 (by kernel_rfl)
theorem qu (w : World) (o : Opt) : PO w 6 770 [o.pv, .bytes DQ, zq] zq := zW rfl 120 6 (by kernel_rfl)
theorem J0 (w : World) (o : Opt) : PO w 6 770 [o.pv, .bytes Cz, zq] zq := zW rfl 120 6 (by kernel_rfl)
noncomputable def zX : PV := .inst 937 [("wide", .list [.tup [.int 19968, .int 20000]]), ("marks", .list []), ("joiners", .list [])]
end
section
noncomputable def nm (wd : Bool) (p s : Nat) : List Nat := match wd with
 | true => (List.replicate s [228, 184, 128 + p]).flatten
 | false => List.replicate s (97 + p)
noncomputable def u8s (l : List Nat) : Array UInt8 := (l.map Nat.toUInt8).toArray
noncomputable def star (cur : Bool) : List Nat := match cur with | true => [42] | false => []
def jl (wd : Bool) (p s : Nat) : Array UInt8 := u8s (nm wd p s)
def xX (wd : Bool) (p s : Nat) (cur : Bool) : Array UInt8 := u8s (nm wd p s ++ star cur)
noncomputable def yZ (wd : Bool) (p s : Nat) (cur : Bool) : List Cl := (match wd with
 | true => (List.replicate s [Cl.wide (19968 + p), Cl.tail]).flatten
 | false => List.replicate s (Cl.one (97 + p))) ++ (match cur with | true => [Cl.one 42] | false => [])
def qI (b : BA) : PV := .dict [(.bytes xj, .bytes b)]
noncomputable def Cn : List (Nat × Bool) := [1, 2, 3, 4].flatMap fun s => [false, true].map fun c => (s, c)
theorem DR {s : Nat} {c : Bool} (h1 : 1 ≤ s) (h4 : s ≤ 4) : (s, c) ∈ Cn := by
 have h : ∀ s : Fin 4, ∀ c : Bool, (s.1 + 1, c) ∈ Cn := by decide +kernel
 have := h ⟨s - 1, by omega⟩ c
 simpa [Nat.sub_add_cancel h1] using this
def fmtB : Bool → Array UInt8
 | true => qa
 | false => JL
def xG (w : World) (wd : Bool) (p : Nat) : Prop := Cn.map (fun t => evK BV W0 400 (.callV 12 (.con (.ref 763)) [.bytes (xX wd p t.1 t.2), zq, zX] [] fun u σ' => fzG σ' 0 6 u = some (.list (pvs (yZ wd p t.1 t.2))))) = Cn.map (fun t => (some (PV.list (pvs (yZ wd p t.1 t.2))) = some (PV.list (pvs (yZ wd p t.1 t.2)))))
theorem sc_n0 (w : World) : xG w false 0 := by unfold xG; kernel_rfl
theorem sc_n1 (w : World) : xG w false 1 := by unfold xG; kernel_rfl
theorem sc_n2 (w : World) : xG w false 2 := by unfold xG; kernel_rfl
theorem sc_n3 (w : World) : xG w false 3 := by unfold xG; kernel_rfl
theorem sc_w0 (w : World) : xG w true 0 := by unfold xG; kernel_rfl
theorem sc_w1 (w : World) : xG w true 1 := by unfold xG; kernel_rfl
theorem sc_w2 (w : World) : xG w true 2 := by unfold xG; kernel_rfl
theorem sc_w3 (w : World) : xG w true 3 := by unfold xG; kernel_rfl
theorem sc_all (w : World) (wd : Bool) (p : Nat) (h : p < 4) : xG w wd p := by
 have : p = 0 ∨ p = 1 ∨ p = 2 ∨ p = 3 := lt4 ‹p < 4›
 cases wd with
 | false =>
  rcases this with rfl | rfl | rfl | rfl
  ·exact sc_n0 w
  ·exact sc_n1 w
  ·exact sc_n2 w
  ·exact sc_n3 w
 | true =>
  rcases this with rfl | rfl | rfl | rfl
  ·exact sc_w0 w
  ·exact sc_w1 w
  ·exact sc_w2 w
  ·exact sc_w3 w
theorem E0 {w : World} {dp : Nat} {a : Addr} {args : List PV} {r : PV} {N M : Nat} (ha : zx args = true) (e : evK BV W0 N (.callV dp (.con (.ref a)) args [] fun u σ' => fzG σ' 0 M u = some r) = (some r = some r)) : PO w dp a args r := zW ha N M e
theorem e763 (w : World) {wd : Bool} {p s : Nat} {c : Bool} (hp : p < 4) (h1 : 1 ≤ s) (h4 : s ≤ 4) : PO w 12 763 [.bytes (xX wd p s c), zq, zX] (.list (pvs (yZ wd p s c))) := E0 rfl (List.map_inj_left.mp (sc_all w wd p hp) _ (DR h1 h4))
def yH (c n : Nat) : Array UInt8 := u8s (List.replicate n c)
noncomputable def xT : List (Nat × Nat) := [(49, 0), (49, 1), (49, 2), (49, 3), (49, 4), (49, 5), (50, 0), (50, 1), (50, 2), (50, 3), (50, 4), (50, 5), (124, 0), (124, 1), (124, 2)]
theorem rep_all (w : World) : xT.map (fun t => evK BV W0 400 (.callV 12 (.con (.ref 763)) [.bytes (yH t.1 t.2), zq, zX] [] fun u σ' => fzG σ' 0 6 u = some (.list (pvs (List.replicate t.2 (.one t.1)))))) = xT.map (fun t => (some (PV.list (pvs (List.replicate t.2 (.one t.1)))) = some (PV.list (pvs (List.replicate t.2 (.one t.1)))))) := by kernel_rfl
theorem r763 (w : World) {c n : Nat} (h : (c, n) ∈ xT) : PO w 12 763 [.bytes (yH c n), zq, zX] (.list (pvs (List.replicate n (.one c)))) := E0 rfl (List.map_inj_left.mp (rep_all w) _ h)
theorem rex_all (w : World) : (xT.take 12).map (fun t => evK BV W0 400 (.callV 12 (.con (.ref 777)) [.bytes (yH t.1 t.2), .dict []] [] fun u σ' => fzG σ' 0 6 u = some (.bytes (yH t.1 t.2)))) = (xT.take 12).map (fun t => (some (PV.bytes (yH t.1 t.2)) = some (PV.bytes (yH t.1 t.2)))) := by kernel_rfl
theorem r777 (w : World) {c n : Nat} (h : (c, n) ∈ xT.take 12) : PO w 12 777 [.bytes (yH c n), .dict []] (.bytes (yH c n)) := E0 rfl (List.map_inj_left.mp (rex_all w) _ h)
theorem QN {w : World} {dp : Nat} {a : Addr} {args : List PV} {r : PV} (ha : zx args = true) (N M : Nat) (B : Bool) (e : evK anT W0 N (.callV dp (.con (.ref a)) args [] fun u σ' => jn (fzG σ' 0 M u = some r)) [] = (B, (some r = some r))) (hB : B = true) : PO w dp a args r :=
 XF rfl ha (((Yc anT (wok w) N).callV _ _ _ _ _ ⟨[], by rw [e]; exact hB, by rw [e]⟩).mono fun _ _ c => BB M _ r (jF c))
theorem x777f (w : World) (b : BA) (hb : b.size ≤ 10000) : PO w 12 777 [.bytes JL, qI b] (.bytes (#[] ++ b)) := QN rfl 400 6 (((#[] : BA).size + b.size).ble 10000 && (((#[] : BA) ++ b).size.ble 1000000 && true)) (by kernel_rfl) (by simp; omega)
theorem x777t (w : World) (b : BA) (hb : b.size ≤ 10000) : PO w 12 777 [.bytes qa, qI b] (.bytes (((#[] : BA) ++ b).push 42)) := QN rfl 400 6 (((#[] : BA).size + b.size).ble 10000 && (((#[] : BA) ++ b).size.ble 10000 && true && ((((#[] : BA) ++ b).push 42).size.ble 1000000 && true))) (by kernel_rfl) (by simp; omega)
theorem told_t (wd : Bool) (p s : Nat) : (jl wd p s).push 42 = xX wd p s true := by simp [jl, xX, u8s, star]
theorem told_f (wd : Bool) (p s : Nat) : jl wd p s = xX wd p s false := by simp [jl, xX, u8s, star]
theorem DP (wd : Bool) (p s : Nat) : (jl wd p s).size ≤ 3 * s := by
 cases wd
 ·simp [jl, u8s, nm]; omega
 ·simp [jl, u8s, nm]; omega
theorem e777 (w : World) {wd : Bool} {p s : Nat} {c : Bool} (h4 : s ≤ 4) : PO w 12 777 [.bytes (fmtB c), qI (jl wd p s)] (.bytes (xX wd p s c)) := by
 have hs := DP wd p s
 cases c with
 | true =>
  have := x777t w (jl wd p s) (by omega)
  rwa [Array.empty_append, told_t] at this
 | false =>
  have := x777f w (jl wd p s) (by omega)
  rw [Array.empty_append] at this
  rw [← told_f]
  exact this
end
section
def yh (c n : Nat) (m : Int) : List Cl := zA (List.replicate n (.one c)) m
theorem e887L (w : World) (o : Opt) (n : Nat) (hn : n ≤ 5) (ho : o.t0 = yH 49 n) : PO w 13 887 [.dict [], o.pv, .bytes J5, zq, zX] (.list (pvs (yh 49 n o.m0))) := by
 have hm : (49, n) ∈ xT := (by decide : ∀ n, n < 6 → (49, n) ∈ xT) n (Nat.lt_succ_of_le hn)
 have hm' : (49, n) ∈ xT.take 12 := (by decide : ∀ n, n < 6 → (49, n) ∈ xT.take 12) n (Nat.lt_succ_of_le hn)
 refine jC fun σ D H => goF w ?_
 refine mkI [.res zq σ, .res (.bytes o.t0) σ, .res (.bytes (yH 49 n)) σ, .res (.list (pvs (List.replicate n (.one 49)))) σ, .res (.int o.m0) σ, .res (.list (pvs (yh 49 n o.m0))) σ] true
  (CS w 12 770 [o.pv, .bytes Bh, zq] σ zq ∧ true = true ∧
   CS w 12 516 [o.pv, .bytes J5] σ (.bytes o.t0) ∧ true = true ∧
   CS w 12 777 [.bytes o.t0, .dict []] σ (.bytes (yH 49 n)) ∧ true = true ∧
   CS w 12 763 [.bytes (yH 49 n), zq, zX] σ (.list (pvs (List.replicate n (.one 49)))) ∧ true = true ∧
   CS w 12 516 [o.pv, .bytes Bi] σ (.int o.m0) ∧ true = true ∧
   CS w 12 789 [.list (pvs (List.replicate n (.one 49))), .int o.m0] σ (.list (pvs (yh 49 n o.m0))) ∧ true = true ∧ D (.list (pvs (yh 49 n o.m0))) σ) rfl ?_
 refine ⟨(A9 w o).gm (by decide), rfl, (D1 w o).gm (by decide), rfl, ?_, rfl, (r763 w hm).gm (by decide), rfl, (Bt w o).gm (by decide), rfl, fun D => (e789 w _ _ (by simp; omega)).gm (by decide) D, rfl, H⟩
 rw [ho]
 exact fun D => (r777 w hm').gm (by decide) D
theorem e887R (w : World) (o : Opt) (n : Nat) (hn : n ≤ 5) (ho : o.t1 = yH 50 n) : PO w 13 887 [.dict [], o.pv, .bytes q7, zq, zX] (.list (pvs (yh 50 n o.m1))) := by
 have hm : (50, n) ∈ xT := (by decide : ∀ n, n < 6 → (50, n) ∈ xT) n (Nat.lt_succ_of_le hn)
 have hm' : (50, n) ∈ xT.take 12 := (by decide : ∀ n, n < 6 → (50, n) ∈ xT.take 12) n (Nat.lt_succ_of_le hn)
 refine jC fun σ D H => goF w ?_
 refine mkI [.res zq σ, .res (.bytes o.t1) σ, .res (.bytes (yH 50 n)) σ, .res (.list (pvs (List.replicate n (.one 50)))) σ, .res (.int o.m1) σ, .res (.list (pvs (yh 50 n o.m1))) σ] true
  (CS w 12 770 [o.pv, .bytes XJ, zq] σ zq ∧ true = true ∧
   CS w 12 516 [o.pv, .bytes q7] σ (.bytes o.t1) ∧ true = true ∧
   CS w 12 777 [.bytes o.t1, .dict []] σ (.bytes (yH 50 n)) ∧ true = true ∧
   CS w 12 763 [.bytes (yH 50 n), zq, zX] σ (.list (pvs (List.replicate n (.one 50)))) ∧ true = true ∧
   CS w 12 516 [o.pv, .bytes XK] σ (.int o.m1) ∧ true = true ∧
   CS w 12 789 [.list (pvs (List.replicate n (.one 50))), .int o.m1] σ (.list (pvs (yh 50 n o.m1))) ∧ true = true ∧ D (.list (pvs (yh 50 n o.m1))) σ) rfl ?_
 refine ⟨(QP w o).gm (by decide), rfl, (Bs w o).gm (by decide), rfl, ?_, rfl, (r763 w hm).gm (by decide), rfl, (Q6 w o).gm (by decide), rfl, fun D => (e789 w _ _ (by simp; omega)).gm (by decide) D, rfl, H⟩
 rw [ho]
 exact fun D => (r777 w hm').gm (by decide) D
end
section
structure Win where
 wd : Bool
 s : Nat
noncomputable def zy : Option Nat → PV
 | some c => .int c
 | none => .none
noncomputable def yx (k : Nat) : List Cl := List.replicate k (.one 124)
def zv (ws : List Win) (k : Nat) (c : Option Nat) : Nat → List Cl
 | 0 => []
 | i + 1 => match ws[i]? with
  | some x => zv ws k c i ++ (if i = 0 then [] else yx k) ++ yZ x.wd i x.s (decide (c = some i))
  | none => zv ws k c i
def zO (ws : List Win) (k : Nat) (c : Option Nat) : Nat → List (Int × Int)
 | 0 => []
 | i + 1 => match ws[i]? with
  | some x => zO ws k c i ++ [(((zv ws k c i ++ (if i = 0 then [] else yx k)).length : Int), ((zv ws k c i ++ (if i = 0 then [] else yx k)).length : Int) + ((yZ x.wd i x.s (decide (c = some i))).length : Int))]
  | none => zO ws k c i
noncomputable def qf (p : Int × Int) : PV := .tup [.int p.1, .int p.2]
def zt (l : List (Int × Int)) : List PV := l.map qf
def yB (i : Nat) (x : Win) : PV := qI (jl x.wd i x.s)
def zz (ws : List Win) : List PV := ws.mapIdx yB
theorem xv (ws : List Win) : zx (zz ws) = true := by
 unfold zz
 rw [List.mapIdx_eq_zipIdx_map]
 exact yf (g := fun x : Win × Nat => yB x.2 x.1) (fun _ => rfl) _
theorem Xl (wd : Bool) (p s : Nat) (c : Bool) : (yZ wd p s c).length ≤ 2 * s + 1 := by
 cases wd <;> cases c <;> simp [yZ] <;> omega
theorem j7 {ws : List Win} {k : Nat} {c : Option Nat} (hk : k ≤ 2) (hw : ∀ x ∈ ws, x.s ≤ 4) : ∀ i, (zv ws k c i).length ≤ 11 * i
 | 0 => by simp [zv]
 | i + 1 => by
  have ih := j7 (c := c) hk hw i
  simp only [zv]
  split
  ·rename_i x hx
   have h4 := hw x (List.mem_of_getElem? hx)
   have hc := Xl x.wd i x.s (decide (c = some i))
   have hs : (if i = 0 then [] else yx k).length ≤ 2 := by split <;> simp [yx]; omega
   simp only [List.length_append]
   omega
  ·omega
theorem qe (ws : List Win) (k : Nat) (c : Option Nat) : ∀ i, (zO ws k c i).length ≤ i
 | 0 => by simp [zO]
 | i + 1 => by
  have ih := qe ws k c i
  simp only [zO]
  split <;> simp <;> omega
theorem cur_at (σ : za) (c : Option Nat) (i : Nat) : z0 σ .Eq (.int (i : Int)) (zy c) = some (decide (c = some i)) := by
 cases c with
 | none => rfl
 | some c =>
  show some ((i : Int) == (c : Int)) = _
  congr 1
  rw [Bool.eq_iff_iff, beq_iff_eq, decide_eq_true_eq]
  constructor
  ·intro h; rw [show c = i by omega]
  ·intro h; cases h; rfl
def Yv (o : Opt) (ws : List Win) (c : Option Nat) (k : Nat) (tl : zc) : zc := ("table", zX) :: ("options", o.pv) :: ("current", zy c) :: ("windows", .list (zz ws)) :: ("base", zq) :: ("apart", .list (pvs (yx k))) :: ("spots", .loc 1) :: tl
def Ac : FP := fpS (stN 132 3)
def wσ (ws : List Win) (k : Nat) (c : Option Nat) (i : Nat) : za := [.list [], .list (zt (zO ws k c i))]
def Be : Bool → PV
 | true => .bytes Jg
 | false => .bytes Bj
def Qt (ws : List Win) (c : Option Nat) (k : Nat) : Nat → zc
 | 0 => [("cells", .loc 0)]
 | i + 1 => match ws[i]? with
  | some x => [("cells", .list (pvs (zv ws k c (i + 1)))), ("number", .int (i : Int)), ("facts", yB i x), ("pen", zq), ("name", Be (decide (c = some i))), ("told", .list (pvs (yZ x.wd i x.s (decide (c = some i)))))]
  | none => []
def wInv (o : Opt) (ws : List Win) (c : Option Nat) (k : Nat) (i : Nat) (ρ : zc) (σ : za) : Prop := i ≤ ws.length ∧ σ = wσ ws k c i ∧ ρ = Yv o ws c k (Qt ws c k i)
theorem wturn (w : World) (o : Opt) (ws : List Win) (c : Option Nat) (k : Nat) (hk : k ≤ 2) (hl : ws.length ≤ 4) (hw : ∀ x ∈ ws, 1 ≤ x.s ∧ x.s ≤ 4) (i : Nat) (x : Win) (hx : ws[i]? = some x) (ρ : zc) (σ : za) (hI : wInv o ws c k i ρ σ) (G : KF)
  (hG : ∀ ρ σ, wInv o ws c k (i + 1) ρ σ → G .next ρ σ) :
  TI (asg anT W0 (fun e ρ σ C => ET w nos 100 (.ex (frN 132 13) e ρ σ C)) (frN 132 13) 2 Ac.tgt (.tup [.int (i : Int), yB i x]) ρ σ fun ρ1 σ1 => ET w nos 100 (.sts (frN 132 13) Ac.body ρ1 σ1 fun fl ρ2 σ2 => jn (G fl ρ2 σ2))) := by
 obtain ⟨hle, rfl, hρ⟩ := hI
 replace hρ : (i = 0 ∧ ρ = Yv o ws c k [("cells", .loc 0)]) ∨ 0 < i ∧ ∃ n f nm td, ρ = Yv o ws c k [("cells", .list (pvs (zv ws k c i))), ("number", n), ("facts", f), ("pen", zq), ("name", nm), ("told", td)] := by
  cases i with
  | zero => exact .inl ⟨rfl, hρ⟩
  | succ j =>
   have hj : j < ws.length := by omega
   refine .inr ⟨Nat.succ_pos j, .int (j : Int), yB j ws[j], Be (decide (c = some j)), .list (pvs (yZ ws[j].wd j ws[j].s (decide (c = some j)))), ?_⟩
   rw [hρ]
   simp only [Qt, List.getElem?_eq_getElem hj]
 have hi : i < 4 := by have := (List.getElem?_eq_some_iff.mp hx).1; omega
 obtain ⟨h1, h4⟩ := hw x (List.mem_of_getElem? hx)
 have hcl := j7 (c := c) hk (fun x hx => (hw x hx).2) i
 have hsl := qe ws k c i
 have hck := Xl x.wd i x.s (decide (c = some i))
 have hsep : (yx k).length = k := by simp [yx]
 have hcn : zv ws k c (i + 1) = zv ws k c i ++ (if i = 0 then [] else yx k) ++ yZ x.wd i x.s (decide (c = some i)) := by simp only [zv, hx]
 have hsn : zO ws k c (i + 1) = zO ws k c i ++ [(((zv ws k c i ++ (if i = 0 then [] else yx k)).length : Int), ((zv ws k c i ++ (if i = 0 then [] else yx k)).length : Int) + ((yZ x.wd i x.s (decide (c = some i))).length : Int))] := by simp only [zO, hx]
 have hp : ∀ a b : List Cl, pvs a ++ pvs b = pvs (a ++ b) := by simp [pvs]
 have e7 : ∀ D : KD, D (.bytes (xX x.wd i x.s (decide (c = some i)))) (wσ ws k c i) → MC w 13 777 [.bytes (fmtB (decide (c = some i))), yB i x] (wσ ws k c i) D := fun D => (e777 w h4).gm (by decide) D
 have e3 : ∀ D : KD, D (.list (pvs (yZ x.wd i x.s (decide (c = some i))))) (wσ ws k c i) → MC w 13 763 [.bytes (xX x.wd i x.s (decide (c = some i))), zq, zX] (wσ ws k c i) D := fun D => (e763 w hi h1 h4).gm (by decide) D
 have hcur := cur_at (wσ ws k c i) c i
 generalize hct : xX x.wd i x.s (decide (c = some i)) = tB at e7 e3
 generalize hcc : yZ x.wd i x.s (decide (c = some i)) = ch at e3 hck hcn hsn
 have fin : ∀ (P : List Cl), P = zv ws k c i ++ (if i = 0 then [] else yx k) → G .next (Yv o ws c k [("cells", .list (pvs P ++ pvs ch)), ("number", .int (i : Int)), ("facts", yB i x), ("pen", zq), ("name", Be (decide (c = some i))), ("told", .list (pvs ch))]) [.list [], .list (zt (zO ws k c i) ++ [.tup [.int ((pvs P).length : Int), .int (((pvs P).length : Int) + ((pvs ch).length : Int))]])] := by
  intro P hP
  refine hG _ _ ⟨by have := (List.getElem?_eq_some_iff.mp hx).1; omega, ?_, ?_⟩
  ·unfold wσ
   rw [hsn, ← hP, zm, zm]
   simp [zt, qf]
  ·simp only [Qt, hx]
   rw [hcn, ← hP, hp, hcc]
 have hb1 : (pvs (zv ws k c i)).length ≤ 11 * i := by rw [zm]; exact hcl
 have hb2 : (pvs ch).length ≤ 2 * x.s + 1 := by rw [zm]; exact hck
 have hb3 : (pvs (yx k)).length = k := by rw [zm]; exact hsep
 have hb4 : (zt (zO ws k c i)).length ≤ i := by simpa [zt] using hsl
 cases hc : decide (c = some i) with
 | true =>
  rw [hc] at e7 hcur fin
  rcases hρ with ⟨rfl, rfl⟩ | ⟨hpos, n, f, nm, td, rfl⟩
  ·refine mkI [.bit false, .res zq (wσ ws k c 0), .bit true, .res zq (wσ ws k c 0), .res (.bytes qa) (wσ ws k c 0), .res (.bytes tB) (wσ ws k c 0), .res (.list (pvs ch)) (wσ ws k c 0)] true
    (CS w 13 770 [o.pv, .bytes DQ, zq] (wσ ws k c 0) zq ∧
     (zh (z0 (wσ ws k c 0) .Eq (.int ((0 : Nat) : Int)) (zy c)) true && true) = true ∧
     CS w 13 770 [o.pv, .bytes Cz, zq] (wσ ws k c 0) zq ∧
     true = true ∧
     CS w 13 516 [o.pv, .bytes Jg] (wσ ws k c 0) (.bytes qa) ∧
     true = true ∧
     CS w 13 777 [.bytes qa, yB 0 x] (wσ ws k c 0) (.bytes tB) ∧
     true = true ∧
     CS w 13 763 [.bytes tB, zq, zX] (wσ ws k c 0) (.list (pvs ch)) ∧
     ((pvs ch).length.ble 1000000 && ((zt (zO ws k c 0)).length.ble 1000000 && (decide (0 + (pvs ch).length ≤ 16777216) && true))) = true ∧
     G .next (Yv o ws c k [("cells", .list ((pvs []) ++ pvs ch)), ("number", .int ((0 : Nat) : Int)), ("facts", yB 0 x), ("pen", zq), ("name", .bytes Jg), ("told", .list (pvs ch))]) [.list [], .list (zt (zO ws k c 0) ++ [.tup [.int ((pvs []).length : Int), .int (((pvs []).length : Int) + ((pvs ch).length : Int))]])]) ?_ ?_
   ·rfl
   ·refine ⟨(qu w o).gm (by decide), ?_, (J0 w o).gm (by decide), rfl, (Xa w o).gm (by decide), rfl, e7, rfl, e3, ?_, fin [] rfl⟩
    ·simp only [Bool.and_eq_true, zl]; exact ⟨hcur, trivial⟩
    ·simp only [Bool.and_eq_true, Nat.ble_eq, decide_eq_true_eq]; exact ⟨by omega, by omega, by omega, trivial⟩
  ··have hi0 : ¬ i = 0 := by omega
    refine mkI [.bit true, .res zq (wσ ws k c i), .bit true, .res zq (wσ ws k c i), .res (.bytes qa) (wσ ws k c i), .res (.bytes tB) (wσ ws k c i), .res (.list (pvs ch)) (wσ ws k c i)] (zh (some (decide (0 < (i : Int)))) true && (decide ((pvs (zv ws k c i)).length + (pvs (yx k)).length ≤ 16777216) && true))
     (CS w 13 770 [o.pv, .bytes DQ, zq] (wσ ws k c i) zq ∧
      (zh (z0 (wσ ws k c i) .Eq (.int (i : Int)) (zy c)) true && true) = true ∧
      CS w 13 770 [o.pv, .bytes Cz, zq] (wσ ws k c i) zq ∧
      true = true ∧
      CS w 13 516 [o.pv, .bytes Jg] (wσ ws k c i) (.bytes qa) ∧
      true = true ∧
      CS w 13 777 [.bytes qa, yB i x] (wσ ws k c i) (.bytes tB) ∧
      true = true ∧
      CS w 13 763 [.bytes tB, zq, zX] (wσ ws k c i) (.list (pvs ch)) ∧
      ((pvs (zv ws k c i) ++ pvs (yx k)).length.ble 1000000 && ((pvs (zv ws k c i) ++ pvs (yx k)).length.ble 1000000 && ((pvs ch).length.ble 1000000 && ((zt (zO ws k c i)).length.ble 1000000 && (decide ((pvs (zv ws k c i) ++ pvs (yx k)).length + (pvs ch).length ≤ 16777216) && true))))) = true ∧
      G .next (Yv o ws c k [("cells", .list ((pvs (zv ws k c i) ++ pvs (yx k)) ++ pvs ch)), ("number", .int (i : Int)), ("facts", yB i x), ("pen", zq), ("name", .bytes Jg), ("told", .list (pvs ch))]) [.list [], .list (zt (zO ws k c i) ++ [.tup [.int ((pvs (zv ws k c i) ++ pvs (yx k)).length : Int), .int (((pvs (zv ws k c i) ++ pvs (yx k)).length : Int) + ((pvs ch).length : Int))]])]) ?_ ?_
    ·simp only [Bool.and_eq_true, zl, decide_eq_true_eq, Option.some.injEq]; exact ⟨by omega, by omega, trivial⟩
    ·refine ⟨(qu w o).gm (by decide), ?_, (J0 w o).gm (by decide), rfl, (Xa w o).gm (by decide), rfl, e7, rfl, e3, ?_, ?_⟩
     ·simp only [Bool.and_eq_true, zl]; exact ⟨hcur, trivial⟩
     ·simp only [Bool.and_eq_true, Nat.ble_eq, decide_eq_true_eq, List.length_append]; exact ⟨by omega, by omega, by omega, by omega, by omega, trivial⟩
     ·have := fin (zv ws k c i ++ yx k) (by rw [if_neg hi0])
      rw [← hp] at this
      exact this
 | false =>
  rw [hc] at e7 hcur fin
  rcases hρ with ⟨rfl, rfl⟩ | ⟨hpos, n, f, nm, td, rfl⟩
  ·refine mkI [.bit false, .res zq (wσ ws k c 0), .bit false, .res (.bytes JL) (wσ ws k c 0), .res (.bytes tB) (wσ ws k c 0), .res (.list (pvs ch)) (wσ ws k c 0)] true
    (CS w 13 770 [o.pv, .bytes DQ, zq] (wσ ws k c 0) zq ∧
     (zh (z0 (wσ ws k c 0) .Eq (.int ((0 : Nat) : Int)) (zy c)) false && true) = true ∧
     CS w 13 516 [o.pv, .bytes Bj] (wσ ws k c 0) (.bytes JL) ∧
     true = true ∧
     CS w 13 777 [.bytes JL, yB 0 x] (wσ ws k c 0) (.bytes tB) ∧
     true = true ∧
     CS w 13 763 [.bytes tB, zq, zX] (wσ ws k c 0) (.list (pvs ch)) ∧
     ((pvs ch).length.ble 1000000 && ((zt (zO ws k c 0)).length.ble 1000000 && (decide (0 + (pvs ch).length ≤ 16777216) && true))) = true ∧
     G .next (Yv o ws c k [("cells", .list ((pvs []) ++ pvs ch)), ("number", .int ((0 : Nat) : Int)), ("facts", yB 0 x), ("pen", zq), ("name", .bytes Bj), ("told", .list (pvs ch))]) [.list [], .list (zt (zO ws k c 0) ++ [.tup [.int ((pvs []).length : Int), .int (((pvs []).length : Int) + ((pvs ch).length : Int))]])]) ?_ ?_
   ·rfl
   ·refine ⟨(qu w o).gm (by decide), ?_, (Q7 w o).gm (by decide), rfl, e7, rfl, e3, ?_, fin [] rfl⟩
    ·simp only [Bool.and_eq_true, zl]; exact ⟨hcur, trivial⟩
    ·simp only [Bool.and_eq_true, Nat.ble_eq, decide_eq_true_eq]; exact ⟨by omega, by omega, by omega, trivial⟩
  ··have hi0 : ¬ i = 0 := by omega
    refine mkI [.bit true, .res zq (wσ ws k c i), .bit false, .res (.bytes JL) (wσ ws k c i), .res (.bytes tB) (wσ ws k c i), .res (.list (pvs ch)) (wσ ws k c i)] (zh (some (decide (0 < (i : Int)))) true && (decide ((pvs (zv ws k c i)).length + (pvs (yx k)).length ≤ 16777216) && true))
     (CS w 13 770 [o.pv, .bytes DQ, zq] (wσ ws k c i) zq ∧
      (zh (z0 (wσ ws k c i) .Eq (.int (i : Int)) (zy c)) false && true) = true ∧
      CS w 13 516 [o.pv, .bytes Bj] (wσ ws k c i) (.bytes JL) ∧
      true = true ∧
      CS w 13 777 [.bytes JL, yB i x] (wσ ws k c i) (.bytes tB) ∧
      true = true ∧
      CS w 13 763 [.bytes tB, zq, zX] (wσ ws k c i) (.list (pvs ch)) ∧
      ((pvs (zv ws k c i) ++ pvs (yx k)).length.ble 1000000 && ((pvs (zv ws k c i) ++ pvs (yx k)).length.ble 1000000 && ((pvs ch).length.ble 1000000 && ((zt (zO ws k c i)).length.ble 1000000 && (decide ((pvs (zv ws k c i) ++ pvs (yx k)).length + (pvs ch).length ≤ 16777216) && true))))) = true ∧
      G .next (Yv o ws c k [("cells", .list ((pvs (zv ws k c i) ++ pvs (yx k)) ++ pvs ch)), ("number", .int (i : Int)), ("facts", yB i x), ("pen", zq), ("name", .bytes Bj), ("told", .list (pvs ch))]) [.list [], .list (zt (zO ws k c i) ++ [.tup [.int ((pvs (zv ws k c i) ++ pvs (yx k)).length : Int), .int (((pvs (zv ws k c i) ++ pvs (yx k)).length : Int) + ((pvs ch).length : Int))]])]) ?_ ?_
    ·simp only [Bool.and_eq_true, zl, decide_eq_true_eq, Option.some.injEq]; exact ⟨by omega, by omega, trivial⟩
    ·refine ⟨(qu w o).gm (by decide), ?_, (Q7 w o).gm (by decide), rfl, e7, rfl, e3, ?_, ?_⟩
     ·simp only [Bool.and_eq_true, zl]; exact ⟨hcur, trivial⟩
     ·simp only [Bool.and_eq_true, Nat.ble_eq, decide_eq_true_eq, List.length_append]; exact ⟨by omega, by omega, by omega, by omega, by omega, trivial⟩
     ·have := fin (zv ws k c i ++ yx k) (by rw [if_neg hi0])
      rw [← hp] at this
      exact this
def wlPV (ws : List Win) (c : Option Nat) (k : Nat) : PV := .inst 813 [("cells", .list (pvs (zv ws k c ws.length))), ("spots", .list (zt (zO ws k c ws.length)))]
theorem jY (l : List (Int × Int)) : zx (zt l) = true := yf (fun _ => rfl) l
theorem e813 (w : World) {x y : zU} {a b : PV} (D : KD) (h : D (.loc 3) [x, y, .fields [("cells", a), ("spots", b)], .inst 813 2]) : MC w 13 813 [a, b] [x, y] D :=
 goF w (mkI [] true (D (.loc 3) [x, y, .fields [("cells", a), ("spots", b)], .inst 813 2]) rfl h)
theorem e824 (w : World) (o : Opt) (ws : List Win) (c : Option Nat) (k : Nat) (hk : k ≤ 2) (hl : ws.length ≤ 4) (hw : ∀ x ∈ ws, 1 ≤ x.s ∧ x.s ≤ 4) (ho : o.sep = yH 124 k) : PO w 14 824 [.list (zz ws), zy c, o.pv, zX] (wlPV ws c k) := by
 have hm : (124, k) ∈ xT := (by decide : ∀ k, k < 3 → (124, k) ∈ xT) k (Nat.lt_succ_of_le hk)
 refine xd ?_ fun D H => goF w ?_
 ·simp only [zx, zD, xv, Bool.true_and]
  cases c <;> rfl
 obtain ⟨cv, tl, htl, hfz⟩ : ∃ (cv : PV) (tl : zc), Qt ws c k ws.length = (("cells" : Str), cv) :: tl ∧ ∀ σ : za, σ[0]? = some (.list []) → FzV σ 0 cv (.list (pvs (zv ws k c ws.length))) := by
  cases h : ws.length with
  | zero => exact ⟨_, _, rfl, fun σ hσ => .locList (Nat.zero_le _) hσ .nil⟩
  | succ j =>
   have hj : j < ws.length := by omega
   refine ⟨_, _, by simp only [Qt, List.getElem?_eq_getElem hj]; rfl, fun σ _ => FzV.same _ _ (by simp only [zD, z7])⟩
 refine mkI [.res zq [], .res (.bytes o.sep) [], .res (.list (pvs (yx k))) [], .loop .next (Yv o ws c k (("cells", cv) :: tl)) (wσ ws k c ws.length), .res (.loc 3) (wσ ws k c ws.length ++ [.fields [("cells", cv), ("spots", .loc 1)], .inst 813 2])] true
  (CS w 13 770 [o.pv, .bytes nSt, zq] [] zq ∧ true = true ∧
   CS w 13 516 [o.pv, .bytes nSep] [] (.bytes o.sep) ∧ true = true ∧
   CS w 13 763 [.bytes o.sep, zq, zX] [] (.list (pvs (yx k))) ∧ true = true ∧
   (∀ D : KF, D .next (Yv o ws c k (("cells", cv) :: tl)) (wσ ws k c ws.length) → yJ pr w (Hf w.params) yF (frN 132 13) Ac.tgt (.enm (.list (zz ws))) 0 Ac.body Ac.els (Yv o ws c k [("cells", .loc 0)]) [.list [], .list []] D) ∧ true = true ∧
   (∀ D : KD, D (.loc 3) (wσ ws k c ws.length ++ [.fields [("cells", cv), ("spots", .loc 1)], .inst 813 2]) → MC w 13 813 [cv, .loc 1] (wσ ws k c ws.length) D) ∧ true = true ∧
   D (.loc 3) (wσ ws k c ws.length ++ [.fields [("cells", cv), ("spots", .loc 1)], .inst 813 2])) rfl ?_
 refine ⟨(Cm w o).gm (by decide), rfl, (FM w o).gm (by decide), rfl, ?_, rfl, fun D hD => ?_, rfl, fun D hD => e813 w D hD, rfl, H _ _ ?_⟩
 ·rw [ho]
  exact fun D => (r763 w hm).gm (by decide) D
 ·refine jQ (wok w) (evs w) ((zz ws).mapIdx fun i v => .tup [.int (i : Int), v]) (wInv o ws c k) (fun i ρ σ hi hI => ?_) (by kernel_rfl) (fun i v ρ σ hv hI => ?_) (fun ρ σ hI => ?_) ⟨Nat.zero_le _, rfl, rfl⟩
  ·exact C6 σ _ i
  ·simp only [List.getElem?_mapIdx, zz, Option.map_map] at hv
   cases hx : ws[i]? with
   | none => rw [hx] at hv; cases hv
   | some x =>
    rw [hx] at hv
    cases hv
    have hi := (List.getElem?_eq_some_iff.mp hx).1
    exact wturn w o ws c k hk hl hw i x hx ρ σ hI (qz (fun ρ σ => i < ((zz ws).mapIdx fun i v => PV.tup [.int (i : Int), v]).length ∧ wInv o ws c k (i + 1) ρ σ) D) fun ρ σ h => ⟨by simp [zz]; exact hi, h⟩
  ·obtain ⟨_, rfl, rfl⟩ := hI
   have e : ((zz ws).mapIdx fun i v => PV.tup [.int (i : Int), v]).length = ws.length := by simp [zz]
   rw [e, htl]
   exact mkI [] true (D .next (Yv o ws c k (("cells", cv) :: tl)) (wσ ws k c ws.length)) rfl hD
 ·refine .locInst (c := 813) (d := 2) (Nat.zero_le _) rfl (Nat.zero_le _) rfl (.cons (hfz _ rfl) (.cons (.locList (Nat.zero_le _) rfl (yk.same _ _ (jY _))) .nil))
end
section
def wlP (cs : List Cl) (sp : List (Int × Int)) : PV := .inst 813 [("cells", .list (pvs cs)), ("spots", .list (zt sp))]
noncomputable def stpL : Expr → Bool
 | .List .. => true
 | _ => false
def Qd (v lo hi : Int) : Int := ix lo (mn v hi)
def x3 (cs : List Cl) (p : Int × Int) (room : Int) : Int := Qd (Int.fdiv (p.1 + p.2) 2 - Int.fdiv room 2) 0 ((cs.length : Int) - room)
theorem JT (sp : List (Int × Int)) : (zt sp).length = sp.length := by simp [zt]
theorem e831a (w : World) (cs : List Cl) (sp : List (Int × Int)) (c : Option Nat) (room : Int) (hn : cs.length ≤ 1000000) (h : (cs.length : Int) ≤ room) : PO w 3 831 [wlP cs sp, zy c, .int room] (.int 0) := by
 refine jC fun σ D H => goF w ?_
 refine mkI [.bit true] ((pvs cs).length.ble 1000000 && (zh (some (decide (((pvs cs).length : Int) ≤ room))) true && true)) (D (.int 0) σ) ?_ H
 simp only [Bool.and_eq_true, zl, Option.some.injEq, decide_eq_true_eq]
 exact ⟨zK hn, by rw [zm]; exact h, trivial⟩
theorem FN {σ : za} {vs : List PV} {v : PV} {j : Nat} (h : vs[j]? = some v) (hl : vs.length ≤ 1000000) : yI σ (.list vs) (.int (j : Int)) = some v := by
 have hj := (List.getElem?_eq_some_iff.mp h).1
 exact (Jn vs (j : Int) j (qC hj (Nat.lt_of_lt_of_le hj (Nat.le_trans hl (by decide))))).trans h
theorem e831b (w : World) (cs : List Cl) (sp : List (Int × Int)) (c : Nat) (p : Int × Int) (room : Int) (hn : cs.length ≤ 1000000) (h : ¬ (cs.length : Int) ≤ room) (hs : sp.length ≤ 100) (hp : sp[c]? = some p) (hb : (p.1 + p.2).natAbs < 2 ^ 60) (hr : room.natAbs < 2 ^ 60) : PO w 3 831 [wlP cs sp, zy (some c), .int room] (.int (x3 cs p room)) := by
 have hc := (List.getElem?_eq_some_iff.mp hp).1
 refine jC fun σ D H => goF w ?_
 refine mkI [.bit false, .bit true, .bit true, .val (.tup [.int p.1, .int p.2]), .res (.int (x3 cs p room)) σ]
  ((pvs cs).length.ble 1000000 && (zh (some (decide (((pvs cs).length : Int) ≤ room))) false && (zh (some (decide (0 ≤ (c : Int)))) true && ((zt sp).length.ble 1000000 && (zh (some (decide ((c : Int) < ((zt sp).length : Int)))) true && ((true && decide ((p.1 + p.2).natAbs < 2 ^ 60) && true) && ((true && decide (room.natAbs < 2 ^ 60) && true) && ((pvs cs).length.ble 1000000 && true))))))))
  (yI σ (.list (zt sp)) (.int (c : Int)) = some (.tup [.int p.1, .int p.2]) ∧
   CS w 2 86 [.int (Int.fdiv (p.1 + p.2) 2 - Int.fdiv room 2), .int 0, .int (((pvs cs).length : Int) - room)] σ (.int (x3 cs p room)) ∧ true = true ∧ D (.int (x3 cs p room)) σ) ?_ ?_
 ·simp only [Bool.and_eq_true, zl, Option.some.injEq, decide_eq_true_eq, decide_eq_false_iff_not, JT]
  refine ⟨zK hn, ?_, by omega, Nat.ble_eq.mpr (by omega), by omega, ⟨⟨trivial, hb⟩, trivial⟩, ⟨⟨trivial, hr⟩, trivial⟩, zK hn, trivial⟩
  rw [zm]; exact h
 ·refine ⟨FN (v := qf p) (by simp [zt, hp]) (by rw [JT]; omega), ?_, rfl, H⟩
  rw [zm]
  exact fun D => (e86 w _ _ _).gm (by decide) D
theorem XW {w : World} {f : Fr0} {e : Expr} {ρ : zc} {σ : za} {vs : List PV} {D : KD} (h : ∀ D' : KD, D' (.loc σ.length) (σ ++ [.list vs]) → ME w f e ρ σ D') (hv : zx vs = true) (hd : D (.list vs) σ) : ME w f e ρ σ D :=
 Gm (h _ ⟨σ, .list vs, je.keep (.locList (Nat.le_refl _) (by simp) (yk.same _ _ hv)), hd⟩)
def x4 (base : List Cl) (off room : Int) : List Cl := if 3 ≤ room ∧ 0 < off then zB base 0 [.one 60] else base
def qy (base : List Cl) (off room n : Int) : List Cl := if 3 ≤ room ∧ off + room < n then zB base (room - 1) [.one 62] else base
def xg (cs : List Cl) (off room : Int) : List Cl := if 0 < room then zo cs off (off + room - 1) else []
def xK (cs : List Cl) (off room : Int) : List Cl := qy (x4 (xg cs off room) off room) off room (cs.length : Int)
theorem e838a (w : World) (cs : List Cl) (sp : List (Int × Int)) (c : Option Nat) (room : Int) (hn : cs.length ≤ 1000000) (h : (cs.length : Int) ≤ room) : PO w 3 838 [wlP cs sp, zy c, .int room, zq] (.list (pvs cs)) := by
 refine jC fun σ D H => goF w ?_
 refine mkI [.bit true] ((pvs cs).length.ble 1000000 && (zh (some (decide (((pvs cs).length : Int) ≤ room))) true && true)) (D (.list (pvs cs)) σ) ?_ H
 simp only [Bool.and_eq_true, zl, Option.some.injEq, decide_eq_true_eq]
 exact ⟨zK hn, by rw [zm]; exact h, trivial⟩
noncomputable def ifLst (s : Stmt) : Expr := match s with
 | .If _ (.Assign _ (.Call _ args _ _) _ :: _) _ _ => args.getD 2 (.Constant .none 0 default)
 | _ => .Constant .none 0 default
noncomputable def elsE (e : Expr) : Expr := match e with
 | .IfExp _ _ o _ => o
 | _ => .Constant .none 0 default
def qg (cs : List Cl) (sp : List (Int × Int)) (c room off : Int) (tl : zc) : zc := ("pen", zq) :: ("room", .int room) :: ("current", .int c) :: ("found", wlP cs sp) :: ("offset", .int off) :: tl
def lst0 : Expr := elsE (Qn (stN 134 2))
def lst1 : Expr := ifLst (stN 134 3)
def lst2 : Expr := ifLst (stN 134 4)
theorem q0 (w : World) (σ : za) (ρ : zc) (D : KD) (hd : D (.list []) σ) : ME w (frN 134 5) lst0 ρ σ D := XW (fun D' h => goX w (mkI [] true (D' (.loc σ.length) (σ ++ [.list []])) rfl h)) rfl hd
theorem q1 (w : World) (σ : za) (cs : List Cl) (sp : List (Int × Int)) (c room off : Int) (tl : zc) (D : KD) (hd : D (.list (pvs [.one 60])) σ) : ME w (frN 134 5) lst1 (qg cs sp c room off tl) σ D := XW (fun D' h => goX w (mkI [] true (D' (.loc σ.length) (σ ++ [.list (pvs [.one 60])])) rfl h)) rfl hd
theorem q2 (w : World) (σ : za) (cs : List Cl) (sp : List (Int × Int)) (c room off : Int) (tl : zc) (D : KD) (hd : D (.list (pvs [.one 62])) σ) : ME w (frN 134 5) lst2 (qg cs sp c room off tl) σ D := XW (fun D' h => goX w (mkI [] true (D' (.loc σ.length) (σ ++ [.list (pvs [.one 62])])) rfl h)) rfl hd
theorem y5 (row : List Cl) (m : Int) (cs : List Cl) : (zB row m cs).length ≤ 2 * row.length + cs.length := by
 unfold zB
 split
 ·omega
 ·have h1 := yp row 0 (m - 1)
  have h2 := yp row (m + ((zA cs (ix 0 ((row.length : Int) - m))).length : Int)) ((row.length : Int) - 1)
  have h3 := yQ cs (ix 0 ((row.length : Int) - m))
  simp only [List.length_append]
  omega
theorem e838b (w : World) (cs : List Cl) (sp : List (Int × Int)) (c : Nat) (p : Int × Int) (room : Int) (hn : cs.length ≤ 10000) (h : ¬ (cs.length : Int) ≤ room) (h0 : 0 ≤ room) (hs : sp.length ≤ 100) (hp : sp[c]? = some p) (hb : (p.1 + p.2).natAbs < 2 ^ 60) (hr : room.natAbs < 2 ^ 60) :
  PO w 6 838 [wlP cs sp, zy (some c), .int room, zq] (.list (pvs (xK cs (x3 cs p room) room))) := by
 refine jC fun σ D H => Br w stpL ?_
 have hoff : ∀ D : KD, D (.int (x3 cs p room)) σ → MC w 5 831 [wlP cs sp, .int (c : Int), .int room] σ D := fun D => (e831b w cs sp c p room (by omega) h hs hp hb hr).gm (by decide) D
 generalize x3 cs p room = off at hoff H
 show TI (CT w stpL 6 838 [wlP cs sp, .int (c : Int), .int room, zq] σ D)
 generalize (c : Int) = c at hoff ⊢
 have gB : ((pvs cs).length.ble 1000000 && (zh (some (decide (((pvs cs).length : Int) ≤ room))) false && true)) = true := by
  simp only [Bool.and_eq_true, zl, Option.some.injEq, decide_eq_false_iff_not, Nat.ble_eq, zm, and_true]; omega
 unfold xK at H
 have hl2 : ∀ b1 : List Cl, b1.length ≤ 50000 → ∀ D : KD, D (.list (pvs (zB b1 (room - 1) [.one 62]))) σ → MC w 5 796 [.list (pvs b1), .int (room - 1), .list (pvs [.one 62])] σ D := fun b1 hb1 D => (e796 w b1 _ [.one 62] (by omega) (by simp)).gm (by decide) D
 have hl1 : ∀ b1 : List Cl, b1.length ≤ 50000 → ∀ D : KD, D (.list (pvs (zB b1 0 [.one 60]))) σ → MC w 5 796 [.list (pvs b1), .int 0, .list (pvs [.one 60])] σ D := fun b1 hb1 D => (e796 w b1 _ [.one 60] (by omega) (by simp)).gm (by decide) D
 by_cases hr0 : 0 < room
 ·have hsl : ∀ D : KD, D (.list (pvs (zo cs off (off + room - 1)))) σ → MC w 5 149 [.list (pvs cs), .int off, .int (off + room - 1)] σ D := fun D => (e149 w cs _ _ (by omega)).gm (by decide) D
  have hb0 : (zo cs off (off + room - 1)).length ≤ 10000 := Nat.le_trans (yp ..) hn
  rw [xg, if_pos hr0] at H
  generalize zo cs off (off + room - 1) = b0 at hsl hb0 H
  by_cases h3 : 3 ≤ room
  ·by_cases ho : 0 < off
   ·rw [x4, if_pos ⟨h3, ho⟩] at H
    replace hl1 := hl1 b0 (by omega)
    have hb1 := y5 b0 0 [.one 60]
    generalize zB b0 0 [.one 60] = l1 at hl1 H hb1
    simp only [List.length_cons, List.length_nil] at hb1
    by_cases hm : off + room < (cs.length : Int)
    ·rw [qy, if_pos ⟨h3, hm⟩] at H
     replace hl2 := hl2 l1 (by omega)
     generalize zB l1 (room - 1) [.one 62] = l2 at hl2 H
     refine mkI [.bit false, .res (.int off) σ, .bit true, .res (.list (pvs b0)) σ, .bit true, .bit true, .res (.list (pvs [.one 60])) σ, .res (.list (pvs l1)) σ, .bit true, .bit true, .res (.list (pvs [.one 62])) σ, .res (.list (pvs l2)) σ]
      ((pvs cs).length.ble 1000000 && (zh (some (decide (((pvs cs).length : Int) ≤ room))) false && true))
      (CS w 5 831 [wlP cs sp, .int c, .int room] σ (.int off) ∧
       (zh (some (decide (0 < room))) true && true) = true ∧
       CS w 5 149 [.list (pvs cs), .int off, .int (off + room - 1)] σ (.list (pvs b0)) ∧
       (zh (some (decide (3 ≤ room))) true && (zh (some (decide (0 < off))) true && true)) = true ∧
       CE w (frN 134 5) lst1 (qg cs sp c room off [("cells", .list (pvs b0))]) σ (.list (pvs [.one 60])) ∧
       true = true ∧
       CS w 5 796 [.list (pvs b0), .int 0, .list (pvs [.one 60])] σ (.list (pvs l1)) ∧
       (zh (some (decide (3 ≤ room))) true && ((pvs cs).length.ble 1000000 && (zh (some (decide (off + room < ((pvs cs).length : Int)))) true && true))) = true ∧
       CE w (frN 134 5) lst2 (qg cs sp c room off [("cells", .list (pvs l1))]) σ (.list (pvs [.one 62])) ∧
       true = true ∧
       CS w 5 796 [.list (pvs l1), .int (room - 1), .list (pvs [.one 62])] σ (.list (pvs l2)) ∧
       true = true ∧
       D (.list (pvs l2)) σ) gB ⟨hoff, by first | rfl | (simp only [Bool.and_eq_true, zl, Option.some.injEq, decide_eq_true_eq, decide_eq_false_iff_not, Nat.ble_eq, zm, and_true]; omega), hsl, by first | rfl | (simp only [Bool.and_eq_true, zl, Option.some.injEq, decide_eq_true_eq, decide_eq_false_iff_not, Nat.ble_eq, zm, and_true]; omega), fun D hd => q1 w σ cs sp c room off _ D hd, rfl, hl1, by first | rfl | (simp only [Bool.and_eq_true, zl, Option.some.injEq, decide_eq_true_eq, decide_eq_false_iff_not, Nat.ble_eq, zm, and_true]; omega), fun D hd => q2 w σ cs sp c room off _ D hd, rfl, hl2, by first | rfl | (simp only [Bool.and_eq_true, zl, Option.some.injEq, decide_eq_true_eq, decide_eq_false_iff_not, Nat.ble_eq, zm, and_true]; omega), H⟩
    ·rw [qy, if_neg (fun q => hm q.2)] at H
     refine mkI [.bit false, .res (.int off) σ, .bit true, .res (.list (pvs b0)) σ, .bit true, .bit true, .res (.list (pvs [.one 60])) σ, .res (.list (pvs l1)) σ, .bit true, .bit false]
      ((pvs cs).length.ble 1000000 && (zh (some (decide (((pvs cs).length : Int) ≤ room))) false && true))
      (CS w 5 831 [wlP cs sp, .int c, .int room] σ (.int off) ∧
       (zh (some (decide (0 < room))) true && true) = true ∧
       CS w 5 149 [.list (pvs cs), .int off, .int (off + room - 1)] σ (.list (pvs b0)) ∧
       (zh (some (decide (3 ≤ room))) true && (zh (some (decide (0 < off))) true && true)) = true ∧
       CE w (frN 134 5) lst1 (qg cs sp c room off [("cells", .list (pvs b0))]) σ (.list (pvs [.one 60])) ∧
       true = true ∧
       CS w 5 796 [.list (pvs b0), .int 0, .list (pvs [.one 60])] σ (.list (pvs l1)) ∧
       (zh (some (decide (3 ≤ room))) true && ((pvs cs).length.ble 1000000 && (zh (some (decide (off + room < ((pvs cs).length : Int)))) false && true))) = true ∧
       D (.list (pvs l1)) σ) gB ⟨hoff, by first | rfl | (simp only [Bool.and_eq_true, zl, Option.some.injEq, decide_eq_true_eq, decide_eq_false_iff_not, Nat.ble_eq, zm, and_true]; omega), hsl, by first | rfl | (simp only [Bool.and_eq_true, zl, Option.some.injEq, decide_eq_true_eq, decide_eq_false_iff_not, Nat.ble_eq, zm, and_true]; omega), fun D hd => q1 w σ cs sp c room off _ D hd, rfl, hl1, by first | rfl | (simp only [Bool.and_eq_true, zl, Option.some.injEq, decide_eq_true_eq, decide_eq_false_iff_not, Nat.ble_eq, zm, and_true]; omega), H⟩
   ·rw [x4, if_neg (fun q => ho q.2)] at H
    by_cases hm : off + room < (cs.length : Int)
    ·rw [qy, if_pos ⟨h3, hm⟩] at H
     replace hl2 := hl2 b0 (by omega)
     generalize zB b0 (room - 1) [.one 62] = l2 at hl2 H
     refine mkI [.bit false, .res (.int off) σ, .bit true, .res (.list (pvs b0)) σ, .bit true, .bit false, .bit true, .bit true, .res (.list (pvs [.one 62])) σ, .res (.list (pvs l2)) σ]
      ((pvs cs).length.ble 1000000 && (zh (some (decide (((pvs cs).length : Int) ≤ room))) false && true))
      (CS w 5 831 [wlP cs sp, .int c, .int room] σ (.int off) ∧
       (zh (some (decide (0 < room))) true && true) = true ∧
       CS w 5 149 [.list (pvs cs), .int off, .int (off + room - 1)] σ (.list (pvs b0)) ∧
       (zh (some (decide (3 ≤ room))) true && (zh (some (decide (0 < off))) false && (zh (some (decide (3 ≤ room))) true && ((pvs cs).length.ble 1000000 && (zh (some (decide (off + room < ((pvs cs).length : Int)))) true && true))))) = true ∧
       CE w (frN 134 5) lst2 (qg cs sp c room off [("cells", .list (pvs b0))]) σ (.list (pvs [.one 62])) ∧
       true = true ∧
       CS w 5 796 [.list (pvs b0), .int (room - 1), .list (pvs [.one 62])] σ (.list (pvs l2)) ∧
       true = true ∧
       D (.list (pvs l2)) σ) gB ⟨hoff, by first | rfl | (simp only [Bool.and_eq_true, zl, Option.some.injEq, decide_eq_true_eq, decide_eq_false_iff_not, Nat.ble_eq, zm, and_true]; omega), hsl, by first | rfl | (simp only [Bool.and_eq_true, zl, Option.some.injEq, decide_eq_true_eq, decide_eq_false_iff_not, Nat.ble_eq, zm, and_true]; omega), fun D hd => q2 w σ cs sp c room off _ D hd, rfl, hl2, by first | rfl | (simp only [Bool.and_eq_true, zl, Option.some.injEq, decide_eq_true_eq, decide_eq_false_iff_not, Nat.ble_eq, zm, and_true]; omega), H⟩
    ·rw [qy, if_neg (fun q => hm q.2)] at H
     refine mkI [.bit false, .res (.int off) σ, .bit true, .res (.list (pvs b0)) σ, .bit true, .bit false, .bit true, .bit false]
      ((pvs cs).length.ble 1000000 && (zh (some (decide (((pvs cs).length : Int) ≤ room))) false && true))
      (CS w 5 831 [wlP cs sp, .int c, .int room] σ (.int off) ∧
       (zh (some (decide (0 < room))) true && true) = true ∧
       CS w 5 149 [.list (pvs cs), .int off, .int (off + room - 1)] σ (.list (pvs b0)) ∧
       (zh (some (decide (3 ≤ room))) true && (zh (some (decide (0 < off))) false && (zh (some (decide (3 ≤ room))) true && ((pvs cs).length.ble 1000000 && (zh (some (decide (off + room < ((pvs cs).length : Int)))) false && true))))) = true ∧
       D (.list (pvs b0)) σ) gB ⟨hoff, by first | rfl | (simp only [Bool.and_eq_true, zl, Option.some.injEq, decide_eq_true_eq, decide_eq_false_iff_not, Nat.ble_eq, zm, and_true]; omega), hsl, by first | rfl | (simp only [Bool.and_eq_true, zl, Option.some.injEq, decide_eq_true_eq, decide_eq_false_iff_not, Nat.ble_eq, zm, and_true]; omega), H⟩
  ·rw [x4, if_neg (fun q => h3 q.1), qy, if_neg (fun q => h3 q.1)] at H
   refine mkI [.bit false, .res (.int off) σ, .bit true, .res (.list (pvs b0)) σ, .bit false, .bit false]
    ((pvs cs).length.ble 1000000 && (zh (some (decide (((pvs cs).length : Int) ≤ room))) false && true))
    (CS w 5 831 [wlP cs sp, .int c, .int room] σ (.int off) ∧
     (zh (some (decide (0 < room))) true && true) = true ∧
     CS w 5 149 [.list (pvs cs), .int off, .int (off + room - 1)] σ (.list (pvs b0)) ∧
     (zh (some (decide (3 ≤ room))) false && (zh (some (decide (3 ≤ room))) false && true)) = true ∧
     D (.list (pvs b0)) σ) gB ⟨hoff, by first | rfl | (simp only [Bool.and_eq_true, zl, Option.some.injEq, decide_eq_true_eq, decide_eq_false_iff_not, Nat.ble_eq, zm, and_true]; omega), hsl, by first | rfl | (simp only [Bool.and_eq_true, zl, Option.some.injEq, decide_eq_true_eq, decide_eq_false_iff_not, Nat.ble_eq, zm, and_true]; omega), H⟩
 ·rw [xg, if_neg hr0, x4, if_neg (fun q => by omega), qy, if_neg (fun q => by omega)] at H
  refine mkI [.bit false, .res (.int off) σ, .bit false, .res (.list []) σ, .bit false, .bit false]
   ((pvs cs).length.ble 1000000 && (zh (some (decide (((pvs cs).length : Int) ≤ room))) false && true))
   (CS w 5 831 [wlP cs sp, .int c, .int room] σ (.int off) ∧
    (zh (some (decide (0 < room))) false && true) = true ∧
    CE w (frN 134 5) lst0 (qg cs sp c room off []) σ (.list []) ∧
    (zh (some (decide (3 ≤ room))) false && (zh (some (decide (3 ≤ room))) false && true)) = true ∧
    D (.list []) σ) gB ⟨hoff, by first | rfl | (simp only [Bool.and_eq_true, zl, Option.some.injEq, decide_eq_true_eq, decide_eq_false_iff_not, Nat.ble_eq, zm, and_true]; omega), fun D hd => q0 w σ _ D hd, by first | rfl | (simp only [Bool.and_eq_true, zl, Option.some.injEq, decide_eq_true_eq, decide_eq_false_iff_not, Nat.ble_eq, zm, and_true]; omega), H⟩
end
section
noncomputable def xn : Nat → Array UInt8
 | 0 => #[108, 101, 102, 116]
 | 1 => #[99, 101, 110, 116, 114, 101]
 | 2 => #[114, 105, 103, 104, 116]
 | _ => #[97, 98, 115, 111, 108, 117, 116, 101, 45, 99, 101, 110, 116, 114, 101]
def pf (W room off : Int) (c : Option Nat) (l r : List Cl) (cs : List Cl) (sp : List (Int × Int)) (tl : List (Str × PV)) : List (Str × PV) := ("pen", zq) :: ("width", .int W) :: ("current", zy c) :: ("left", .list (pvs l)) :: ("right", .list (pvs r)) :: ("windows", wlP cs sp) :: ("room", .int room) :: ("offset", .int off) :: tl
def jb (W room off col : Int) (c : Option Nat) (l r : List Cl) (cs : List Cl) (sp : List (Int × Int)) : PV := .inst 876 (pf W room off c l r cs sp [("column", .int col)])
def zH (v : Nat) (room W : Int) (left n : Nat) : Int := match v with
 | 0 => 0
 | 1 => Int.fdiv (ix 0 (room - (n : Int))) 2
 | 2 => ix 0 (room - (n : Int))
 | _ => Qd (Int.fdiv (W - (n : Int)) 2 - (left : Int)) 0 (ix 0 (room - (n : Int)))
theorem FA {a b : Int} (ha : a.natAbs < 2 ^ 60) (hb : b.natAbs < 2 ^ 60) : (ix a b).natAbs < 2 ^ 60 := by unfold ix; split <;> assumption
def pσ (W room off : Int) (c : Option Nat) (l r : List Cl) (cs : List Cl) (sp : List (Int × Int)) : za := [.fields (pf W room off c l r cs sp []), .inst 876 0]
theorem e859 (w : World) (v : Nat) (W room off : Int) (c : Option Nat) (l r cs : List Cl) (sp : List (Int × Int)) (hl : l.length ≤ 10000) (hn : cs.length ≤ 10000) (hW : W.natAbs ≤ 10000) (hr : room.natAbs ≤ 100000) (D : KD)
  (H : D (.int (zH v room W l.length cs.length)) (pσ W room off c l r cs sp)) : MC w 14 859 [.loc 1, .bytes (xn v)] (pσ W room off c l r cs sp) D := by
 have hL : ((pvs cs).length.ble 1000000 && true) = true := by rw [zK (by omega)]; rfl
 have hi : (ix 0 (room - ((pvs cs).length : Int))).natAbs < 2 ^ 60 := FA (by decide) (by rw [zm]; omega)
 have hi2 : (W - ((pvs cs).length : Int)).natAbs < 2 ^ 60 := by rw [zm]; omega
 refine goF w ?_
 match v, H with
 | 0, H => exact mkI [] ((pvs cs).length.ble 1000000 && true) (D (.int 0) (pσ W room off c l r cs sp)) hL H
 | 1, H =>
  rw [← zm cs] at H
  refine mkI [] ((pvs cs).length.ble 1000000 && ((true && decide ((ix 0 (room - ((pvs cs).length : Int))).natAbs < 2 ^ 60) && true) && true)) (D (.int (Int.fdiv (ix 0 (room - ((pvs cs).length : Int))) 2)) (pσ W room off c l r cs sp)) ?_ H
  rw [zK (by omega), decide_eq_true hi]; rfl
 | 2, H =>
  rw [← zm cs] at H
  exact mkI [] ((pvs cs).length.ble 1000000 && true) (D (.int (ix 0 (room - ((pvs cs).length : Int)))) (pσ W room off c l r cs sp)) hL H
 | v + 3, H =>
  rw [← zm cs, ← zm l] at H
  refine mkI [.res (.int (zH 3 room W (pvs l).length (pvs cs).length)) (pσ W room off c l r cs sp)] ((pvs cs).length.ble 1000000 && ((pvs cs).length.ble 1000000 && ((true && decide ((W - ((pvs cs).length : Int)).natAbs < 2 ^ 60) && true) && ((pvs l).length.ble 1000000 && true))))
   (CS w 13 86 [.int (Int.fdiv (W - ((pvs cs).length : Int)) 2 - ((pvs l).length : Int)), .int 0, .int (ix 0 (room - ((pvs cs).length : Int)))] (pσ W room off c l r cs sp) (.int (zH 3 room W (pvs l).length (pvs cs).length)) ∧ true = true ∧ D (.int (zH 3 room W (pvs l).length (pvs cs).length)) (pσ W room off c l r cs sp)) ?_ ⟨fun D => (e86 w _ _ _).gm (by decide) D, rfl, H⟩
  rw [zK (by omega), zK (by omega), decide_eq_true hi2]; rfl
def yo (cs : List Cl) (sp : List (Int × Int)) (c : Option Nat) (room : Int) : Int := if (cs.length : Int) ≤ room then 0 else match c with
 | some i => (match sp[i]? with | some p => x3 cs p room | none => 0)
 | none => 0
def Full (cs : List Cl) (sp : List (Int × Int)) (c : Option Nat) (room : Int) : Prop := ¬ (cs.length : Int) ≤ room → ∃ i p, c = some i ∧ sp[i]? = some p ∧ (p.1 + p.2).natAbs < 2 ^ 60
theorem e831 (w : World) (cs : List Cl) (sp : List (Int × Int)) (c : Option Nat) (room : Int) (hn : cs.length ≤ 1000000) (hs : sp.length ≤ 100) (hr : room.natAbs < 2 ^ 60) (hf : Full cs sp c room) : PO w 3 831 [wlP cs sp, zy c, .int room] (.int (yo cs sp c room)) := by
 unfold yo
 by_cases h : (cs.length : Int) ≤ room
 ·rw [if_pos h]
  exact e831a w cs sp c room hn h
 ·rw [if_neg h]
  obtain ⟨i, p, rfl, hp, hb⟩ := hf h
  simp only [hp]
  exact e831b w cs sp i p room hn h hs hp hb hr
structure Dat where
 o : Opt
 ws : List Win
 c : Option Nat
 k : Nat
 n0 : Nat
 n1 : Nat
 v : Nat
 W : Int
def Dat.l (d : Dat) : List Cl := zA (yh 49 d.n0 d.o.m0) d.W
def Dat.r (d : Dat) : List Cl := zA (yh 50 d.n1 d.o.m1) (d.W - (d.l.length : Int))
def Dat.cs (d : Dat) : List Cl := zv d.ws d.k d.c d.ws.length
def Dat.sp (d : Dat) : List (Int × Int) := zO d.ws d.k d.c d.ws.length
def Dat.room (d : Dat) : Int := d.W - (d.l.length : Int) - (d.r.length : Int)
def Dat.off (d : Dat) : Int := yo d.cs d.sp d.c d.room
def Dat.col (d : Dat) : Int := (d.l.length : Int) + zH d.v d.room d.W d.l.length d.cs.length
def Dat.plan (d : Dat) : PV := jb d.W d.room d.off d.col d.c d.l d.r d.cs d.sp
structure Dat.Ok (d : Dat) : Prop where
 t0 : d.o.t0 = yH 49 d.n0
 t1 : d.o.t1 = yH 50 d.n1
 sep : d.o.sep = yH 124 d.k
 way : d.o.way = xn d.v
 n0 : d.n0 ≤ 5
 n1 : d.n1 ≤ 5
 k : d.k ≤ 2
 lw : d.ws.length ≤ 4
 w : ∀ x ∈ d.ws, 1 ≤ x.s ∧ x.s ≤ 4
 W0 : 0 ≤ d.W
 W1 : d.W ≤ 1000
 full : Full d.cs d.sp d.c d.room
theorem YD (c n : Nat) (m : Int) : (yh c n m).length ≤ n := by
 unfold yh
 exact Nat.le_trans (yQ ..) (by simp)
theorem Dat.l_le {d : Dat} (h : d.Ok) : d.l.length ≤ 5 := Nat.le_trans (yQ ..) (Nat.le_trans (YD ..) h.n0)
theorem Dat.r_le {d : Dat} (h : d.Ok) : d.r.length ≤ 5 := Nat.le_trans (yQ ..) (Nat.le_trans (YD ..) h.n1)
theorem Dat.cs_le {d : Dat} (h : d.Ok) : d.cs.length ≤ 44 := Nat.le_trans (j7 h.k (fun x hx => (h.w x hx).2) _) (by have := h.lw; omega)
theorem Dat.sp_le {d : Dat} (h : d.Ok) : d.sp.length ≤ 4 := Nat.le_trans (qe ..) h.lw
theorem e876 (w : World) (d : Dat) (h : d.Ok) : PO w 15 876 [.dict [], .list (zz d.ws), zy d.c, d.o.pv, .int d.W, zX] d.plan := by
 have hl := Dat.l_le h
 have hr := Dat.r_le h
 have hcs := Dat.cs_le h
 have hsp := Dat.sp_le h
 have hW0 := h.W0
 have hW1 := h.W1
 have eroom : d.room = d.W - ((pvs d.l).length : Int) - ((pvs d.r).length : Int) := by rw [zm, zm]; rfl
 have ecol : ((pvs d.l).length : Int) + zH d.v d.room d.W d.l.length d.cs.length = d.col := by rw [zm]; rfl
 have hroom : d.room.natAbs ≤ 100000 := by unfold Dat.room; omega
 have eL : ∀ (σ : za) (D : KD), D (.list (pvs (yh 49 d.n0 d.o.m0))) σ → MC w 14 887 [.dict [], d.o.pv, .bytes J5, zq, zX] σ D := fun σ D => (e887L w d.o d.n0 h.n0 h.t0).gm (by decide) D
 have eR : ∀ (σ : za) (D : KD), D (.list (pvs (yh 50 d.n1 d.o.m1))) σ → MC w 14 887 [.dict [], d.o.pv, .bytes q7, zq, zX] σ D := fun σ D => (e887R w d.o d.n1 h.n1 h.t1).gm (by decide) D
 have ecl : ∀ (σ : za) (D : KD), D (.list (pvs d.l)) σ → MC w 14 789 [.list (pvs (yh 49 d.n0 d.o.m0)), .int d.W] σ D := fun σ D => (e789 w _ _ (by have := YD 49 d.n0 d.o.m0; have := h.n0; omega)).gm (by decide) D
 have ecr : ∀ (σ : za) (D : KD), D (.list (pvs d.r)) σ → MC w 14 789 [.list (pvs (yh 50 d.n1 d.o.m1)), .int (d.W - ((pvs d.l).length : Int))] σ D := by
  rw [zm]
  exact fun σ D => (e789 w _ _ (by have := YD 50 d.n1 d.o.m1; have := h.n1; omega)).gm (by decide) D
 have ewl : ∀ (σ : za) (D : KD), D (wlP d.cs d.sp) σ → MC w 14 824 [.list (zz d.ws), zy d.c, d.o.pv, zX] σ D := fun σ D => (e824 w d.o d.ws d.c d.k h.k h.lw h.w h.sep).gm (by decide) D
 have eof : ∀ (σ : za) (D : KD), D (.int d.off) σ → MC w 14 831 [wlP d.cs d.sp, zy d.c, .int d.room] σ D := fun σ D => (e831 w _ _ _ _ (by omega) (by omega) (by omega) h.full).gm (by decide) D
 have esh : ∀ (D : KD), D (.int (zH d.v d.room d.W d.l.length d.cs.length)) (pσ d.W d.room d.off d.c d.l d.r d.cs d.sp) → MC w 14 859 [.loc 1, .bytes d.o.way] (pσ d.W d.room d.off d.c d.l d.r d.cs d.sp) D := by
  rw [h.way]
  exact fun D => e859 w d.v d.W d.room d.off d.c d.l d.r d.cs d.sp (by omega) (by omega) (by omega) hroom D
 have hll : ((pvs d.l).length.ble 1000000 && true) = true := by rw [zK (by omega)]; rfl
 have hlr : ((pvs d.l).length.ble 1000000 && ((pvs d.r).length.ble 1000000 && true)) = true := by rw [zK (by omega), zK (by omega)]; rfl
 refine xd ?_ fun D H => goF w ?_
 ·simp only [zx, zD, xv, Bool.true_and]
  cases d.c <;> rfl
 have fin : D (.loc 1) [.fields (pf d.W d.room d.off d.c d.l d.r d.cs d.sp [("column", .int d.col)]), .inst 876 0] := by
  refine H _ _ (.locInst (c := 876) (d := 0) (Nat.zero_le _) rfl (Nat.zero_le _) rfl (j9.same _ _ ?_))
  simp only [pf, xw, zD, z7, wlP, jY, Bool.and_true, Bool.true_and]
  cases d.c <;> rfl
 rw [← ecol] at fin
 generalize d.off = off at *
 generalize zH d.v d.room d.W d.l.length d.cs.length = sh at *
 generalize d.cs = cs at *
 generalize d.sp = sp at *
 rw [eroom] at *
 generalize d.l = l at *
 generalize d.r = r at *
 generalize yh 49 d.n0 d.o.m0 = l0 at *
 generalize yh 50 d.n1 d.o.m1 = r0 at *
 generalize hro : d.W - ((pvs l).length : Int) - ((pvs r).length : Int) = room at *
 subst hro
 refine mkI [.res zq [.fields [], .inst 876 0], .res (.list (pvs l0)) [.fields [("pen", zq), ("width", .int d.W), ("current", zy d.c)], .inst 876 0], .res (.list (pvs r0)) [.fields [("pen", zq), ("width", .int d.W), ("current", zy d.c)], .inst 876 0], .res (.list (pvs l)) [.fields [("pen", zq), ("width", .int d.W), ("current", zy d.c)], .inst 876 0],
  .res (.list (pvs r)) [.fields [("pen", zq), ("width", .int d.W), ("current", zy d.c), ("left", .list (pvs l))], .inst 876 0], .res (wlP cs sp) [.fields [("pen", zq), ("width", .int d.W), ("current", zy d.c), ("left", .list (pvs l)), ("right", .list (pvs r))], .inst 876 0], .res (.int off) [.fields [("pen", zq), ("width", .int d.W), ("current", zy d.c), ("left", .list (pvs l)), ("right", .list (pvs r)), ("windows", wlP cs sp), ("room", .int (d.W - ((pvs l).length : Int) - ((pvs r).length : Int)))], .inst 876 0],
  .res (.bytes d.o.way) (pσ d.W (d.W - ((pvs l).length : Int) - ((pvs r).length : Int)) off d.c l r cs sp), .res (.int sh) (pσ d.W (d.W - ((pvs l).length : Int) - ((pvs r).length : Int)) off d.c l r cs sp)] true
  (CS w 14 770 [d.o.pv, .bytes nSt, zq] [.fields [], .inst 876 0] zq ∧ true = true ∧
   CS w 14 887 [.dict [], d.o.pv, .bytes J5, zq, zX] [.fields [("pen", zq), ("width", .int d.W), ("current", zy d.c)], .inst 876 0] (.list (pvs l0)) ∧ true = true ∧
   CS w 14 887 [.dict [], d.o.pv, .bytes q7, zq, zX] [.fields [("pen", zq), ("width", .int d.W), ("current", zy d.c)], .inst 876 0] (.list (pvs r0)) ∧ true = true ∧
   CS w 14 789 [.list (pvs l0), .int d.W] [.fields [("pen", zq), ("width", .int d.W), ("current", zy d.c)], .inst 876 0] (.list (pvs l)) ∧ ((pvs l).length.ble 1000000 && true) = true ∧
   CS w 14 789 [.list (pvs r0), .int (d.W - ((pvs l).length : Int))] [.fields [("pen", zq), ("width", .int d.W), ("current", zy d.c), ("left", .list (pvs l))], .inst 876 0] (.list (pvs r)) ∧ true = true ∧
   CS w 14 824 [.list (zz d.ws), zy d.c, d.o.pv, zX] [.fields [("pen", zq), ("width", .int d.W), ("current", zy d.c), ("left", .list (pvs l)), ("right", .list (pvs r))], .inst 876 0] (wlP cs sp) ∧ ((pvs l).length.ble 1000000 && ((pvs r).length.ble 1000000 && true)) = true ∧
   CS w 14 831 [wlP cs sp, zy d.c, .int (d.W - ((pvs l).length : Int) - ((pvs r).length : Int))] [.fields [("pen", zq), ("width", .int d.W), ("current", zy d.c), ("left", .list (pvs l)), ("right", .list (pvs r)), ("windows", wlP cs sp), ("room", .int (d.W - ((pvs l).length : Int) - ((pvs r).length : Int)))], .inst 876 0] (.int off) ∧ ((pvs l).length.ble 1000000 && true) = true ∧
   CS w 14 516 [d.o.pv, .bytes Fp] (pσ d.W (d.W - ((pvs l).length : Int) - ((pvs r).length : Int)) off d.c l r cs sp) (.bytes d.o.way) ∧ true = true ∧
   CS w 14 859 [.loc 1, .bytes d.o.way] (pσ d.W (d.W - ((pvs l).length : Int) - ((pvs r).length : Int)) off d.c l r cs sp) (.int sh) ∧ true = true ∧
   D (.loc 1) [.fields (pf d.W (d.W - ((pvs l).length : Int) - ((pvs r).length : Int)) off d.c l r cs sp [("column", .int (((pvs l).length : Int) + sh))]), .inst 876 0]) rfl
  ⟨(Cm w d.o).gm (by decide), rfl, eL _, rfl, eR _, rfl, ecl _, hll, ecr _, rfl, ewl _, hlr, eof _, hll, (D2 w d.o).gm (by decide), rfl, esh, rfl, fin⟩
end
section
noncomputable def hit (place : Int) (p : Int × Int) : Bool := decide (p.1 ≤ place) && decide (place < p.2)
noncomputable def zF : Option Nat → PV
 | some i => .int i
 | none => .none
def yK (sp : List (Int × Int)) (col off room x : Int) : Option Nat := if 0 ≤ x - col ∧ x - col < room then sp.findIdx? (hit (x - col + off)) else none
def jz : FP := fpS (stM 135 3 2)
noncomputable def zY (P : PV) (x place : Int) (tl : zc) : zc := ("column", .int x) :: ("self", P) :: ("place", .int place) :: tl
noncomputable def nsp (a b : PV) : zc := [("number", a), ("spot", b)]
def stl (sp : List (Int × Int)) : Nat → zc
 | 0 => []
 | i + 1 => match sp[i]? with
  | some p => nsp (.int (i : Int)) (qf p)
  | none => []
theorem Xv (sp : List (Int × Int)) (i : Nat) (hi : i ≤ sp.length) : stl sp i = [] ∨ ∃ a b, stl sp i = nsp a b := by
 cases i with
 | zero => exact .inl rfl
 | succ j =>
  have hj : j < sp.length := by omega
  exact .inr ⟨.int (j : Int), qf sp[j], by simp only [stl, List.getElem?_eq_getElem hj]⟩
theorem B3 (w : World) (P : PV) (x place : Int) (sp : List (Int × Int)) (i : Nat) (p : Int × Int) (hp : sp[i]? = some p) (G : KF)
  (hG : (hit place p = false ∧ G .next (zY P x place (stl sp (i + 1))) []) ∨ (hit place p = true ∧ G (.ret (.int (i : Int))) (zY P x place (stl sp (i + 1))) [])) :
  TI (asg anT W0 (fun e ρ σ C => ET w nos 100 (.ex (frM 135 3 15) e ρ σ C)) (frM 135 3 15) 2 jz.tgt (.tup [.int (i : Int), qf p]) (zY P x place (stl sp i)) [] fun ρ1 σ1 => ET w nos 100 (.sts (frM 135 3 15) jz.body ρ1 σ1 fun fl ρ2 σ2 => jn (G fl ρ2 σ2))) := by
 have hi := (List.getElem?_eq_some_iff.mp hp).1
 have e1 : stl sp (i + 1) = nsp (.int (i : Int)) (.tup [.int p.1, .int p.2]) := by simp only [stl, hp]; rfl
 rw [e1] at hG
 rcases hG with ⟨h, hG⟩ | ⟨h, hG⟩
 ·unfold hit at h
  by_cases h1 : p.1 ≤ place
  ·have h2 : ¬ place < p.2 := by simpa [h1] using h
   rcases Xv sp i (by omega) with e | ⟨a, b, e⟩ <;> rw [e]
   ·exact mkI [.bit true, .bit false] (zh (some (decide (p.1 ≤ place))) true && (zh (some (decide (place < p.2))) false && true)) (G .next (zY P x place (nsp (.int (i : Int)) (.tup [.int p.1, .int p.2]))) []) (by simp [zh, h1, h2]) hG
   ·exact mkI [.bit true, .bit false] (zh (some (decide (p.1 ≤ place))) true && (zh (some (decide (place < p.2))) false && true)) (G .next (zY P x place (nsp (.int (i : Int)) (.tup [.int p.1, .int p.2]))) []) (by simp [zh, h1, h2]) hG
  ·rcases Xv sp i (by omega) with e | ⟨a, b, e⟩ <;> rw [e]
   ·exact mkI [.bit false] (zh (some (decide (p.1 ≤ place))) false && true) (G .next (zY P x place (nsp (.int (i : Int)) (.tup [.int p.1, .int p.2]))) []) (by simp [zh, h1]) hG
   ·exact mkI [.bit false] (zh (some (decide (p.1 ≤ place))) false && true) (G .next (zY P x place (nsp (.int (i : Int)) (.tup [.int p.1, .int p.2]))) []) (by simp [zh, h1]) hG
 ·unfold hit at h
  rw [Bool.and_eq_true, decide_eq_true_eq, decide_eq_true_eq] at h
  obtain ⟨h1, h2⟩ := h
  rcases Xv sp i (by omega) with e | ⟨a, b, e⟩ <;> rw [e]
  ·exact mkI [.bit true, .bit true] (zh (some (decide (p.1 ≤ place))) true && (zh (some (decide (place < p.2))) true && true)) (G (.ret (.int (i : Int))) (zY P x place (nsp (.int (i : Int)) (.tup [.int p.1, .int p.2]))) []) (by simp [zh, h1, h2]) hG
  ·exact mkI [.bit true, .bit true] (zh (some (decide (p.1 ≤ place))) true && (zh (some (decide (place < p.2))) true && true)) (G (.ret (.int (i : Int))) (zY P x place (nsp (.int (i : Int)) (.tup [.int p.1, .int p.2]))) []) (by simp [zh, h1, h2]) hG
theorem CD (w : World) (P : PV) (x place : Int) (sp : List (Int × Int)) (D : KF) :
  (sp.findIdx? (hit place) = none → D .next (zY P x place (stl sp sp.length)) [] → yJ pr w (Hf w.params) yF (frM 135 3 15) jz.tgt (.enm (.list (zt sp))) 0 jz.body jz.els (zY P x place []) [] D) ∧
  (∀ j, sp.findIdx? (hit place) = some j → D (.ret (.int (j : Int))) (zY P x place (stl sp (j + 1))) [] → yJ pr w (Hf w.params) yF (frM 135 3 15) jz.tgt (.enm (.list (zt sp))) 0 jz.body jz.els (zY P x place []) [] D) := by
 have hit? : ∀ (i : Nat) (σ : za), yU σ (.enm (.list (zt sp))) i = some ((zt sp).mapIdx fun i v => PV.tup [.int (i : Int), v])[i]? := by
  exact fun i σ => C6 σ _ i
 have hlen : ((zt sp).mapIdx fun i v => PV.tup [.int (i : Int), v]).length = sp.length := by simp [zt]
 have hget : ∀ (i : Nat) (v : PV), ((zt sp).mapIdx fun i v => PV.tup [.int (i : Int), v])[i]? = some v → ∃ p, sp[i]? = some p ∧ v = .tup [.int (i : Int), qf p] := by
  intro i v h
  simp only [List.getElem?_mapIdx, zt, List.getElem?_map, Option.map_map] at h
  cases hx : sp[i]? with
  | none => rw [hx] at h; cases h
  | some p => rw [hx] at h; cases h; exact ⟨p, rfl, rfl⟩
 constructor
 ·intro hn hD
  refine jQ (wok w) (evs w) ((zt sp).mapIdx fun i v => .tup [.int (i : Int), v]) (fun i ρ σ => i ≤ sp.length ∧ ρ = zY P x place (stl sp i) ∧ σ = []) (fun i ρ σ hi hI => hit? i σ) (by kernel_rfl) (fun i v ρ σ hv hI => ?_) (fun ρ σ hI => ?_) ⟨Nat.zero_le _, rfl, rfl⟩
  ·obtain ⟨_, rfl, rfl⟩ := hI
   obtain ⟨p, hp, rfl⟩ := hget i v hv
   have hi := (List.getElem?_eq_some_iff.mp hp).1
   have hno : hit place p = false := by
    have := List.findIdx?_eq_none_iff.mp hn p (List.mem_of_getElem? hp)
    simpa using this
   exact B3 w P x place sp i p hp (qz (fun ρ σ => i < ((zt sp).mapIdx fun i v => PV.tup [.int (i : Int), v]).length ∧ i + 1 ≤ sp.length ∧ ρ = zY P x place (stl sp (i + 1)) ∧ σ = []) D) (.inl ⟨hno, by rw [hlen]; exact hi, hi, rfl, rfl⟩)
  ·obtain ⟨_, rfl, rfl⟩ := hI
   rw [hlen]
   exact mkI [] true (D .next (zY P x place (stl sp sp.length)) []) rfl hD
 ·intro j hj hD
  obtain ⟨hjl, hjt, hjn⟩ := List.findIdx?_eq_some_iff_getElem.mp hj
  refine jQ (wok w) (evs w) ((zt sp).mapIdx fun i v => .tup [.int (i : Int), v]) (fun i ρ σ => i ≤ j ∧ ρ = zY P x place (stl sp i) ∧ σ = []) (fun i ρ σ hi hI => hit? i σ) (by kernel_rfl) (fun i v ρ σ hv hI => ?_) (fun ρ σ hI => ?_) ⟨Nat.zero_le _, rfl, rfl⟩
  ·obtain ⟨hij, rfl, rfl⟩ := hI
   obtain ⟨p, hp, rfl⟩ := hget i v hv
   have hi := (List.getElem?_eq_some_iff.mp hp).1
   have hpe : sp[i] = p := by rw [List.getElem?_eq_getElem hi] at hp; exact Option.some.inj hp
   refine B3 w P x place sp i p hp (qz (fun ρ σ => i < ((zt sp).mapIdx fun i v => PV.tup [.int (i : Int), v]).length ∧ i + 1 ≤ j ∧ ρ = zY P x place (stl sp (i + 1)) ∧ σ = []) D) ?_
   rcases Nat.lt_or_ge i j with h | h
   ·refine .inl ⟨?_, by rw [hlen]; exact hi, h, rfl, rfl⟩
    have := hjn i h
    rw [hpe] at this
    simpa using this
   ·obtain rfl : i = j := Nat.le_antisymm hij h
    refine .inr ⟨by rw [← hpe]; exact hjt, hD⟩
  ·have := hI.1
   rw [hlen] at this
   omega
theorem e873 (w : World) (W room off col : Int) (c : Option Nat) (l r cs : List Cl) (sp : List (Int × Int)) (x : Int) : PO w 16 873 [jb W room off col c l r cs sp, .int x] (zF (yK sp col off room x)) := by
 refine xd ?_ fun D H => goF w ?_
 ·simp only [zx, zD, jb, pf, xw, z7, wlP, jY, Bool.and_true, Bool.true_and]
  cases c <;> rfl
 unfold yK at H
 by_cases h0 : 0 ≤ x - col
 ·by_cases h1 : x - col < room
  ·rw [if_pos ⟨h0, h1⟩] at H
   cases hf : sp.findIdx? (hit (x - col + off)) with
   | none =>
    rw [hf] at H
    refine mkI [.bit true, .bit true, .loop .next (zY (jb W room off col c l r cs sp) x (x - col + off) (stl sp sp.length)) []] (zh (some (decide (0 ≤ x - col))) true && (zh (some (decide (x - col < room))) true && true))
     ((∀ D : KF, D .next (zY (jb W room off col c l r cs sp) x (x - col + off) (stl sp sp.length)) [] → yJ pr w (Hf w.params) yF (frM 135 3 15) jz.tgt (.enm (.list (zt sp))) 0 jz.body jz.els (zY (jb W room off col c l r cs sp) x (x - col + off) []) [] D) ∧ true = true ∧ D .none []) (by rw [decide_eq_true h0, decide_eq_true h1]; rfl)
     ⟨fun D hD => (CD w _ x _ sp D).1 hf hD, rfl, H _ _ .none⟩
   | some j =>
    rw [hf] at H
    refine mkI [.bit true, .bit true, .loop (.ret (.int (j : Int))) (zY (jb W room off col c l r cs sp) x (x - col + off) (stl sp (j + 1))) []] (zh (some (decide (0 ≤ x - col))) true && (zh (some (decide (x - col < room))) true && true))
     ((∀ D : KF, D (.ret (.int (j : Int))) (zY (jb W room off col c l r cs sp) x (x - col + off) (stl sp (j + 1))) [] → yJ pr w (Hf w.params) yF (frM 135 3 15) jz.tgt (.enm (.list (zt sp))) 0 jz.body jz.els (zY (jb W room off col c l r cs sp) x (x - col + off) []) [] D) ∧ true = true ∧ D (.int (j : Int)) []) (by rw [decide_eq_true h0, decide_eq_true h1]; rfl)
     ⟨fun D hD => (CD w _ x _ sp D).2 j hf hD, rfl, H _ _ .int⟩
  ·rw [if_neg (fun q => h1 q.2)] at H
   exact mkI [.bit true, .bit false] (zh (some (decide (0 ≤ x - col))) true && (zh (some (decide (x - col < room))) false && true)) (D .none []) (by rw [decide_eq_true h0, decide_eq_false h1]; rfl) (H _ _ .none)
 ·rw [if_neg (fun q => h0 q.1)] at H
  exact mkI [.bit false] (zh (some (decide (0 ≤ x - col))) false && true) (D .none []) (by rw [decide_eq_false h0]; rfl) (H _ _ .none)
def yP (cs : List Cl) (sp : List (Int × Int)) (c : Option Nat) (room : Int) : List Cl := if (cs.length : Int) ≤ room then cs else xK cs (yo cs sp c room) room
theorem e838 (w : World) (cs : List Cl) (sp : List (Int × Int)) (c : Option Nat) (room : Int) (hn : cs.length ≤ 10000) (hs : sp.length ≤ 100) (h0 : 0 ≤ room) (hr : room.natAbs < 2 ^ 60) (hf : Full cs sp c room) : PO w 6 838 [wlP cs sp, zy c, .int room, zq] (.list (pvs (yP cs sp c room))) := by
 unfold yP
 by_cases h : (cs.length : Int) ≤ room
 ·rw [if_pos h]
  exact Cj fun σ D c' => (e838a w cs sp c room (by omega) h).gm (by decide) D c'
 ·rw [if_neg h]
  obtain ⟨i, p, rfl, hp, hb⟩ := hf h
  have : yo cs sp (some i) room = x3 cs p room := by unfold yo; rw [if_neg h]; simp only [hp]
  rw [this]
  exact e838b w cs sp i p room hn h h0 hs hp hb hr
def Dat.row1 (d : Dat) : List Cl := zB (d.l ++ List.replicate (d.W - (d.l.length : Int)).toNat .blank) (d.W - (d.r.length : Int)) d.r
def Dat.told (d : Dat) : List Cl := zB d.row1 d.col (yP d.cs d.sp d.c d.room)
theorem Do (cs : List Cl) (sp : List (Int × Int)) (c : Option Nat) (room : Int) : (yP cs sp c room).length ≤ 4 * cs.length + 10 := by
 unfold yP
 split
 ·omega
 ·unfold xK qy
  have h1 : (xg cs (yo cs sp c room) room).length ≤ cs.length := by unfold xg; split; exact yp ..; simp
  have h2 : (x4 (xg cs (yo cs sp c room) room) (yo cs sp c room) room).length ≤ 2 * cs.length + 1 := by
   unfold x4
   split
   ·have := y5 (xg cs (yo cs sp c room) room) 0 [.one 60]
    simp only [List.length_cons, List.length_nil] at this
    omega
   ·omega
  split
  ·have := y5 (x4 (xg cs (yo cs sp c room) room) (yo cs sp c room) room) (room - 1) [.one 62]
   simp only [List.length_cons, List.length_nil] at this
   omega
  ·omega
theorem e866 (w : World) (d : Dat) (h : d.Ok) (hroom : 0 ≤ d.room) (hlW : (d.l.length : Int) ≤ d.W) : PO w 16 866 [d.plan] (.list (pvs d.told)) := by
 have hl := Dat.l_le h
 have hr := Dat.r_le h
 have hcs := Dat.cs_le h
 have hsp := Dat.sp_le h
 have hW0 := h.W0
 have hW1 := h.W1
 have hrb : d.room.natAbs ≤ 100000 := by unfold Dat.room; omega
 have hwl := Do d.cs d.sp d.c d.room
 have hrl : (d.l ++ List.replicate (d.W - (d.l.length : Int)).toNat Cl.blank).length ≤ 2000 := by simp; omega
 have hrow := y5 (d.l ++ List.replicate (d.W - (d.l.length : Int)).toNat Cl.blank) (d.W - (d.r.length : Int)) d.r
 have hp : ∀ a b : List Cl, pvs a ++ pvs b = pvs (a ++ b) := by simp [pvs]
 refine jC fun σ D H => goF w ?_
 refine mkI [.res (.list (pvs (List.replicate (d.W - (d.l.length : Int)).toNat .blank))) σ, .res (.list (pvs d.row1)) σ, .res (.list (pvs (yP d.cs d.sp d.c d.room))) σ, .res (.list (pvs d.told)) σ] ((pvs d.l).length.ble 1000000 && true)
  (CS w 15 782 [.int (d.W - ((pvs d.l).length : Int)), zq] σ (.list (pvs (List.replicate (d.W - (d.l.length : Int)).toNat .blank))) ∧
   (decide ((pvs d.l).length + (pvs (List.replicate (d.W - (d.l.length : Int)).toNat Cl.blank)).length ≤ 16777216) && ((pvs d.r).length.ble 1000000 && true)) = true ∧
   CS w 15 796 [.list (pvs d.l ++ pvs (List.replicate (d.W - (d.l.length : Int)).toNat .blank)), .int (d.W - ((pvs d.r).length : Int)), .list (pvs d.r)] σ (.list (pvs d.row1)) ∧
   ((true && XH (zy d.c)) && true) = true ∧
   CS w 15 838 [wlP d.cs d.sp, zy d.c, .int d.room, zq] σ (.list (pvs (yP d.cs d.sp d.c d.room))) ∧ true = true ∧
   CS w 15 796 [.list (pvs d.row1), .int d.col, .list (pvs (yP d.cs d.sp d.c d.room))] σ (.list (pvs d.told)) ∧ true = true ∧ D (.list (pvs d.told)) σ) (by rw [zK (by omega)]; rfl) ?_
 refine ⟨?_, ?_, ?_, ?_, fun D => (e838 w _ _ _ _ (by omega) (by omega) hroom (by omega) h.full).gm (by decide) D, rfl, fun D => (e796 w d.row1 d.col _ (by unfold Dat.row1; omega) (by omega)).gm (by decide) D, rfl, H⟩
 ·rw [zm]
  exact fun D => (e782 w _ (by omega) (by omega)).gm (by decide) D
 ·rw [zK (by omega), zm, zm, List.length_replicate]
  simp only [Bool.and_true, decide_eq_true_eq]
  omega
 ·rw [zm d.r, hp]
  exact fun D => (e796 w _ _ _ (by omega) (by omega)).gm (by decide) D
 ·cases d.c <;> rfl
end
section
noncomputable def ivs (xs : List Int) : List PV := xs.map .int
theorem Jb (xs : List Int) : zx (ivs xs) = true := yf (fun _ => rfl) xs
structure zN where
 xs : List Int
 m : Int
def zN.σ (dk : zN) (rest : za) : za := .list (ivs dk.xs) :: .dict [(.str "left", .loc 0), (.str "mixed", .int dk.m)] :: rest
structure zN.Ok (dk : zN) : Prop where
 len : dk.xs.length ≤ 32
 m0 : 0 ≤ dk.m
 m1 : dk.m < 1000003
noncomputable def zN.dv (dk : zN) (many : Int) : Int := match dk.xs with
 | x :: _ => Int.fmod x many
 | [] => Int.fmod (Int.fdiv (Int.fmod (dk.m * 4801 + 97) 1000003) 7) many
noncomputable def zN.nx (dk : zN) : zN := match dk.xs with
 | _ :: r => ⟨r, dk.m⟩
 | [] => ⟨[], Int.fmod (dk.m * 4801 + 97) 1000003⟩
theorem zN.dv_lo (dk : zN) {many : Int} (h : 0 < many) : 0 ≤ dk.dv many := by
 unfold zN.dv
 split <;> exact Int.fmod_nonneg_of_pos _ h
theorem zN.dv_hi (dk : zN) {many : Int} (h : 0 < many) : dk.dv many < many := by
 unfold zN.dv
 split <;> exact Int.fmod_lt_of_pos _ h
theorem zN.Ok.nx {dk : zN} (h : dk.Ok) : dk.nx.Ok := by
 obtain ⟨xs, m⟩ := dk
 cases xs with
 | nil => exact ⟨by simp [zN.nx], Int.fmod_nonneg_of_pos _ (by decide), Int.fmod_lt_of_pos _ (by decide)⟩
 | cons x r => exact ⟨by have := h.len; simp [zN.nx] at this ⊢; omega, h.m0, h.m1⟩
theorem qw {w : World} {d e : Nat} {a : Addr} {args : List PV} {σ : za} {D : KD} (h : MC w d a args σ D) (hd : d ≤ e) : MC w e a args σ D := fun A s Z μ va as Q am => h A s Z μ va as Q (am.less hd)
theorem Qb {c0 c1 c0' c1' : zU} {rest τ : za} {u r : PV} (h0 : FzC (c0' :: c1' :: (rest ++ τ)) (rest.length + 2) c0') (h1 : FzC (c0' :: c1' :: (rest ++ τ)) (rest.length + 2) c1') (hr : FzV (c0' :: c1' :: (rest ++ τ)) (rest.length + 2) u r) : je (c0 :: c1 :: rest) (c0' :: c1' :: rest) u (c0' :: c1' :: (rest ++ τ)) r := by
 refine ⟨rfl, fun l c e => ?_, by simp, hr⟩
 match l, e with
 | 0, e => cases e; exact ⟨rfl, .inr h0⟩
 | 1, e => cases e; exact ⟨rfl, .inr h1⟩
 | l + 2, e =>
  have e : rest[l]? = some c := e
  exact ⟨by show (rest ++ τ)[l]? = some c; rw [List.getElem?_append_left (List.getElem?_eq_some_iff.mp e).1]; exact e, .inl e⟩
theorem By (σ : za) (n : Nat) (xs : List Int) : FzC σ n (.list (ivs xs)) := yk.same _ _ (Jb xs)
theorem XV (σ : za) (n : Nat) (hn : 0 < n) (m : Int) : FzC σ n (.dict [(.str "left", .loc 0), (.str "mixed", .int m)]) := .cons (.loc hn) (.cons .int .nil)
theorem C8 (xs : List Int) : Nat.ble (j5 (ivs xs)) 20 = true := Nat.ble_eq.mpr (Nat.le_trans (YJ (n := 0) fun v hv => by
 obtain ⟨c, _, rfl⟩ := List.mem_map.mp hv
 exact Nat.le_refl _) (by decide))
theorem J8 (c0 c1 : zU) (rest : za) (v : zU) : (c0 :: c1 :: (rest ++ [v]))[(c0 :: c1 :: rest).length]? = some v := by simp
theorem e963 (w : World) (dk : zN) (rest : za) (many : Int) (h : dk.Ok) (hm : 0 < many) (D : KD) (hd : D (.int (dk.dv many)) (dk.nx.σ rest)) : MC w 1 963 [.loc 1, .int many] (dk.σ rest) D := by
 obtain ⟨xs, m⟩ := dk
 have m0 := h.m0
 have m1 := h.m1
 have hl := h.len
 dsimp only at m0 m1 hl
 refine Qc (goF w ?_)
 cases xs with
 | cons x r =>
  simp only [List.length_cons] at hl
  refine mkI [.bit true, .nat 0] (zh (z0 ((zN.mk (x :: r) m).σ (rest ++ [.list []])) .NotEq (.loc 0) (.loc ((zN.mk (x :: r) m).σ rest).length)) true && ((ivs (x :: r)).length.ble 1000000 && (decide (0 < many) && true)))
   (idx (ivs (x :: r)).length 0 = some 0 ∧ ∃ σ1 q, je ((zN.mk (x :: r) m).σ rest) σ1 (.int (Int.fmod x many)) ((zN.mk r m).σ (rest ++ [.list []])) q ∧ D q σ1) ?_ ?_
  ·simp only [Bool.and_eq_true, zl, Nat.ble_eq, decide_eq_true_eq]
   exact ⟨qh (v := .int x) (vs := ivs r) rfl (J8 ..) (C8 (x :: r)), by simp [ivs]; omega, hm, trivial⟩
  ·exact ⟨qC (by simp [ivs]) (by decide), _, _, Qb (By _ _ r) (XV _ _ (by omega) m) .int, hd⟩
 | nil =>
  refine mkI [.bit false] (zh (z0 ((zN.mk [] m).σ (rest ++ [.list []])) .NotEq (.loc 0) (.loc ((zN.mk [] m).σ rest).length)) false && ((decide (m.natAbs < 2 ^ 40) && true) && ((true && decide ((Int.fmod (m * 4801 + 97) 1000003).natAbs < 2 ^ 60) && true) && (decide (0 < many) && true))))
   (∃ σ1 q, je ((zN.mk [] m).σ rest) σ1 (.int (Int.fmod (Int.fdiv (Int.fmod (m * 4801 + 97) 1000003) 7) many)) ((zN.mk [] (Int.fmod (m * 4801 + 97) 1000003)).σ (rest ++ [.list []])) q ∧ D q σ1) ?_ ?_
  ·have b0 := Int.fmod_nonneg_of_pos (m * 4801 + 97) (show (0 : Int) < 1000003 by decide)
   have b1 := Int.fmod_lt_of_pos (m * 4801 + 97) (show (0 : Int) < 1000003 by decide)
   simp only [Bool.and_eq_true, zl, decide_eq_true_eq]
   refine ⟨?_, ⟨by omega, trivial⟩, ⟨⟨trivial, by omega⟩, trivial⟩, hm, trivial⟩
   have e : ((zN.mk [] m).σ (rest ++ [.list []]))[((zN.mk [] m).σ rest).length]? = some (.list []) := J8 ..
   exact nn_loc rfl e
  ·exact ⟨_, _, Qb (By _ _ []) (XV _ _ (by omega) _) .int, hd⟩
noncomputable def yS (zs : List Int) (i : Nat) : Int := (zs.take i).foldl (fun m c => Int.fmod (m * 31 + c + 11) 1000003) 7001
def x8 (xs : List Int) : List Int := (yt xs none (some 32)).map fun x => Int.fmod x 1000003
def Ye (xs : List Int) : zN := ⟨x8 xs, yS (x8 xs) (x8 xs).length⟩
theorem XM (zs : List Int) : ∀ i, 0 ≤ yS zs i ∧ yS zs i < 1000003
 | 0 => ⟨by simp [yS], by simp [yS]⟩
 | i + 1 => by
  by_cases h : i < zs.length
  ·unfold yS
   rw [List.take_succ_eq_append_getElem h, List.foldl_append]
   exact ⟨Int.fmod_nonneg_of_pos _ (by decide), Int.fmod_lt_of_pos _ (by decide)⟩
  ·have : yS zs (i + 1) = yS zs i := by
    unfold yS
    rw [List.take_of_length_le (by omega), List.take_of_length_le (by omega)]
   rw [this]
   exact XM zs i
theorem Xh (xs : List Int) : (x8 xs).length ≤ 32 := by
 unfold x8 yt
 rw [List.length_map, List.length_take]
 exact Nat.le_trans (Nat.min_le_left ..) (show clipAt xs.length 32 - 0 ≤ 32 by rw [Nat.sub_zero, show clipAt xs.length 32 = min 32 xs.length from clipAt_nat xs.length 32]; exact Nat.min_le_left ..)
theorem Ec (xs : List Int) : (Ye xs).Ok := ⟨Xh xs, (XM _ _).1, (XM _ _).2⟩
def cp956 : CP := cpE (match Qn (stN 145 0) with | .Tuple es _ _ => es.getD 0 (.Constant .none 0 default) | e => e)
def Ab : FP := fpS (stN 145 1)
def jB (xs : List Int) (m : Int) (tl : zc) : zc := ("script", .list (ivs xs)) :: ("mixed", .int m) :: ("left", .loc 0) :: tl
noncomputable def cel (a : PV) : zc := [("cell", a)]
def ctl (zs : List Int) : Nat → zc
 | 0 => []
 | i + 1 => match zs[i]? with
  | some c => cel (.int c)
  | none => []
theorem Gp (zs : List Int) (i : Nat) (hi : i ≤ zs.length) : ctl zs i = [] ∨ ∃ a : PV, ctl zs i = cel a := by
 cases i with
 | zero => exact .inl rfl
 | succ j =>
  have hj : j < zs.length := by omega
  exact .inr ⟨.int zs[j], by simp only [ctl, List.getElem?_eq_getElem hj]⟩
theorem turn956 (w : World) (xs zs : List Int) (i : Nat) (c mm : Int) (hi : i ≤ zs.length) (hm : mm.natAbs < 2 ^ 40) (σ : za) (G : KF) (key : G .next (jB xs (Int.fmod (mm * 31 + c + 11) 1000003) (cel (.int c))) σ) :
  TI (asg anT W0 (fun e ρ σ C => ET w nos 100 (.ex (frN 145 4) e ρ σ C)) (frN 145 4) 2 Ab.tgt (.int c) (jB xs mm (ctl zs i)) σ fun ρ1 σ1 => ET w nos 100 (.sts (frN 145 4) Ab.body ρ1 σ1 fun fl ρ2 σ2 => jn (G fl ρ2 σ2))) := by
 have hb : ((decide (mm.natAbs < 2 ^ 40) && true) && true) = true := by simp only [Bool.and_true, decide_eq_true_eq]; exact hm
 rcases Gp zs i hi with e | ⟨a, e⟩ <;> rw [e]
 ·exact mkI [] ((decide (mm.natAbs < 2 ^ 40) && true) && true) (G .next (jB xs (Int.fmod (mm * 31 + c + 11) 1000003) (cel (.int c))) σ) hb key
 ·exact mkI [] ((decide (mm.natAbs < 2 ^ 40) && true) && true) (G .next (jB xs (Int.fmod (mm * 31 + c + 11) 1000003) (cel (.int c))) σ) hb key
theorem e956 (w : World) (xs : List Int) (hx : xs.length ≤ 63) (D : KD) (hd : D (.loc 1) ((Ye xs).σ [])) : MC w 5 956 [.list (ivs xs)] [] D := by
 refine goF w ?_
 have hcut : qM [] (.list (ivs xs)) none (some 32) = some (.list (ivs (yt xs none (some 32)))) := by
  rw [Yf (by simp [ivs]; omega)]
  unfold ivs
  rw [Jq]
 have hzl := Xh xs
 have hcl : (yt xs none (some 32)).length = (x8 xs).length := by simp [x8]
 have hmap : (ivs (yt xs none (some 32))).map (fun v => match v with | .int x => PV.int (Int.fmod x 1000003) | v => v) = ivs (x8 xs) := by simp [ivs, x8, Function.comp_def]
 unfold Ye zN.σ at hd
 dsimp only at hd
 generalize x8 xs = zs at *
 generalize yt xs none (some 32) = ys at *
 refine mkI [.val (.list (ivs ys)), .sto [.list (ivs zs)], .loop .next (jB xs (yS zs zs.length) (ctl zs zs.length)) [.list (ivs zs)]] true
  (qM [] (.list (ivs xs)) none (some 32) = some (.list (ivs ys)) ∧
   (∀ D : za → Prop, D [.list (ivs zs)] → MKm w cp956 4 "cell" (.list (.list (ivs ys))) 0 [] [.list []] D) ∧ true = true ∧
   (∀ D : KF, D .next (jB xs (yS zs zs.length) (ctl zs zs.length)) [.list (ivs zs)] → yJ pr w (Hf w.params) yF (frN 145 4) Ab.tgt (.list (.loc 0)) 0 Ab.body Ab.els (jB xs 7001 []) [.list (ivs zs)] D) ∧ true = true ∧
   D (.loc 1) [.list (ivs zs), .dict [(.str "left", .loc 0), (.str "mixed", .int (yS zs zs.length))]]) rfl
  ⟨hcut, fun D hD => ?_, rfl, fun D hD => ?_, rfl, hd⟩
 ·refine yV (σ := []) (wok w) (evs w) (ivs ys) (fun v => match v with | .int x => PV.int (Int.fmod x 1000003) | v => v) (by kernel_rfl) (fun v q => nomatch q) (fun i acc => rfl) (by simp [ivs]; omega) (fun v hv acc D hd => goX w ?_) (by rw [hmap]; exact hD)
  obtain ⟨x, _, rfl⟩ := List.mem_map.mp hv
  exact mkI [] true (D (.int (Int.fmod x 1000003)) [.list acc]) rfl hd
 ·refine jQ (wok w) (evs w) (ivs zs) (fun i ρ σ => i ≤ zs.length ∧ ρ = jB xs (yS zs i) (ctl zs i) ∧ σ = [.list (ivs zs)]) (fun i ρ σ hi hI => by rw [hI.2.2]; rfl) rfl (fun i v ρ σ hv hI => ?_) (fun ρ σ hI => ?_) ⟨Nat.zero_le _, rfl, rfl⟩
  ·obtain ⟨_, rfl, rfl⟩ := hI
   obtain ⟨c, hc, rfl⟩ : ∃ c, zs[i]? = some c ∧ v = .int c := by
    simp only [ivs, List.getElem?_map, Option.map_eq_some_iff] at hv
    obtain ⟨c, h1, h2⟩ := hv
    exact ⟨c, h1, h2.symm⟩
   have hi := (List.getElem?_eq_some_iff.mp hc).1
   have hm := XM zs i
   have e1 : yS zs (i + 1) = Int.fmod (yS zs i * 31 + c + 11) 1000003 := by
    unfold yS
    rw [List.take_succ_eq_append_getElem hi, List.foldl_append]
    rw [List.getElem?_eq_getElem hi] at hc
    cases hc
    rfl
   have e2 : ctl zs (i + 1) = cel (.int c) := by simp only [ctl, hc]
   exact turn956 w xs zs i c (yS zs i) (by omega) (by omega) _ (qz (fun ρ σ => i < (ivs zs).length ∧ i + 1 ≤ zs.length ∧ ρ = jB xs (yS zs (i + 1)) (ctl zs (i + 1)) ∧ σ = [.list (ivs zs)]) D) ⟨by simpa [ivs] using hi, hi, by rw [e1, e2], rfl⟩
  ·obtain ⟨_, rfl, rfl⟩ := hI
   rw [show (ivs zs).length = zs.length from List.length_map ..]
   exact mkI [] true (D .next (jB xs (yS zs zs.length) (ctl zs zs.length)) [.list (ivs zs)]) rfl hD
end
section
abbrev Col := Option Nat × Option Int
noncomputable def y3 : Option Int → PV
 | some i => .int i
 | none => .none
def yY (c : Col) : PV := .tup [zF c.1, y3 c.2]
def zd (l : List Col) : List PV := l.map yY
theorem DL (c : Col) : zD (yY c) = true := by
 obtain ⟨a, b⟩ := c
 cases a <;> cases b <;> rfl
theorem yd (l : List Col) : zx (zd l) = true := yf DL l
noncomputable def zP (k : Nat) : List Col := List.replicate k (none, some 124)
noncomputable def yD (wd : Bool) (i s : Nat) : List Col := match wd with
 | true => (List.replicate s [(some i, some (19968 + (i : Int))), (some i, none)]).flatten
 | false => List.replicate s (some i, some (97 + (i : Int)))
noncomputable def yW (b : Bool) (i : Nat) : List Col := match b with
 | true => [(some i, some 42)]
 | false => []
def zG (ws : List Win) (k : Nat) (c : Option Nat) : Nat → List Col
 | 0 => []
 | i + 1 => match ws[i]? with
  | some x => zG ws k c i ++ (if i = 0 then [] else zP k) ++ yD x.wd i x.s ++ yW (decide (c = some i)) i
  | none => zG ws k c i
noncomputable def stpM : Expr → Bool
 | .Dict (_ :: _) _ _ => true
 | .BinOp _ .Mult _ _ => true
 | _ => false
def qF : FP := fpS (stN 147 1)
noncomputable def YL : Expr → Expr
 | .Call _ (a :: _) _ _ => a
 | e => e
noncomputable def C3 : Stmt → Expr
 | .Expr e _ => e
 | _ => .Constant .none 0 default
noncomputable def FJ : Stmt → List Stmt
 | .If _ b _ _ => b
 | _ => []
def b970 (i : Nat) : Stmt := qF.body.getD i (.Pass default)
def xf : Expr := YL (C3 (b970 1))
def sepX : Expr := YL (C3 ((FJ (b970 2)).getD 0 (.Pass default)))
def chX : Expr := YL (C3 (b970 3))
def stX : Expr := YL (C3 (b970 4))
noncomputable def yw (k cur many : PV) (tl : zc) : zc := ("between", k) :: ("current", cur) :: ("many", many) :: ("deck", .loc 1) :: ("columns", .loc 5) :: ("windows", .loc 4) :: tl
noncomputable def yO (p s t : PV) : zc := [("place", p), ("size", s), ("is_wide", t)]
section
variable {w : World} {k cur many p st t : PV} {c0 c1 c2 c3 c4 c5 : zU} {D : KD}
noncomputable abbrev yb (σ τ : za) : za := σ ++ τ
theorem yC {f : Fr0} {e : Expr} {ρ : zc} {σ τ : za} {u r : PV} (h : ∀ D' : KD, D' u (σ ++ τ) → ME w f e ρ σ D') (hf : FzV (σ ++ τ) σ.length u r) (hd : D r σ) : ME w f e ρ σ D := Gm (h _ ⟨σ, r, je.keep hf, hd⟩)
theorem Cx (i s : Nat) (l : List UInt8) (h : l = (nm true i 1).map Nat.toUInt8) : (List.replicate s l).flatten.toArray = jl true i s := by
 subst h
 simp [jl, u8s, nm, List.map_flatten]
theorem Cy (i s : Nat) (l : List UInt8) (h : l = (nm false i 1).map Nat.toUInt8) : (List.replicate s l).flatten.toArray = jl false i s := by
 subst h
 simp [jl, u8s, nm]
theorem g3 (s : Nat) (hs : s ≤ 4) : ((true && decide (0 ≤ (s : Int)) && decide ((s : Int) ≤ 1000)) && true) = true := by
 have h0 : 0 ≤ (s : Int) := by omega
 have h1 : (s : Int) ≤ 1000 := by omega
 rw [decide_eq_true h0, decide_eq_true h1]; rfl
theorem q_dw0 (s : Nat) (hs : s ≤ 4) (D' : KD) (h : D' (.loc 6) (yb [c0, c1, c2, c3, c4, c5] [.dict [(.bytes xj, .bytes (List.replicate s ([228, 184, 128] : List UInt8)).flatten.toArray)], .list [.int 228, .int 184, .int 128]])) : ME w (frN 147 5) xf (yw k cur many (yO (.int ((0 : Nat) : Int)) (.int (s : Int)) (.bool true))) [c0, c1, c2, c3, c4, c5] D' :=
 goX w (mkI [.bit true] ((true && decide (0 ≤ (s : Int)) && decide ((s : Int) ≤ 1000)) && true) (D' (.loc 6) (yb [c0, c1, c2, c3, c4, c5] [.dict [(.bytes xj, .bytes (List.replicate s ([228, 184, 128] : List UInt8)).flatten.toArray)], .list [.int 228, .int 184, .int 128]])) (g3 s hs) h)
theorem q_dw1 (s : Nat) (hs : s ≤ 4) (D' : KD) (h : D' (.loc 6) (yb [c0, c1, c2, c3, c4, c5] [.dict [(.bytes xj, .bytes (List.replicate s ([228, 184, 129] : List UInt8)).flatten.toArray)], .list [.int 228, .int 184, .int 129]])) : ME w (frN 147 5) xf (yw k cur many (yO (.int ((1 : Nat) : Int)) (.int (s : Int)) (.bool true))) [c0, c1, c2, c3, c4, c5] D' :=
 goX w (mkI [.bit true] ((true && decide (0 ≤ (s : Int)) && decide ((s : Int) ≤ 1000)) && true) (D' (.loc 6) (yb [c0, c1, c2, c3, c4, c5] [.dict [(.bytes xj, .bytes (List.replicate s ([228, 184, 129] : List UInt8)).flatten.toArray)], .list [.int 228, .int 184, .int 129]])) (g3 s hs) h)
theorem q_dw2 (s : Nat) (hs : s ≤ 4) (D' : KD) (h : D' (.loc 6) (yb [c0, c1, c2, c3, c4, c5] [.dict [(.bytes xj, .bytes (List.replicate s ([228, 184, 130] : List UInt8)).flatten.toArray)], .list [.int 228, .int 184, .int 130]])) : ME w (frN 147 5) xf (yw k cur many (yO (.int ((2 : Nat) : Int)) (.int (s : Int)) (.bool true))) [c0, c1, c2, c3, c4, c5] D' :=
 goX w (mkI [.bit true] ((true && decide (0 ≤ (s : Int)) && decide ((s : Int) ≤ 1000)) && true) (D' (.loc 6) (yb [c0, c1, c2, c3, c4, c5] [.dict [(.bytes xj, .bytes (List.replicate s ([228, 184, 130] : List UInt8)).flatten.toArray)], .list [.int 228, .int 184, .int 130]])) (g3 s hs) h)
theorem q_dw3 (s : Nat) (hs : s ≤ 4) (D' : KD) (h : D' (.loc 6) (yb [c0, c1, c2, c3, c4, c5] [.dict [(.bytes xj, .bytes (List.replicate s ([228, 184, 131] : List UInt8)).flatten.toArray)], .list [.int 228, .int 184, .int 131]])) : ME w (frN 147 5) xf (yw k cur many (yO (.int ((3 : Nat) : Int)) (.int (s : Int)) (.bool true))) [c0, c1, c2, c3, c4, c5] D' :=
 goX w (mkI [.bit true] ((true && decide (0 ≤ (s : Int)) && decide ((s : Int) ≤ 1000)) && true) (D' (.loc 6) (yb [c0, c1, c2, c3, c4, c5] [.dict [(.bytes xj, .bytes (List.replicate s ([228, 184, 131] : List UInt8)).flatten.toArray)], .list [.int 228, .int 184, .int 131]])) (g3 s hs) h)
theorem q_dn0 (s : Nat) (hs : s ≤ 4) (D' : KD) (h : D' (.loc 6) (yb [c0, c1, c2, c3, c4, c5] [.dict [(.bytes xj, .bytes (List.replicate s ([97] : List UInt8)).flatten.toArray)], .list [.int 97]])) : ME w (frN 147 5) xf (yw k cur many (yO (.int ((0 : Nat) : Int)) (.int (s : Int)) (.bool false))) [c0, c1, c2, c3, c4, c5] D' :=
 goX w (mkI [.bit false] ((true && decide (0 ≤ (s : Int)) && decide ((s : Int) ≤ 1000)) && true) (D' (.loc 6) (yb [c0, c1, c2, c3, c4, c5] [.dict [(.bytes xj, .bytes (List.replicate s ([97] : List UInt8)).flatten.toArray)], .list [.int 97]])) (g3 s hs) h)
theorem q_dn1 (s : Nat) (hs : s ≤ 4) (D' : KD) (h : D' (.loc 6) (yb [c0, c1, c2, c3, c4, c5] [.dict [(.bytes xj, .bytes (List.replicate s ([98] : List UInt8)).flatten.toArray)], .list [.int 98]])) : ME w (frN 147 5) xf (yw k cur many (yO (.int ((1 : Nat) : Int)) (.int (s : Int)) (.bool false))) [c0, c1, c2, c3, c4, c5] D' :=
 goX w (mkI [.bit false] ((true && decide (0 ≤ (s : Int)) && decide ((s : Int) ≤ 1000)) && true) (D' (.loc 6) (yb [c0, c1, c2, c3, c4, c5] [.dict [(.bytes xj, .bytes (List.replicate s ([98] : List UInt8)).flatten.toArray)], .list [.int 98]])) (g3 s hs) h)
theorem q_dn2 (s : Nat) (hs : s ≤ 4) (D' : KD) (h : D' (.loc 6) (yb [c0, c1, c2, c3, c4, c5] [.dict [(.bytes xj, .bytes (List.replicate s ([99] : List UInt8)).flatten.toArray)], .list [.int 99]])) : ME w (frN 147 5) xf (yw k cur many (yO (.int ((2 : Nat) : Int)) (.int (s : Int)) (.bool false))) [c0, c1, c2, c3, c4, c5] D' :=
 goX w (mkI [.bit false] ((true && decide (0 ≤ (s : Int)) && decide ((s : Int) ≤ 1000)) && true) (D' (.loc 6) (yb [c0, c1, c2, c3, c4, c5] [.dict [(.bytes xj, .bytes (List.replicate s ([99] : List UInt8)).flatten.toArray)], .list [.int 99]])) (g3 s hs) h)
theorem q_dn3 (s : Nat) (hs : s ≤ 4) (D' : KD) (h : D' (.loc 6) (yb [c0, c1, c2, c3, c4, c5] [.dict [(.bytes xj, .bytes (List.replicate s ([100] : List UInt8)).flatten.toArray)], .list [.int 100]])) : ME w (frN 147 5) xf (yw k cur many (yO (.int ((3 : Nat) : Int)) (.int (s : Int)) (.bool false))) [c0, c1, c2, c3, c4, c5] D' :=
 goX w (mkI [.bit false] ((true && decide (0 ≤ (s : Int)) && decide ((s : Int) ≤ 1000)) && true) (D' (.loc 6) (yb [c0, c1, c2, c3, c4, c5] [.dict [(.bytes xj, .bytes (List.replicate s ([100] : List UInt8)).flatten.toArray)], .list [.int 100]])) (g3 s hs) h)
theorem jy {x : zU} (b b' : BA) (hb : b = b') : FzV (yb [c0, c1, c2, c3, c4, c5] [.dict [(.bytes xj, .bytes b)], x]) [c0, c1, c2, c3, c4, c5].length (.loc 6) (qI b') := by
 subst hb
 exact .locDict (Nat.le_refl _) rfl (.cons .bytes .nil)
theorem q_dict (i s : Nat) (wd : Bool) (hi : i < 4) (hs : s ≤ 4) (hd : D (yB i ⟨wd, s⟩) [c0, c1, c2, c3, c4, c5]) : ME w (frN 147 5) xf (yw k cur many (yO (.int (i : Int)) (.int (s : Int)) (.bool wd))) [c0, c1, c2, c3, c4, c5] D := by
 have hi4 : i = 0 ∨ i = 1 ∨ i = 2 ∨ i = 3 := lt4 ‹i < 4›
 cases wd with
 | true =>
  rcases hi4 with rfl | rfl | rfl | rfl
  ·exact yC (q_dw0 s hs) (jy _ _ (Cx 0 s [228, 184, 128] (by decide))) hd
  ·exact yC (q_dw1 s hs) (jy _ _ (Cx 1 s [228, 184, 129] (by decide))) hd
  ·exact yC (q_dw2 s hs) (jy _ _ (Cx 2 s [228, 184, 130] (by decide))) hd
  ·exact yC (q_dw3 s hs) (jy _ _ (Cx 3 s [228, 184, 131] (by decide))) hd
 | false =>
  rcases hi4 with rfl | rfl | rfl | rfl
  ·exact yC (q_dn0 s hs) (jy _ _ (Cy 0 s [97] (by decide))) hd
  ·exact yC (q_dn1 s hs) (jy _ _ (Cy 1 s [98] (by decide))) hd
  ·exact yC (q_dn2 s hs) (jy _ _ (Cy 2 s [99] (by decide))) hd
  ·exact yC (q_dn3 s hs) (jy _ _ (Cy 3 s [100] (by decide))) hd
theorem g_of {n : Int} (h0 : 0 ≤ n) (h1 : n ≤ 1000) : ((decide (0 ≤ n) && decide (n ≤ 1000) && true) && true) = true := by
 rw [decide_eq_true h0, decide_eq_true h1]; rfl
theorem q_sep (k : Nat) (hk : k ≤ 2) (hd : D (.list (zd (zP k))) [c0, c1, c2, c3, c4, c5]) : ME w (frN 147 5) sepX (yw (.int (k : Int)) cur many (yO p st t)) [c0, c1, c2, c3, c4, c5] D := by
 refine yC (fun D' h => goX w (mkI [] ((decide (0 ≤ (k : Int)) && decide ((k : Int) ≤ 1000) && true) && true) (D' (.list (List.replicate (k : Int).toNat [.tup [.none, .int 124]]).flatten) (yb [c0, c1, c2, c3, c4, c5] [.list [.tup [.none, .int 124]]])) (g_of (by omega) (by omega)) h)) ?_ hd
 have : (List.replicate (k : Int).toNat [PV.tup [.none, .int 124]]).flatten = zd (zP k) := by simp [zd, zP, yY, zF, y3]
 rw [this]
 exact .same _ _ (by simp only [zD, yd])
theorem q_ch (i s : Nat) (wd : Bool) (hs : s ≤ 4) (hd : D (.list (zd (yD wd i s))) [c0, c1, c2, c3, c4, c5]) : ME w (frN 147 5) chX (yw k cur many (yO (.int (i : Int)) (.int (s : Int)) (.bool wd))) [c0, c1, c2, c3, c4, c5] D := by
 cases wd with
 | true =>
  refine yC (fun D' h => goX w (mkI [.bit true] ((decide (0 ≤ (s : Int)) && decide ((s : Int) ≤ 1000) && true) && true) (D' (.list (List.replicate (s : Int).toNat [.tup [.int (i : Int), .int (19968 + (i : Int))], .tup [.int (i : Int), .none]]).flatten) (yb [c0, c1, c2, c3, c4, c5] [.list [.tup [.int (i : Int), .int (19968 + (i : Int))], .tup [.int (i : Int), .none]]])) (g_of (by omega) (by omega)) h)) ?_ hd
  have : (List.replicate (s : Int).toNat [PV.tup [.int (i : Int), .int (19968 + (i : Int))], .tup [.int (i : Int), .none]]).flatten = zd (yD true i s) := by simp [zd, yD, yY, zF, y3, List.map_flatten]
  rw [this]
  exact .same _ _ (by simp only [zD, yd])
 | false =>
  refine yC (fun D' h => goX w (mkI [.bit false] ((decide (0 ≤ (s : Int)) && decide ((s : Int) ≤ 1000) && true) && true) (D' (.list (List.replicate (s : Int).toNat [.tup [.int (i : Int), .int (97 + (i : Int))]]).flatten) (yb [c0, c1, c2, c3, c4, c5] [.list [.tup [.int (i : Int), .int (97 + (i : Int))]]])) (g_of (by omega) (by omega)) h)) ?_ hd
  have : (List.replicate (s : Int).toNat [PV.tup [.int (i : Int), .int (97 + (i : Int))]]).flatten = zd (yD false i s) := by simp [zd, yD, yY, zF, y3]
  rw [this]
  exact .same _ _ (by simp only [zD, yd])
theorem q_st (i c : Nat) (hd : D (.list (zd (yW (decide (some c = some i)) i))) [c0, c1, c2, c3, c4, c5]) : ME w (frN 147 5) stX (yw k (.int (c : Int)) many (yO (.int (i : Int)) st t)) [c0, c1, c2, c3, c4, c5] D := by
 have hb : ((i : Int) == (c : Int)) = decide (some c = some i) := by
  rw [Bool.eq_iff_iff, beq_iff_eq, decide_eq_true_eq, Option.some.injEq]
  omega
 refine yC (fun D' h => goX w (mkI [] ((decide (0 ≤ b2i ((i : Int) == (c : Int))) && decide (b2i ((i : Int) == (c : Int)) ≤ 1000) && true) && true) (D' (.list (List.replicate (b2i ((i : Int) == (c : Int))).toNat [.tup [.int (i : Int), .int 42]]).flatten) (yb [c0, c1, c2, c3, c4, c5] [.list [.tup [.int (i : Int), .int 42]]])) ?_ h)) ?_ hd
 ·cases (i : Int) == (c : Int) <;> rfl
 ·rw [hb]
  have : (List.replicate (b2i (decide (some c = some i))).toNat [PV.tup [.int (i : Int), .int 42]]).flatten = zd (yW (decide (some c = some i)) i) := by cases decide (some c = some i) <;> rfl
  rw [this]
  exact .same _ _ (by simp only [zD, yd])
end
def zR (dk : zN) : Win := ⟨dk.dv 3 == 2, (1 + dk.nx.dv 4).toNat⟩
def dkN (dk : zN) : Nat → zN
 | 0 => dk
 | i + 1 => (dkN dk i).nx.nx
theorem BE {dk : zN} (h : dk.Ok) : ∀ i, (dkN dk i).Ok
 | 0 => h
 | i + 1 => (BE h i).nx.nx
def zT (dk : zN) (many : Nat) : List Win := (List.range many).map fun i => zR (dkN dk i)
theorem JO (dk : zN) {many i : Nat} (h : i < many) : (zT dk many)[i]? = some (zR (dkN dk i)) := by simp [zT, h]
theorem YQ (dk : zN) (many : Nat) : (zT dk many).length = many := by simp [zT]
theorem Xp (dk : zN) : 1 ≤ (zR dk).s ∧ (zR dk).s ≤ 4 := by
 have h0 := dk.nx.dv_lo (many := 4) (by decide)
 have h1 := dk.nx.dv_hi (many := 4) (by decide)
 unfold zR
 dsimp only
 omega
theorem Dq (dk : zN) : ((zR dk).s : Int) = 1 + dk.nx.dv 4 := by
 have h0 := dk.nx.dv_lo (many := 4) (by decide)
 unfold zR
 dsimp only
 omega
theorem Xk {ws : List Win} {k : Nat} {c : Option Nat} (hk : k ≤ 2) (hw : ∀ x ∈ ws, x.s ≤ 4) : ∀ i, (zG ws k c i).length ≤ 11 * i
 | 0 => by simp [zG]
 | i + 1 => by
  have ih := Xk (c := c) hk hw i
  simp only [zG]
  split
  ·rename_i x hx
   have h4 := hw x (List.mem_of_getElem? hx)
   have h1 : (yD x.wd i x.s).length ≤ 8 := by
    unfold yD
    split
    ·simp; omega
    ·simp; omega
   have h2 : (yW (decide (c = some i)) i).length ≤ 1 := by unfold yW; split <;> simp
   have hs : (if i = 0 then [] else zP k).length ≤ 2 := by split <;> simp [zP]; omega
   simp only [List.length_append]
   omega
  ·omega
end
section
theorem Jt (a b : List Col) : zd a ++ zd b = zd (a ++ b) := by simp [zd]
theorem yy (a : List Col) : (zd a).length = a.length := by simp [zd]
theorem evsS (w : World) (stp : Expr → Bool) : Sound pr w (Hf w.params) yF anT (ET w stp 100) := (xP (wok w) 100).toSound
noncomputable def z1 (x y : zU) (ws cs : List PV) : za := [x, y, .list ws, .list cs]
noncomputable def xR : zc := []
theorem turn970 (w : World) (dk : zN) (hdk : dk.Ok) (k c i : Nat) (many : PV) (hi : i < 4) (hk : k ≤ 2) (x y : zU) (wsL : List PV) (cl : List Col) (hw : wsL.length ≤ 4) (hcl : cl.length ≤ 44) (tl : zc) (htl : (tl = xR ∧ i = 0) ∨ (0 < i ∧ ∃ p s t, tl = yO p s t)) (G : KF)
  (hG : G .next (yw (.int (k : Int)) (.int (c : Int)) many (yO (.int (i : Int)) (.int (1 + dk.nx.dv 4)) (.bool (dk.dv 3 == 2)))) (dk.nx.nx.σ (z1 x y (wsL ++ [yB i (zR dk)]) (zd (cl ++ (if i = 0 then [] else zP k) ++ yD (zR dk).wd i (zR dk).s ++ yW (decide (some c = some i)) i))))) :
  TI (asg anT W0 (fun e ρ σ C => ET w stpM 100 (.ex (frN 147 5) e ρ σ C)) (frN 147 5) 2 qF.tgt (.int (i : Int)) (yw (.int (k : Int)) (.int (c : Int)) many tl) (dk.σ (z1 x y wsL (zd cl))) fun ρ1 σ1 => ET w stpM 100 (.sts (frN 147 5) qF.body ρ1 σ1 fun fl ρ2 σ2 => jn (G fl ρ2 σ2))) := by
 have hs := Xp dk
 have hsI := Dq dk
 have hch : (yD (zR dk).wd i (zR dk).s).length ≤ 8 := by
  unfold yD
  split
  ·simp; omega
  ·simp; omega
 have hst : (yW (decide (some c = some i)) i).length ≤ 1 := by unfold yW; split <;> simp
 have hsp : (zP k).length = k := by simp [zP]
 have d1 : ∀ (R : za) (D : KD), D (.int (dk.dv 3)) (dk.nx.σ R) → MC w 5 963 [.loc 1, .int 3] (dk.σ R) D := fun R D h => qw (e963 w dk R 3 hdk (by decide) D h) (by decide)
 have d2 : ∀ (R : za) (D : KD), D (.int (dk.nx.dv 4)) (dk.nx.nx.σ R) → MC w 5 963 [.loc 1, .int 4] (dk.nx.σ R) D := fun R D h => qw (e963 w dk.nx R 4 hdk.nx (by decide) D h) (by decide)
 have m1 : ∀ (R : za) (ws cs : List PV) (D : KD), D (yB i (zR dk)) (dk.nx.nx.σ (z1 x y ws cs)) → ME w (frN 147 5) xf (yw (.int (k : Int)) (.int (c : Int)) many (yO (.int (i : Int)) (.int (1 + dk.nx.dv 4)) (.bool (zR dk).wd))) (dk.nx.nx.σ (z1 x y ws cs)) D := by
  rw [← hsI]
  exact fun R ws cs D hd => q_dict i (zR dk).s (zR dk).wd hi hs.2 hd
 have m2 : ∀ (ws cs : List PV) (p s t : PV) (D : KD), D (.list (zd (zP k))) (dk.nx.nx.σ (z1 x y ws cs)) → ME w (frN 147 5) sepX (yw (.int (k : Int)) (.int (c : Int)) many (yO p s t)) (dk.nx.nx.σ (z1 x y ws cs)) D := fun ws cs p s t D hd => q_sep k hk hd
 have m3 : ∀ (ws cs : List PV) (D : KD), D (.list (zd (yD (zR dk).wd i (zR dk).s))) (dk.nx.nx.σ (z1 x y ws cs)) → ME w (frN 147 5) chX (yw (.int (k : Int)) (.int (c : Int)) many (yO (.int (i : Int)) (.int (1 + dk.nx.dv 4)) (.bool (zR dk).wd))) (dk.nx.nx.σ (z1 x y ws cs)) D := by
  rw [← hsI]
  exact fun ws cs D hd => q_ch i (zR dk).s (zR dk).wd hs.2 hd
 have m4 : ∀ (ws cs : List PV) (s t : PV) (D : KD), D (.list (zd (yW (decide (some c = some i)) i))) (dk.nx.nx.σ (z1 x y ws cs)) → ME w (frN 147 5) stX (yw (.int (k : Int)) (.int (c : Int)) many (yO (.int (i : Int)) s t)) (dk.nx.nx.σ (z1 x y ws cs)) D := fun ws cs s t D hd => q_st i c hd
 replace hG : G .next (yw (.int (k : Int)) (.int (c : Int)) many (yO (.int (i : Int)) (.int (1 + dk.nx.dv 4)) (.bool (zR dk).wd))) (dk.nx.nx.σ (z1 x y (wsL ++ [yB i (zR dk)]) (zd (cl ++ (if i = 0 then [] else zP k) ++ yD (zR dk).wd i (zR dk).s ++ yW (decide (some c = some i)) i)))) := hG
 rw [← Jt, ← Jt, ← Jt] at hG
 rw [← yy] at hch hst hsp hcl
 generalize zd (yD (zR dk).wd i (zR dk).s) = ch at *
 generalize zd (yW (decide (some c = some i)) i) = st at *
 generalize zd cl = cs at *
 generalize yB i (zR dk) = wp at *
 rcases htl with ⟨rfl, rfl⟩ | ⟨hpos, p, s, t, rfl⟩
 ·rw [if_pos rfl, show zd [] = [] from rfl, List.append_nil] at hG
  refine mkI [.res (.int (dk.dv 3)) (dk.nx.σ (z1 x y wsL cs)), .res (.int (dk.nx.dv 4)) (dk.nx.nx.σ (z1 x y wsL cs)), .res wp (dk.nx.nx.σ (z1 x y wsL cs)), .bit false, .res (.list ch) (dk.nx.nx.σ (z1 x y (wsL ++ [wp]) cs)), .res (.list st) (dk.nx.nx.σ (z1 x y (wsL ++ [wp]) (cs ++ ch)))] true
   ((∀ D : KD, D (.int (dk.dv 3)) (dk.nx.σ (z1 x y wsL cs)) → MC w 5 963 [.loc 1, .int 3] (dk.σ (z1 x y wsL cs)) D) ∧ true = true ∧
    (∀ D : KD, D (.int (dk.nx.dv 4)) (dk.nx.nx.σ (z1 x y wsL cs)) → MC w 5 963 [.loc 1, .int 4] (dk.nx.σ (z1 x y wsL cs)) D) ∧ true = true ∧
    CE w (frN 147 5) xf (yw (.int (k : Int)) (.int (c : Int)) many (yO (.int ((0 : Nat) : Int)) (.int (1 + dk.nx.dv 4)) (.bool (zR dk).wd))) (dk.nx.nx.σ (z1 x y wsL cs)) wp ∧ (wsL.length.ble 1000000 && true) = true ∧
    CE w (frN 147 5) chX (yw (.int (k : Int)) (.int (c : Int)) many (yO (.int ((0 : Nat) : Int)) (.int (1 + dk.nx.dv 4)) (.bool (zR dk).wd))) (dk.nx.nx.σ (z1 x y (wsL ++ [wp]) cs)) (.list ch) ∧ ((cs.length + ch.length).ble 1000000 && true) = true ∧
    CE w (frN 147 5) stX (yw (.int (k : Int)) (.int (c : Int)) many (yO (.int ((0 : Nat) : Int)) (.int (1 + dk.nx.dv 4)) (.bool (zR dk).wd))) (dk.nx.nx.σ (z1 x y (wsL ++ [wp]) (cs ++ ch))) (.list st) ∧ (((cs ++ ch).length + st.length).ble 1000000 && true) = true ∧
    G .next (yw (.int (k : Int)) (.int (c : Int)) many (yO (.int ((0 : Nat) : Int)) (.int (1 + dk.nx.dv 4)) (.bool (zR dk).wd))) (dk.nx.nx.σ (z1 x y (wsL ++ [wp]) (cs ++ ch ++ st)))) rfl
   ⟨d1 _, rfl, d2 _, rfl, m1 [] _ _, ?_, m3 _ _, ?_, m4 _ _ _ _, ?_, hG⟩
  all_goals (simp only [Bool.and_true, Nat.ble_eq, List.length_append]; omega)
 ·rw [if_neg (by omega)] at hG
  refine mkI [.res (.int (dk.dv 3)) (dk.nx.σ (z1 x y wsL cs)), .res (.int (dk.nx.dv 4)) (dk.nx.nx.σ (z1 x y wsL cs)), .res wp (dk.nx.nx.σ (z1 x y wsL cs)), .bit true, .res (.list (zd (zP k))) (dk.nx.nx.σ (z1 x y (wsL ++ [wp]) cs)), .res (.list ch) (dk.nx.nx.σ (z1 x y (wsL ++ [wp]) (cs ++ zd (zP k)))), .res (.list st) (dk.nx.nx.σ (z1 x y (wsL ++ [wp]) (cs ++ zd (zP k) ++ ch)))] true
   ((∀ D : KD, D (.int (dk.dv 3)) (dk.nx.σ (z1 x y wsL cs)) → MC w 5 963 [.loc 1, .int 3] (dk.σ (z1 x y wsL cs)) D) ∧ true = true ∧
    (∀ D : KD, D (.int (dk.nx.dv 4)) (dk.nx.nx.σ (z1 x y wsL cs)) → MC w 5 963 [.loc 1, .int 4] (dk.nx.σ (z1 x y wsL cs)) D) ∧ true = true ∧
    CE w (frN 147 5) xf (yw (.int (k : Int)) (.int (c : Int)) many (yO (.int (i : Int)) (.int (1 + dk.nx.dv 4)) (.bool (zR dk).wd))) (dk.nx.nx.σ (z1 x y wsL cs)) wp ∧ (wsL.length.ble 1000000 && (zh (some (decide (0 < (i : Int)))) true && true)) = true ∧
    CE w (frN 147 5) sepX (yw (.int (k : Int)) (.int (c : Int)) many (yO (.int (i : Int)) (.int (1 + dk.nx.dv 4)) (.bool (zR dk).wd))) (dk.nx.nx.σ (z1 x y (wsL ++ [wp]) cs)) (.list (zd (zP k))) ∧ ((cs.length + (zd (zP k)).length).ble 1000000 && true) = true ∧
    CE w (frN 147 5) chX (yw (.int (k : Int)) (.int (c : Int)) many (yO (.int (i : Int)) (.int (1 + dk.nx.dv 4)) (.bool (zR dk).wd))) (dk.nx.nx.σ (z1 x y (wsL ++ [wp]) (cs ++ zd (zP k)))) (.list ch) ∧ (((cs ++ zd (zP k)).length + ch.length).ble 1000000 && true) = true ∧
    CE w (frN 147 5) stX (yw (.int (k : Int)) (.int (c : Int)) many (yO (.int (i : Int)) (.int (1 + dk.nx.dv 4)) (.bool (zR dk).wd))) (dk.nx.nx.σ (z1 x y (wsL ++ [wp]) (cs ++ zd (zP k) ++ ch))) (.list st) ∧ (((cs ++ zd (zP k) ++ ch).length + st.length).ble 1000000 && true) = true ∧
    G .next (yw (.int (k : Int)) (.int (c : Int)) many (yO (.int (i : Int)) (.int (1 + dk.nx.dv 4)) (.bool (zR dk).wd))) (dk.nx.nx.σ (z1 x y (wsL ++ [wp]) (cs ++ zd (zP k) ++ ch ++ st)))) rfl
   ⟨d1 _, rfl, d2 _, rfl, m1 [] _ _, ?_, m2 _ _ _ _ _, ?_, m3 _ _, ?_, m4 _ _ _ _, ?_, hG⟩
  all_goals (simp only [Bool.and_eq_true, zl, Option.some.injEq, decide_eq_true_eq, Nat.ble_eq, List.length_append, and_true]; omega)
def ltl (dk : zN) : Nat → zc
 | 0 => xR
 | i + 1 => yO (.int (i : Int)) (.int (1 + (dkN dk i).nx.dv 4)) (.bool ((dkN dk i).dv 3 == 2))
theorem Dp (ws : List Win) {i : Nat} {x : Win} (h : ws[i]? = some x) : (zz ws).take (i + 1) = (zz ws).take i ++ [yB i x] := by
 have hi := (List.getElem?_eq_some_iff.mp h).1
 have hl : i < (zz ws).length := by simp [zz]; exact hi
 rw [List.take_succ_eq_append_getElem hl]
 congr 2
 have : (zz ws)[i]? = some (yB i x) := by simp [zz, h]
 rw [List.getElem?_eq_getElem hl] at this
 exact Option.some.inj this
theorem EB (ws : List Win) : (zz ws).length = ws.length := by simp [zz]
theorem loop970 (w : World) (dk : zN) (hdk : dk.Ok) (k many : Nat) (c : Option Nat) (hm : many ≤ 4) (hk : k ≤ 2) (hc : many = 0 ∨ ∃ c0, c = some c0) (x y : zU) (D : KF)
  (hD : D .next (yw (.int (k : Int)) (zy c) (.int (many : Int)) (ltl dk many)) ((dkN dk many).σ (z1 x y (zz (zT dk many)) (zd (zG (zT dk many) k c many))))) :
  yJ pr w (Hf w.params) yF (frN 147 5) qF.tgt (.rng (many : Int)) 0 qF.body qF.els (yw (.int (k : Int)) (zy c) (.int (many : Int)) xR) (dk.σ (z1 x y [] [])) D := by
 have hlen : ((List.range many).map fun i : Nat => PV.int (i : Int)).length = many := by simp
 refine jQ (wok w) (evsS w stpM) ((List.range many).map fun i : Nat => PV.int (i : Int)) (fun i ρ σ => i ≤ many ∧ ρ = yw (.int (k : Int)) (zy c) (.int (many : Int)) (ltl dk i) ∧ σ = (dkN dk i).σ (z1 x y ((zz (zT dk many)).take i) (zd (zG (zT dk many) k c i)))) (fun i ρ σ hi hI => ?_) (by kernel_rfl) (fun i v ρ σ hv hI => ?_) (fun ρ σ hI => ?_) ⟨Nat.zero_le _, rfl, rfl⟩
 ·exact qs many i σ
 ·obtain ⟨_, rfl, rfl⟩ := hI
  obtain ⟨hi, rfl⟩ : i < many ∧ v = .int (i : Int) := by
   rw [List.getElem?_map] at hv
   by_cases h : i < many
   ·rw [List.getElem?_range h] at hv
    cases hv
    exact ⟨h, rfl⟩
   ·rw [List.getElem?_eq_none (by simp; omega)] at hv
    cases hv
  obtain ⟨c0, rfl⟩ : ∃ c0, c = some c0 := hc.resolve_left (by omega)
  have hx := JO dk hi
  have hsz : ∀ z ∈ zT dk many, z.s ≤ 4 := fun z hz => by
   obtain ⟨j, _, rfl⟩ := List.mem_map.mp hz
   exact (Xp _).2
  have hcl := Xk (c := some c0) hk hsz i
  have hwl : ((zz (zT dk many)).take i).length ≤ 4 := by
   simp only [List.length_take]
   omega
  refine turn970 w (dkN dk i) (BE hdk i) k c0 i (.int (many : Int)) (by omega) hk x y _ _ hwl (by omega) (ltl dk i) ?_ (qz (fun ρ σ => i < ((List.range many).map fun i : Nat => PV.int (i : Int)).length ∧ i + 1 ≤ many ∧ ρ = yw (.int (k : Int)) (zy (some c0)) (.int (many : Int)) (ltl dk (i + 1)) ∧ σ = (dkN dk (i + 1)).σ (z1 x y ((zz (zT dk many)).take (i + 1)) (zd (zG (zT dk many) k (some c0) (i + 1))))) D) ⟨by rw [hlen]; exact hi, hi, rfl, ?_⟩
  ·cases i with
   | zero => exact .inl ⟨rfl, rfl⟩
   | succ j => exact .inr ⟨Nat.succ_pos j, _, _, _, rfl⟩
  ·rw [Dp _ hx]
   simp only [zG, hx]
   rfl
 ·obtain ⟨_, rfl, rfl⟩ := hI
  rw [hlen, List.take_of_length_le (by rw [EB, YQ]; exact Nat.le_refl _)]
  exact mkI [] true (D .next (yw (.int (k : Int)) (zy c) (.int (many : Int)) (ltl dk many)) ((dkN dk many).σ (z1 x y (zz (zT dk many)) (zd (zG (zT dk many) k c many))))) rfl hD
theorem e970 (w : World) (dk : zN) (hdk : dk.Ok) (k many : Nat) (c : Option Nat) (hm : many ≤ 4) (hk : k ≤ 2) (hc : many = 0 ∨ ∃ c0, c = some c0) (x y : zU) (D : KD)
  (hD : D (.tup [.list (zz (zT dk many)), .list (zd (zG (zT dk many) k c many))]) ((dkN dk many).σ [x, y])) : MC w 6 970 [.loc 1, .int (many : Int), zy c, .int (k : Int)] (dk.σ [x, y]) D := by
 refine Qc (Br w stpM ?_)
 refine mkI [.loop .next (yw (.int (k : Int)) (zy c) (.int (many : Int)) (ltl dk many)) ((dkN dk many).σ (z1 x y (zz (zT dk many)) (zd (zG (zT dk many) k c many))))] ((decide (0 ≤ (many : Int)) && decide ((many : Int) ≤ 1000)) && true)
  ((∀ D : KF, D .next (yw (.int (k : Int)) (zy c) (.int (many : Int)) (ltl dk many)) ((dkN dk many).σ (z1 x y (zz (zT dk many)) (zd (zG (zT dk many) k c many)))) → yJ pr w (Hf w.params) yF (frN 147 5) qF.tgt (.rng (many : Int)) 0 qF.body qF.els (yw (.int (k : Int)) (zy c) (.int (many : Int)) xR) (dk.σ (z1 x y [] [])) D) ∧ true = true ∧
   ∃ σ1 r, je (dk.σ [x, y]) σ1 (.tup [.loc 4, .loc 5]) ((dkN dk many).σ (z1 x y (zz (zT dk many)) (zd (zG (zT dk many) k c many)))) r ∧ D r σ1) ?_
  ⟨fun D hD => loop970 w dk hdk k many c hm hk hc x y D hD, rfl, _, _, Qb (rest := [x, y]) (τ := [.list (zz (zT dk many)), .list (zd (zG (zT dk many) k c many))]) (By _ _ _) (XV _ _ (Nat.succ_pos _) _) (.tup (.cons (.locList (show 4 ≤ 4 from Nat.le_refl 4) rfl (yk.same _ _ (xv _))) (.cons (.locList (show 4 ≤ 5 from Nat.le_succ 4) rfl (yk.same _ _ (yd _))) .nil))), hD⟩
 have h0 : 0 ≤ (many : Int) := by omega
 have h1 : (many : Int) ≤ 1000 := by omega
 rw [decide_eq_true h0, decide_eq_true h1]; rfl
end
section
theorem e977 (w : World) (v : Nat) (room W : Int) (left n : Nat) (hr : room.natAbs ≤ 100000) (hW : W.natAbs ≤ 100000) (hn : n ≤ 100000) : PO w 1 977 [.bytes (xn v), .int room, .int (left : Int), .int W, .int (n : Int)] (.int (zH v room W left n)) := by
 have hi : (ix 0 (room - (n : Int))).natAbs < 2 ^ 60 := FA (by decide) (by omega)
 have hi2 : (W - (n : Int)).natAbs < 2 ^ 60 := by omega
 refine jC fun σ D H => goF w ?_
 match v, H with
 | 0, H => exact mkI [] true (D (.int 0) σ) rfl H
 | 1, H => exact mkI [] ((true && decide ((ix 0 (room - (n : Int))).natAbs < 2 ^ 60) && true) && true) (D (.int (Int.fdiv (ix 0 (room - (n : Int))) 2)) σ) (by rw [decide_eq_true hi]; rfl) H
 | 2, H => exact mkI [] true (D (.int (ix 0 (room - (n : Int)))) σ) rfl H
 | v + 3, H => exact mkI [] ((true && decide ((W - (n : Int)).natAbs < 2 ^ 60) && true) && true) (D (.int (ix 0 (mn (Int.fdiv (W - (n : Int)) 2 - (left : Int)) (ix 0 (room - (n : Int)))))) σ) (by rw [decide_eq_true hi2]; rfl) H
noncomputable def n49 : PV := .tup [.none, .int 49]
noncomputable def n32 : PV := .tup [.none, .int 32]
noncomputable def n50 : PV := .tup [.none, .int 50]
noncomputable def rp (n : Int) (p : PV) : List PV := (List.replicate n.toNat [p]).flatten
theorem qX (n : Int) (p : PV) : (rp n p).length = n.toNat := by simp [rp]
def r0 (l s : Int) (sh : List PV) : List PV := rp l n49 ++ rp s n32 ++ sh
def Dz (l s r W : Int) (sh : List PV) : List PV := r0 l s sh ++ rp (W - r - ((r0 l s sh).length : Int)) n32 ++ rp r n50
noncomputable def gI (n : Int) : Bool := decide (0 ≤ n) && decide (n ≤ 1000) && true
def rowG (l s r W : Int) (sh cl : List PV) : Bool := gI l && (gI s && (decide ((rp l n49).length + (rp s n32).length ≤ 16777216) && (decide ((rp l n49 ++ rp s n32).length + sh.length ≤ 16777216) && ((r0 l s sh).length.ble 1000000 &&
 (gI (W - r - ((r0 l s sh).length : Int)) && (decide ((r0 l s sh).length + (rp (W - r - ((r0 l s sh).length : Int)) n32).length ≤ 16777216) && (gI r && (decide ((r0 l s sh ++ rp (W - r - ((r0 l s sh).length : Int)) n32).length + (rp r n50).length ≤ 16777216) && (cl.length.ble 1000000 && true)))))))))
theorem Yz {a b : Bool} (h : a = true) (k : b = true) : (a && b) = true := by rw [h, k]; rfl
theorem CW {n : Int} (h0 : 0 ≤ n) (h1 : n ≤ 100) : gI n = true := Yz (Yz (decide_eq_true h0) (decide_eq_true (Int.le_trans h1 (by decide)))) rfl
theorem DU {m : Nat} (n : Nat) {k : Int} (h : m ≤ n) (e : (n : Int) = k) : (m : Int) ≤ k := e ▸ Int.ofNat_le.mpr h
theorem Qi {n : Nat} (h : n ≤ 1000) : decide (n ≤ 16777216) = true := decide_eq_true (Nat.le_trans h (by decide))
theorem jx (a b : Int) : mn a b ≤ a := by
 unfold mn
 by_cases h : b < a
 ·rw [decide_eq_true h]; exact Int.le_of_lt h
 ·rw [decide_eq_false h]; exact Int.le_refl _
theorem CC (a b : Int) : mn a b ≤ b := by
 unfold mn
 by_cases h : b < a
 ·rw [decide_eq_true h]; exact Int.le_refl _
 ·rw [decide_eq_false h]; exact Int.not_lt.mp h
theorem Yn {a b : Int} (h : 0 ≤ a) (k : 0 ≤ b) : 0 ≤ mn a b := by unfold mn; split <;> assumption
theorem A1 (l s : Int) (sh : List PV) : (r0 l s sh).length = l.toNat + s.toNat + sh.length := by
 unfold r0; rw [List.length_append, List.length_append, qX, qX]
theorem Cd {l s r W : Int} {sh cl : List PV} (hl0 : 0 ≤ l) (hs0 : 0 ≤ s) (hr0 : 0 ≤ r) (hl : l ≤ 100) (hs : s ≤ 100) (hr : r ≤ 100) (hW : W ≤ 100) (hsh : sh.length ≤ 100) (hcl : cl.length ≤ 100) (hk : l + s + (sh.length : Int) + r ≤ W) : rowG l s r W sh cl = true := by
 have k1 : (rp l n49).length ≤ 100 := by rw [qX]; exact Int.toNat_le.mpr hl
 have k2 : (rp s n32).length ≤ 100 := by rw [qX]; exact Int.toNat_le.mpr hs
 have k3 : (rp r n50).length ≤ 100 := by rw [qX]; exact Int.toNat_le.mpr hr
 have e : ((r0 l s sh).length : Int) = l + s + sh.length := by rw [A1, Int.natCast_add, Int.natCast_add, Int.toNat_of_nonneg hl0, Int.toNat_of_nonneg hs0]
 have kn : (r0 l s sh).length ≤ 300 := by
  rw [A1]
  exact Nat.add_le_add (Nat.add_le_add (Int.toNat_le.mpr hl) (Int.toNat_le.mpr hs)) hsh
 have d0 : 0 ≤ W - r - ((r0 l s sh).length : Int) := by rw [e]; exact Int.sub_nonneg_of_le (Int.le_sub_right_of_add_le hk)
 have d1 : W - r - ((r0 l s sh).length : Int) ≤ 100 := Int.le_trans (Int.sub_le_self _ (Int.natCast_nonneg _)) (Int.le_trans (Int.sub_le_self _ hr0) hW)
 have k4 : (rp (W - r - ((r0 l s sh).length : Int)) n32).length ≤ 100 := by rw [qX]; exact Int.toNat_le.mpr d1
 refine Yz (CW hl0 hl) (Yz (CW hs0 hs) (Yz (Qi (Nat.le_trans (Nat.add_le_add k1 k2) (by decide))) (Yz (Qi ?_) (Yz (Nat.ble_eq.mpr (Nat.le_trans kn (by decide))) (Yz (CW d0 d1) (Yz (Qi (Nat.le_trans (Nat.add_le_add kn k4) (by decide))) (Yz (CW hr0 hr) (Yz (Qi ?_) (Yz (Nat.ble_eq.mpr (Nat.le_trans hcl (by decide))) rfl)))))))))
 ·rw [List.length_append]; exact Nat.le_trans (Nat.add_le_add (Nat.add_le_add k1 k2) hsh) (by decide)
 ·rw [List.length_append]; exact Nat.le_trans (Nat.add_le_add (Nat.add_le_add kn k4) k3) (by decide)
noncomputable def yq (l s r W : Int) (sh : List Col) : List Col := List.replicate l.toNat (none, some 49) ++ List.replicate s.toNat (none, some 32) ++ sh ++ List.replicate (W - r - ((l.toNat + s.toNat + sh.length : Nat) : Int)).toNat (none, some 32) ++ List.replicate r.toNat (none, some 50)
theorem XC (l s r W : Int) (sh : List Col) : Dz l s r W (zd sh) = zd (yq l s r W sh) := by
 have e : (r0 l s (zd sh)).length = l.toNat + s.toNat + sh.length := by rw [A1, yy]
 unfold Dz yq
 rw [e]
 simp [r0, rp, zd, n49, n32, n50, yY, zF, y3]
theorem e982a (w : World) (v : Nat) (cl : List Col) (c : Option Nat) (a b W : Int) (hcl : cl.length ≤ 100) (ha0 : 0 ≤ a) (hb0 : 0 ≤ b) (ha : a ≤ 50) (hb : b ≤ 50) (hW0 : 0 ≤ W) (hW : W ≤ 100) (hfit : (cl.length : Int) ≤ W - mn a W - mn b (W - mn a W)) (hs0 : 0 ≤ zH v (W - mn a W - mn b (W - mn a W)) W (mn a W).toNat cl.length)
  (hs1 : mn a W + zH v (W - mn a W - mn b (W - mn a W)) W (mn a W).toNat cl.length + (cl.length : Int) + mn b (W - mn a W) ≤ W) :
  PO w 3 982 [.list (zd cl), zy c, .bytes (xn v), .list [.int a, .int b], .int W] (.tup [.list (zd (yq (mn a W) (zH v (W - mn a W - mn b (W - mn a W)) W (mn a W).toNat cl.length) (mn b (W - mn a W)) W cl)), .bool true]) := by
 have hl0 : 0 ≤ mn a W := Yn ha0 hW0
 have hl1 : mn a W ≤ 50 ∧ mn a W ≤ W := ⟨Int.le_trans (jx a W) ha, CC a W⟩
 have hr0 : 0 ≤ mn b (W - mn a W) := Yn hb0 (Int.sub_nonneg_of_le hl1.2)
 have hr1 : mn b (W - mn a W) ≤ 50 := Int.le_trans (jx _ _) hb
 have hsp := fun D => (e977 w v (W - mn a W - mn b (W - mn a W)) W (mn a W).toNat cl.length (by omega) (by omega) (by omega)).gm (dp := 2) (by decide) (σ := []) D
 rw [Int.toNat_of_nonneg hl0, ← yy] at hsp
 rw [← XC]
 rw [← yy] at hs0 hs1 hcl hfit ⊢
 refine xd ?_ fun D H => goF w ?_
 ·simp only [zx, zD, yd, Bool.true_and]
  cases c <;> rfl
 have hfin : zx (Dz (mn a W) (zH v (W - mn a W - mn b (W - mn a W)) W (mn a W).toNat (zd cl).length) (mn b (W - mn a W)) W (zd cl)) = true := by rw [XC]; exact yd _
 generalize zH v (W - mn a W - mn b (W - mn a W)) W (mn a W).toNat (zd cl).length = s at *
 have hG := Cd (cl := zd cl) hl0 hs0 hr0 (by omega) (by omega) (by omega) (by omega) hcl hcl hs1
 refine mkI [.bit false, .res (.int s) []] ((zd cl).length.ble 1000000 && (zh (some (decide (W - mn a W - mn b (W - mn a W) < ((zd cl).length : Int)))) false && ((zd cl).length.ble 1000000 && true)))
  (CS w 2 977 [.bytes (xn v), .int (W - mn a W - mn b (W - mn a W)), .int (mn a W), .int W, .int ((zd cl).length : Int)] [] (.int s) ∧ rowG (mn a W) s (mn b (W - mn a W)) W (zd cl) (zd cl) = true ∧
   D (.tup [.list (Dz (mn a W) s (mn b (W - mn a W)) W (zd cl)), .bool (decide (((zd cl).length : Int) ≤ W - mn a W - mn b (W - mn a W)))]) [.list [n49], .list [n32], .list [n32], .list [n50]]) ?_ ⟨hsp, hG, ?_⟩
 ·simp only [Bool.and_eq_true, zl, Option.some.injEq, decide_eq_false_iff_not, Nat.ble_eq, and_true]; omega
 ·rw [decide_eq_true hfit]
  exact H _ _ (.same _ _ (by simp only [zD, zx, hfin, Bool.and_self, Bool.and_true]))
noncomputable def plN (cl : List Col) (c : Nat) : Nat → List Int
 | 0 => []
 | i + 1 => match cl[i]? with
  | some x => (match decide (x.1 = some c) with | true => plN cl c i ++ [(i : Int)] | false => plN cl c i)
  | none => plN cl c i
def yM : CP := cpE (Qn ((FJ (stN 149 4)).getD 0 (.Pass default)))
noncomputable def atl (a b : PV) : zc := [("at", a), ("one", b)]
noncomputable def Yg (c : Nat) (tl : zc) : zc := ("current", .int (c : Int)) :: tl
theorem test982 (c : Nat) (x : Col) (σ : za) : z0 σ .Eq (zF x.1) (.int (c : Int)) = some (decide (x.1 = some c)) := by
 obtain ⟨a, b⟩ := x
 cases a with
 | none => rfl
 | some a =>
  show some ((a : Int) == (c : Int)) = _
  congr 1
  rw [Bool.eq_iff_iff, beq_iff_eq, decide_eq_true_eq, Option.some.injEq]
  omega
theorem F9 (w : World) (c : Nat) (a b : PV) (σ : za) (D : KD) (hd : D a σ) : ME w (yM.fr 2) yM.elt (Yg c (atl a b)) σ D := goX w (mkI [] true (D a σ) rfl hd)
theorem turn982 (w : World) (c i : Nat) (x : Col) (acc : List PV) (tl : zc) (htl : tl = xR ∨ ∃ a b, tl = atl a b) (hl : acc.length ≤ 1000) (G : zc → za → Prop) (hG : G (Yg c (atl (.int (i : Int)) (yY x))) [.list (match decide (x.1 = some c) with | true => acc ++ [.int (i : Int)] | false => acc)]) :
  TI (putT anT (yM.fr 2) yM.tgt (.tup [.int (i : Int), yY x]) (Yg c tl) fun ρ1 => XT anT (ET w nos 100) (yM.fr 2) yM.ifs ρ1 [.list acc] fun b σ1 => match b with
   | true => exN pr w (Hf w.params) yF (yM.fr 2) yM.elt ρ1 σ1 (fun x σ2 => jT anT σ2 .lAppend [.loc 0, x] fun _ σ3 => jn (G ρ1 σ3))
   | false => jn (G ρ1 σ1)) := by
 have ht := test982 c x [.list acc]
 cases hx : decide (x.1 = some c) with
 | true =>
  rw [hx] at ht hG
  rcases htl with rfl | ⟨a, b, rfl⟩
  ·refine mkI [.bit true, .res (.int (i : Int)) [.list acc]] (zh (z0 [.list acc] .Eq (zF x.1) (.int (c : Int))) true && true)
    (CE w (yM.fr 2) yM.elt (Yg c (atl (.int (i : Int)) (yY x))) [.list acc] (.int (i : Int)) ∧ (acc.length.ble 1000000 && true) = true ∧ G (Yg c (atl (.int (i : Int)) (yY x))) [.list (acc ++ [.int (i : Int)])]) (by rw [ht]; rfl) ⟨fun D hd => F9 w c _ _ _ D hd, by simp only [Bool.and_true, Nat.ble_eq]; omega, hG⟩
  ·refine mkI [.bit true, .res (.int (i : Int)) [.list acc]] (zh (z0 [.list acc] .Eq (zF x.1) (.int (c : Int))) true && true)
    (CE w (yM.fr 2) yM.elt (Yg c (atl (.int (i : Int)) (yY x))) [.list acc] (.int (i : Int)) ∧ (acc.length.ble 1000000 && true) = true ∧ G (Yg c (atl (.int (i : Int)) (yY x))) [.list (acc ++ [.int (i : Int)])]) (by rw [ht]; rfl) ⟨fun D hd => F9 w c _ _ _ D hd, by simp only [Bool.and_true, Nat.ble_eq]; omega, hG⟩
 | false =>
  rw [hx] at ht hG
  rcases htl with rfl | ⟨a, b, rfl⟩
  ·exact mkI [.bit false] (zh (z0 [.list acc] .Eq (zF x.1) (.int (c : Int))) false && true) (G (Yg c (atl (.int (i : Int)) (yY x))) [.list acc]) (by rw [ht]; rfl) hG
  ·exact mkI [.bit false] (zh (z0 [.list acc] .Eq (zF x.1) (.int (c : Int))) false && true) (G (Yg c (atl (.int (i : Int)) (yY x))) [.list acc]) (by rw [ht]; rfl) hG
theorem Ck (cl : List Col) (c : Nat) : ∀ i, (plN cl c i).length ≤ i
 | 0 => by simp [plN]
 | i + 1 => by
  have ih := Ck cl c i
  simp only [plN]
  split
  ·split <;> simp <;> omega
  ·omega
theorem comp982 (w : World) (cl : List Col) (c : Nat) (hcl : cl.length ≤ 100) (D : za → Prop) (hD : D [.list (ivs (plN cl c cl.length))]) : j8 pr w (Hf w.params) yF (yM.fr 2) yM.elt yM.tgt yM.ifs (.enm (.list (zd cl))) 0 0 (Yg c xR) [.list []] D := by
 refine Xj (wok w) (evs w) (fun i ρ σ => i ≤ cl.length ∧ (∃ tl, ρ = Yg c tl ∧ (tl = xR ∨ ∃ a b, tl = atl a b)) ∧ σ = [.list (ivs (plN cl c i))]) cl.length (fun i ρ σ h => h.1) (fun i ρ σ h => ?_) ⟨Nat.zero_le _, ⟨_, rfl, .inl rfl⟩, rfl⟩
 obtain ⟨hi, ⟨tl, rfl, htl⟩, rfl⟩ := h
 refine ⟨_, rfl, fun e => ?_, fun v e => ?_⟩
 ·cases hx : cl[i]? with
  | none =>
   obtain rfl : i = cl.length := Nat.le_antisymm hi (List.getElem?_eq_none_iff.mp hx)
   exact hD
  | some x => rw [show (zd cl)[i]? = some (yY x) by simp [zd, hx]] at e; cases e
 ·cases hx : cl[i]? with
  | none => rw [show (zd cl)[i]? = none by simp [zd, hx]] at e; cases e
  | some x =>
   have hlt := (List.getElem?_eq_some_iff.mp hx).1
   rw [show (zd cl)[i]? = some (yY x) by simp [zd, hx]] at e
   obtain rfl := Option.some.inj e
   refine ⟨by kernel_rfl, turn982 w c i x (ivs (plN cl c i)) tl htl (by rw [ivs, List.length_map]; exact Nat.le_trans (Ck cl c i) (Nat.le_trans hi (Nat.le_trans hcl (by decide)))) (fun ρ σ => i + 1 ≤ cl.length ∧ (∃ tl, ρ = Yg c tl ∧ (tl = xR ∨ ∃ a b, tl = atl a b)) ∧ σ = [.list (ivs (plN cl c (i + 1)))]) ⟨hlt, ⟨_, rfl, .inr ⟨_, _, rfl⟩⟩, ?_⟩⟩
   simp only [plN, hx]
   cases decide (x.1 = some c) <;> simp [ivs]
def y7 (n p q : Int) (room : Int) : Int := ix 0 (mn (Int.fdiv (p + q + 1) 2 - Int.fdiv room 2) (n - room))
theorem e982b (w : World) (v : Nat) (cl : List Col) (c : Nat) (a b W p q : Int) (hcl : cl.length ≤ 100) (ha0 : 0 ≤ a) (hb0 : 0 ≤ b) (ha : a ≤ 50) (hb : b ≤ 50) (hW0 : 0 ≤ W) (hW : W ≤ 100) (hfit : ¬ (cl.length : Int) ≤ W - mn a W - mn b (W - mn a W))
  (hp : (plN cl c cl.length).head? = some p) (hq : (plN cl c cl.length).getLast? = some q) (hpb : (p + q + 1).natAbs < 2 ^ 60) (sh : List Col) (hsh : sh = yt cl (some (y7 cl.length p q (W - mn a W - mn b (W - mn a W)))) (some (y7 cl.length p q (W - mn a W - mn b (W - mn a W)) + (W - mn a W - mn b (W - mn a W)))))
  (hs0 : 0 ≤ zH v (W - mn a W - mn b (W - mn a W)) W (mn a W).toNat cl.length) (hs1 : mn a W + zH v (W - mn a W - mn b (W - mn a W)) W (mn a W).toNat cl.length + (sh.length : Int) + mn b (W - mn a W) ≤ W) :
  PO w 3 982 [.list (zd cl), zy (some c), .bytes (xn v), .list [.int a, .int b], .int W] (.tup [.list (zd (yq (mn a W) (zH v (W - mn a W - mn b (W - mn a W)) W (mn a W).toNat cl.length) (mn b (W - mn a W)) W sh)), .bool false]) := by
 have hl0 : 0 ≤ mn a W := Yn ha0 hW0
 have hl1 : mn a W ≤ 50 ∧ mn a W ≤ W := ⟨Int.le_trans (jx a W) ha, CC a W⟩
 have hr0 : 0 ≤ mn b (W - mn a W) := Yn hb0 (Int.sub_nonneg_of_le hl1.2)
 have hr1 : mn b (W - mn a W) ≤ 50 := Int.le_trans (jx _ _) hb
 have hsp := fun σ D => (e977 w v (W - mn a W - mn b (W - mn a W)) W (mn a W).toNat cl.length (by omega) (by omega) (by omega)).gm (dp := 2) (by decide) (σ := σ) D
 rw [Int.toNat_of_nonneg hl0, ← yy] at hsp
 have hcut : qM [.list (ivs (plN cl c cl.length)), .list []] (.list (zd cl)) (some (y7 ((zd cl).length : Int) p q (W - mn a W - mn b (W - mn a W)))) (some (y7 ((zd cl).length : Int) p q (W - mn a W - mn b (W - mn a W)) + (W - mn a W - mn b (W - mn a W)))) = some (.list (zd sh)) := by
  rw [Yf (by rw [yy]; omega), yy]
  unfold zd
  rw [Jq, hsh]
 have hshl : sh.length ≤ 100 := by
  rw [hsh]
  exact Nat.le_trans (Jr ..) hcl
 have hpl : ∃ r, plN cl c cl.length = p :: r := by
  cases h : plN cl c cl.length with
  | nil => rw [h] at hp; cases hp
  | cons y r => rw [h] at hp; cases hp; exact ⟨r, rfl⟩
 obtain ⟨pr', hpl⟩ := hpl
 have hg0 : yI [.list (ivs (plN cl c cl.length)), .list []] (.loc 0) (.int 0) = some (.int p) := Bv (vs := ivs pr') (by rw [hpl]; rfl)
 have hgl : yI [.list (ivs (plN cl c cl.length)), .list []] (.loc 0) (.int (-1)) = some (.int q) := jm rfl (by simp [ivs, hq])
 have hne : z0 [.list (ivs (plN cl c cl.length)), .list []] .NotEq (.loc 0) (.loc 1) = some true := by
  have := C8 (p :: pr')
  rw [hpl]
  exact qh (v := .int p) (vs := ivs pr') rfl rfl this
 have hkk := fun D hD => comp982 w cl c hcl D hD
 rw [← XC]
 rw [← yy sh] at hs1 hshl
 rw [← yy cl] at hs0 hs1 hcl hfit ⊢
 refine xd ?_ fun D H => goF w ?_
 ·simp only [zx, zD, yd, zy, Bool.true_and]
 have hfin : zx (Dz (mn a W) (zH v (W - mn a W - mn b (W - mn a W)) W (mn a W).toNat (zd cl).length) (mn b (W - mn a W)) W (zd sh)) = true := by rw [XC]; exact yd _
 generalize zH v (W - mn a W - mn b (W - mn a W)) W (mn a W).toNat (zd cl).length = s at *
 generalize ivs (plN cl c cl.length) = pl at *
 have hG := Cd (cl := zd cl) hl0 hs0 hr0 (by omega) (by omega) (by omega) (by omega) hshl hcl hs1
 refine mkI [.bit true, .sto [.list pl], .bit true, .val (.int p), .val (.int q), .val (.list (zd sh)), .res (.int s) [.list pl, .list []]] ((zd cl).length.ble 1000000 && (zh (some (decide (W - mn a W - mn b (W - mn a W) < ((zd cl).length : Int)))) true && true))
  ((∀ D : za → Prop, D [.list pl] → j8 pr w (Hf w.params) yF (yM.fr 2) yM.elt yM.tgt yM.ifs (.enm (.list (zd cl))) 0 0 (Yg c xR) [.list []] D) ∧
   (zh (z0 [.list pl, .list []] .NotEq (.loc 0) (.loc 1)) true && ((true && decide ((p + q + 1).natAbs < 2 ^ 60) && true) && ((true && decide ((W - mn a W - mn b (W - mn a W)).natAbs < 2 ^ 60) && true) && ((zd cl).length.ble 1000000 && ((zd cl).length.ble 1000000 && true))))) = true ∧
   yI [.list pl, .list []] (.loc 0) (.int 0) = some (.int p) ∧ yI [.list pl, .list []] (.loc 0) (.int (-1)) = some (.int q) ∧
   qM [.list pl, .list []] (.list (zd cl)) (some (y7 ((zd cl).length : Int) p q (W - mn a W - mn b (W - mn a W)))) (some (y7 ((zd cl).length : Int) p q (W - mn a W - mn b (W - mn a W)) + (W - mn a W - mn b (W - mn a W)))) = some (.list (zd sh)) ∧
   CS w 2 977 [.bytes (xn v), .int (W - mn a W - mn b (W - mn a W)), .int (mn a W), .int W, .int ((zd cl).length : Int)] [.list pl, .list []] (.int s) ∧ rowG (mn a W) s (mn b (W - mn a W)) W (zd sh) (zd cl) = true ∧
   D (.tup [.list (Dz (mn a W) s (mn b (W - mn a W)) W (zd sh)), .bool (decide (((zd cl).length : Int) ≤ W - mn a W - mn b (W - mn a W)))]) [.list pl, .list [], .list [n49], .list [n32], .list [n32], .list [n50]]) ?_ ⟨hkk, ?_, hg0, hgl, hcut, hsp _, hG, ?_⟩
 ·simp only [Bool.and_eq_true, zl, Option.some.injEq, decide_eq_true_eq, Nat.ble_eq, and_true]; omega
 ·have h60 : (W - mn a W - mn b (W - mn a W)).natAbs < 2 ^ 60 := by omega
  simp only [Bool.and_eq_true, zl, decide_eq_true_eq, Nat.ble_eq]
  exact ⟨hne, ⟨⟨trivial, hpb⟩, trivial⟩, ⟨⟨trivial, h60⟩, trivial⟩, by omega, by omega, trivial⟩
 ·rw [decide_eq_false hfit]
  exact H _ _ (.same _ _ (by simp only [zD, zx, hfin, Bool.and_self, Bool.and_true]))
noncomputable def Cl.code : Cl → Option Int
 | .one c => some c
 | .wide c => some c
 | .tail => none
 | .blank => some 32
noncomputable def CR (v : PV) : PV := match v with
 | .tup [.tup cd, .int w, _, _] => (match decide (w = 0) with
  | true => .none
  | false => (match cd with | [x] => x | _ => .int 32))
 | v => v
theorem Q9 (c : Cl) : CR c.pv = y3 c.code := by cases c <;> rfl
def Gc : CP := cpE (retE (stN 150 0))
theorem elt987 (w : World) (c : Cl) (acc : List PV) (D : KD) (hd : D (CR c.pv) [.list acc]) : ME w (Gc.fr 2) Gc.elt [("one", c.pv)] [.list acc] D := by
 rw [Q9] at hd
 cases c with
 | tail => exact goX w (mkI [.bit true] true (D .none [.list acc]) rfl hd)
 | blank => exact goX w (mkI [.bit false, .bit true] true (D (.int 32) [.list acc]) rfl hd)
 | one c =>
  by_cases h : c = 32
  ·subst h
   exact goX w (mkI [.bit false, .bit true] true (D (.int 32) [.list acc]) rfl hd)
  ·refine goX w (mkI [.bit false, .bit false] (zh (some (false || (32 == c && true || false))) false && true) (D (.int c) [.list acc]) ?_ hd)
   have : ((32 : Int) == c) = false := by rw [beq_eq_false_iff_ne]; exact fun q => h q.symm
   rw [this]; rfl
 | wide c =>
  by_cases h : c = 32
  ·subst h
   exact goX w (mkI [.bit false, .bit true] true (D (.int 32) [.list acc]) rfl hd)
  ·refine goX w (mkI [.bit false, .bit false] (zh (some (false || (32 == c && true || false))) false && true) (D (.int c) [.list acc]) ?_ hd)
   have : ((32 : Int) == c) = false := by rw [beq_eq_false_iff_ne]; exact fun q => h q.symm
   rw [this]; rfl
theorem e987 (w : World) (cs : List Cl) (hn : cs.length ≤ 1000000) : PO w 3 987 [.list (pvs cs)] (.list (cs.map fun c => y3 c.code)) := by
 refine xd (by simp [zx, zD, z7]) fun D H => goF w ?_
 refine mkI [.sto [.list (cs.map fun c => y3 c.code)]] true
  ((∀ D : za → Prop, D [.list (cs.map fun c => y3 c.code)] → MKm w Gc 2 "one" (.list (.list (pvs cs))) 0 [] [.list []] D) ∧ true = true ∧ D (.loc 0) [.list (cs.map fun c => y3 c.code)]) rfl ⟨fun D hD => ?_, rfl, H _ _ (.locList (Nat.zero_le _) rfl (yk.same _ _ (yf (fun c => by cases c <;> rfl) _)))⟩
 refine yV (σ := []) (wok w) (evs w) (pvs cs) CR (by kernel_rfl) (fun v q => nomatch q) (fun i acc => rfl) (by rw [zm]; exact hn) (fun v hv acc D hd => ?_) ?_
 ·obtain ⟨c, _, rfl⟩ := List.mem_map.mp hv
  exact elt987 w c acc D hd
 ·have : (pvs cs).map CR = cs.map fun c => y3 c.code := by
   simp only [pvs, List.map_map]
   exact List.map_congr_left fun c _ => Q9 c
  rw [this]
  exact hD
end
section
theorem _root_.Mine.FzEs.same (σ : za) (n : Nat) {v : List (PV × PV)} (h : q6 v = true) : FzEs σ n v v := by
 induction v with
 | nil => exact .nil
 | cons p v ih => exact .cons (FzV.same σ n (zI h).1) (ih (zI h).2)
theorem JW {w : World} {dp : Nat} {a : Addr} {args : List PV} {σ : za} {r : PV} (N M : Nat) (B : Bool) (e : evK anT W0 N (.callV dp (.con (.ref a)) args σ fun u σ' => jn (fzG σ' σ.length M u = some r ∧ σ'.take σ.length = σ)) [] = (B, (some r = some r ∧ σ = σ))) (hB : B = true) (D : KD) (hd : D r σ) : MC w dp a args σ D := by
 refine Qc (((Yc anT (wok w) N).callV _ _ _ _ _ ⟨[], by rw [e]; exact hB, by rw [e]; exact ⟨rfl, rfl⟩⟩).mono fun u σ' c => ?_)
 obtain ⟨h1, h2⟩ := jF c
 have hs : σ' = σ ++ σ'.drop σ.length := by
  have := List.take_append_drop σ.length σ'
  rw [h2] at this
  exact this.symm
 refine ⟨σ, r, ?_, hd⟩
 have hf := BB M u r h1
 rw [hs] at hf ⊢
 exact je.keep hf
noncomputable def ES (c : UInt8) (n : Int) : Array UInt8 := (List.replicate n.toNat [c]).flatten.toArray
theorem XD (c n : Nat) (u : UInt8) (hu : u = Nat.toUInt8 c) : ES u (n : Int) = yH c n := by
 subst hu
 simp [ES, yH, u8s]
noncomputable def gBy (n : Int) : Bool := true && decide (0 ≤ n) && decide (n ≤ 1000)
theorem Bx (n : Nat) (h : n ≤ 1000) : gBy (n : Int) = true := by
 have h0 : 0 ≤ (n : Int) := by omega
 have h1 : (n : Int) ≤ 1000 := by omega
 unfold gBy
 rw [decide_eq_true h0, decide_eq_true h1]; rfl
theorem x999 (w : World) (way : BA) (k t0 t1 m0 m1 : Int) (c0 c1 : zU) (hB : (gBy t0 && (gBy t1 && (gBy k && true))) = true) (D : KD) (hd : D (Opt.mk way (ES 49 t0) (ES 50 t1) (ES 124 k) m0 m1).pv [c0, c1, .list [.int t0, .int t1], .list [.int m0, .int m1]]) :
  MC w 5 999 [.bytes way, .int k, .loc 2, .loc 3] [c0, c1, .list [.int t0, .int t1], .list [.int m0, .int m1]] D :=
 JW 400 6 (gBy t0 && (gBy t1 && (gBy k && true))) (by kernel_rfl) hB D hd
theorem e999 (w : World) (v k n0 n1 : Nat) (m0 m1 : Int) (c0 c1 : zU) (hk : k ≤ 2) (h0 : n0 ≤ 5) (h1 : n1 ≤ 5) (D : KD) (hd : D (Opt.mk (xn v) (yH 49 n0) (yH 50 n1) (yH 124 k) m0 m1).pv [c0, c1, .list [.int (n0 : Int), .int (n1 : Int)], .list [.int m0, .int m1]]) :
  MC w 5 999 [.bytes (xn v), .int (k : Int), .loc 2, .loc 3] [c0, c1, .list [.int (n0 : Int), .int (n1 : Int)], .list [.int m0, .int m1]] D := by
 rw [← XD 49 n0 49 (by decide), ← XD 50 n1 50 (by decide), ← XD 124 k 124 (by decide)] at hd
 exact x999 w _ _ _ _ _ _ _ _ (by rw [Bx n0 (by omega), Bx n1 (by omega), Bx k (by omega)]; rfl) D hd
noncomputable def Bk : Array UInt8 := #[112, 97, 110, 101, 45, 97, 99, 116, 105, 118, 101, 45, 98, 111, 114, 100, 101, 114, 45, 115, 116, 121, 108, 101]
noncomputable def Bg : Array UInt8 := #[112, 97, 110, 101, 45, 98, 111, 114, 100, 101, 114, 45, 115, 116, 121, 108, 101]
noncomputable def stB : Nat → Array UInt8
 | 0 => #[102, 103, 61, 114, 101, 100]
 | 1 => #[98, 103, 61, 99, 111, 108, 111, 117, 114, 55]
 | 2 => #[100, 101, 102, 97, 117, 108, 116]
 | _ => #[98, 111, 108, 100]
noncomputable def z6 : Nat → PV
 | 0 => .tup [.int 0, .int 1, .int (-1), .int (-1), .int 0]
 | 1 => .tup [.int 0, .int (-1), .int 7, .int (-1), .int 0]
 | 2 => .tup [.int 0, .int (-1), .int (-1), .int (-1), .int 0]
 | _ => .tup [.int 1, .int (-1), .int (-1), .int (-1), .int 0]
def y9 (a b : Nat) : List (PV × PV) := [(.bytes Bk, jL "style" "window" (.bytes (stB a)) (.tup [])), (.bytes Bg, jL "style" "window" (.bytes (stB b)) (.tup []))]
theorem penA0 (w : World) (b : Nat) : PO w 6 770 [yn (y9 0 b) "window", .bytes Bk, zq] (z6 0) := zW rfl 200 6 (by kernel_rfl)
theorem penB0 (w : World) (a : Nat) : PO w 6 770 [yn (y9 a 0) "window", .bytes Bg, zq] (z6 0) := zW rfl 200 6 (by kernel_rfl)
theorem penA1 (w : World) (b : Nat) : PO w 6 770 [yn (y9 1 b) "window", .bytes Bk, zq] (z6 1) := zW rfl 200 6 (by kernel_rfl)
theorem penB1 (w : World) (a : Nat) : PO w 6 770 [yn (y9 a 1) "window", .bytes Bg, zq] (z6 1) := zW rfl 200 6 (by kernel_rfl)
theorem penA2 (w : World) (b : Nat) : PO w 6 770 [yn (y9 2 b) "window", .bytes Bk, zq] (z6 2) := zW rfl 200 6 (by kernel_rfl)
theorem penB2 (w : World) (a : Nat) : PO w 6 770 [yn (y9 a 2) "window", .bytes Bg, zq] (z6 2) := zW rfl 200 6 (by kernel_rfl)
theorem penA3 (w : World) (b : Nat) : PO w 6 770 [yn (y9 3 b) "window", .bytes Bk, zq] (z6 3) := zW rfl 200 6 (by kernel_rfl)
theorem penB3 (w : World) (a : Nat) : PO w 6 770 [yn (y9 a 3) "window", .bytes Bg, zq] (z6 3) := zW rfl 200 6 (by kernel_rfl)
theorem penA (w : World) (a b : Nat) (h : a < 4) : PO w 6 770 [yn (y9 a b) "window", .bytes Bk, zq] (z6 a) := by
 have : a = 0 ∨ a = 1 ∨ a = 2 ∨ a = 3 := lt4 ‹a < 4›
 rcases this with rfl | rfl | rfl | rfl
 ·exact penA0 w b
 ·exact penA1 w b
 ·exact penA2 w b
 ·exact penA3 w b
theorem penB (w : World) (a b : Nat) (h : b < 4) : PO w 6 770 [yn (y9 a b) "window", .bytes Bg, zq] (z6 b) := by
 have : b = 0 ∨ b = 1 ∨ b = 2 ∨ b = 3 := lt4 ‹b < 4›
 rcases this with rfl | rfl | rfl | rfl
 ·exact penB0 w a
 ·exact penB1 w a
 ·exact penB2 w a
 ·exact penB3 w a
end
section
noncomputable def ja (p : PV) : PV := .tup [.tup [.int 9474], .int 1, p, .bool false]
theorem DK (a : Nat) : zD (z6 a) = true := by
 match a with
 | 0 => rfl
 | 1 => rfl
 | 2 => rfl
 | a + 3 => rfl
def zM (a h : Nat) : List PV := List.replicate h (ja (z6 a))
theorem Ja {p : PV} (hp : zD p = true) : ∀ h, zx (List.replicate h p) = true
 | 0 => rfl
 | h + 1 => by simp [List.replicate_succ, zx, hp, Ja hp h]
theorem xL (a h : Nat) : zx (zM a h) = true := Ja (by simp [ja, zD, zx, DK]) h
def Gd : CP := cpE (retE (stN 137 2))
noncomputable def ju (t : Bool) (a b : Nat) : Nat := match t with | true => a | false => b
theorem C9 (w : World) (p : PV) (h : Nat) (hh : h ≤ 1000) (D : za → Prop) (hD : D [.list (List.replicate h (ja p))]) : MKm w Gd 6 "row" (.rng (h : Int)) 0 [("pen", p)] [.list []] D := by
 refine yV (σ := []) (wok w) (evs w) ((List.range h).map fun i : Nat => PV.int (i : Int)) (fun _ => ja p) (by kernel_rfl) (fun v q => nomatch q) (fun i acc => ?_) (by simp; omega) (fun v hv acc D hd => goX w (mkI [] true (D (ja p) [.list acc]) rfl hd)) ?_
 ·exact qs h i _
 ·have : ((List.range h).map fun i : Nat => PV.int (i : Int)).map (fun _ => ja p) = List.replicate h (ja p) := by
   rw [List.map_map, List.eq_replicate_iff]
   simp
  rw [this]
  exact hD
theorem e892 (w : World) (a b h : Nat) (t : Bool) (ha : a < 4) (hb : b < 4) (hh : h ≤ 1000) : PO w 7 892 [.int (h : Int), yn (y9 a b) "window", .bool t] (.list (zM (ju t a b) h)) := by
 have hg : ((decide (0 ≤ (h : Int)) && decide ((h : Int) ≤ 1000)) && true) = true := by
  have h0 : 0 ≤ (h : Int) := by omega
  have h1 : (h : Int) ≤ 1000 := by omega
  rw [decide_eq_true h0, decide_eq_true h1]; rfl
 cases t with
 | true =>
  refine xd rfl fun D H => goF w ?_
  refine mkI [.bit true, .res (z6 a) [], .sto [.list (zM a h)]] true
   (CS w 6 770 [yn (y9 a b) "window", .bytes Bk, zq] [] (z6 a) ∧ ((decide (0 ≤ (h : Int)) && decide ((h : Int) ≤ 1000)) && true) = true ∧
    (∀ D : za → Prop, D [.list (zM a h)] → MKm w Gd 6 "row" (.rng (h : Int)) 0 [("pen", z6 a)] [.list []] D) ∧ true = true ∧ D (.loc 0) [.list (zM a h)]) rfl
   ⟨(penA w a b ha).gm (by decide), hg, fun D hD => C9 w (z6 a) h hh D hD, rfl, H _ _ (.locList (Nat.zero_le _) rfl (yk.same _ _ (xL a h)))⟩
 | false =>
  refine xd rfl fun D H => goF w ?_
  refine mkI [.bit false, .res (z6 b) [], .sto [.list (zM b h)]] true
   (CS w 6 770 [yn (y9 a b) "window", .bytes Bg, zq] [] (z6 b) ∧ ((decide (0 ≤ (h : Int)) && decide ((h : Int) ≤ 1000)) && true) = true ∧
    (∀ D : za → Prop, D [.list (zM b h)] → MKm w Gd 6 "row" (.rng (h : Int)) 0 [("pen", z6 b)] [.list []] D) ∧ true = true ∧ D (.loc 0) [.list (zM b h)]) rfl
   ⟨(penB w a b hb).gm (by decide), hg, fun D hD => C9 w (z6 b) h hh D hD, rfl, H _ _ (.locList (Nat.zero_le _) rfl (yk.same _ _ (xL b h)))⟩
theorem e457 (w : World) (k s : Str) (b : BA) : PO w 2 457 [.str k, .str s, .bytes b] (jL k s (.bytes b) (.tup [])) := zW rfl 40 4 (by kernel_rfl)
theorem e534 (w : World) (a b : Nat) : PO w 2 534 [.dict (y9 a b), .str "window"] (yn (y9 a b) "window") := zW rfl 40 5 (by kernel_rfl)
noncomputable def stpB : Expr → Bool
 | .Dict (_ :: _) _ _ => true
 | .BinOp _ .Mult _ _ => true
 | .ListComp .. => true
 | _ => false
def qE : FP := fpS (stN 151 3)
def b992 (i : Nat) : Stmt := qE.body.getD i (.Pass default)
noncomputable def CO : Stmt → Expr
 | .If t _ _ _ => t
 | _ => .Constant .none 0 default
def tabX : Expr := Qn (stN 151 1)
def dueX : Expr := Qn (b992 0)
def Gi : Expr := (opsE (CO (b992 1))).1
def cp992 : CP := cpE Gi
def stV (a : Nat) : PV := .tup [.bytes (stB a), z6 a]
def stys : List PV := [stV 0, stV 1, stV 2, stV 3]
theorem AT (σ : za) (a : Nat) (h : a < 4) : yI σ (.tup stys) (.int (a : Int)) = some (stV a) := by
 have : a = 0 ∨ a = 1 ∨ a = 2 ∨ a = 3 := lt4 ‹a < 4›
 rcases this with rfl | rfl | rfl | rfl <;> rfl
noncomputable def jq (a b h : Nat) (tl : zc) : zc := ("deck", .loc 1) :: ("height", .int (h : Int)) :: ("mate", .int (b : Int)) :: ("one", .int (a : Int)) :: tl
section
variable {w : World} {c0 c1 c2 c3 : zU} {D : KD}
theorem q_tab (a b h : Nat) (ha : a < 4) (hb : b < 4) (hd : D (.dict (y9 a b)) [c0, c1, c2, c3]) : ME w (frN 151 9) tabX (jq a b h xR) [c0, c1, c2, c3] D := by
 refine yC (τ := [.dict (y9 a b)]) (u := .loc 4) (fun D' h' => goX w ?_) (.locDict (Nat.le_refl _) rfl (FzEs.same _ _ rfl)) hd
 refine mkI [.val (stV a), .res (jL "style" "window" (.bytes (stB a)) (.tup [])) [c0, c1, c2, c3, .dict []], .val (stV b), .res (jL "style" "window" (.bytes (stB b)) (.tup [])) [c0, c1, c2, c3, .dict []]] true
  (yI [c0, c1, c2, c3, .dict []] (.tup stys) (.int (a : Int)) = some (stV a) ∧
   CS w 9 457 [.str "style", .str "window", .bytes (stB a)] [c0, c1, c2, c3, .dict []] (jL "style" "window" (.bytes (stB a)) (.tup [])) ∧ true = true ∧
   yI [c0, c1, c2, c3, .dict []] (.tup stys) (.int (b : Int)) = some (stV b) ∧
   CS w 9 457 [.str "style", .str "window", .bytes (stB b)] [c0, c1, c2, c3, .dict []] (jL "style" "window" (.bytes (stB b)) (.tup [])) ∧ true = true ∧
   D' (.loc 4) [c0, c1, c2, c3, .dict (y9 a b)]) rfl
  ⟨AT _ a ha, (e457 w _ _ _).gm (by decide), rfl, AT _ b hb, (e457 w _ _ _).gm (by decide), rfl, h'⟩
def btl (a b : Nat) (tl : zc) : zc := ("table", .dict (y9 a b)) :: ("options", yn (y9 a b) "window") :: tl
noncomputable def itl (t p : PV) (tl : zc) : zc := ("is_here", t) :: ("pick", p) :: tl
noncomputable def Jo (d : PV) : zc := [("due", d)]
theorem q_due (a b h p : Nat) (t : PV) (tl : zc) (hp : p < 4) (hh : h ≤ 1000) (hd : D (.list (zM p h)) [c0, c1, c2, c3]) : ME w (frN 151 9) dueX (jq a b h (btl a b (itl t (.int (p : Int)) tl))) [c0, c1, c2, c3] D := by
 refine yC (τ := [.list [ja (z6 p)]]) (u := .list (List.replicate (h : Int).toNat [ja (z6 p)]).flatten) (fun D' h' => goX w ?_) ?_ hd
 ·refine mkI [.val (stV p)] (gI (h : Int) && true) (yI [c0, c1, c2, c3] (.tup stys) (.int (p : Int)) = some (stV p) ∧ D' (.list (List.replicate (h : Int).toNat [ja (z6 p)]).flatten) [c0, c1, c2, c3, .list [ja (z6 p)]]) ?_ ⟨AT _ p hp, h'⟩
  have h0 : 0 ≤ (h : Int) := by omega
  have h1 : (h : Int) ≤ 1000 := by omega
  unfold gI
  rw [decide_eq_true h0, decide_eq_true h1]; rfl
 ·have : (List.replicate (h : Int).toNat [ja (z6 p)]).flatten = zM p h := by simp [zM]
  rw [this]
  exact .same _ _ (by simp only [zD, xL])
theorem q_cmp (a b h : Nat) (t : Bool) (p : PV) (due : PV) (ha : a < 4) (hb : b < 4) (hh : h ≤ 1000) (hd : D (.list (zM (ju t a b) h)) [c0, c1, c2, c3]) : ME w (frN 151 9) Gi (jq a b h (btl a b (itl (.bool t) p (Jo due)))) [c0, c1, c2, c3] D := by
 refine yC (τ := [.list (zM (ju t a b) h)]) (u := .loc 4) (fun D' h' => goX w ?_) (.locList (Nat.le_refl _) rfl (yk.same _ _ (xL _ h))) hd
 refine mkI [.res (.list (zM (ju t a b) h)) [c0, c1, c2, c3], .sto [c0, c1, c2, c3, .list (zM (ju t a b) h)]] true
  (CS w 9 892 [.int (h : Int), yn (y9 a b) "window", .bool t] [c0, c1, c2, c3] (.list (zM (ju t a b) h)) ∧ true = true ∧
   (∀ D : za → Prop, D [c0, c1, c2, c3, .list (zM (ju t a b) h)] → MKm w cp992 9 "one_cell" (.list (.list (zM (ju t a b) h))) 4 [] [c0, c1, c2, c3, .list []] D) ∧ true = true ∧
   D' (.loc 4) [c0, c1, c2, c3, .list (zM (ju t a b) h)]) rfl
  ⟨(e892 w a b h t ha hb hh).gm (by decide), rfl, fun D hD => ?_, rfl, h'⟩
 refine yV (σ := [c0, c1, c2, c3]) (wok w) (evs w) (zM (ju t a b) h) id (by kernel_rfl) (fun v q => nomatch q) (fun i acc => rfl) (by simp [zM]; omega) (fun v hv acc D hd => ?_) (by rw [List.map_id]; exact hD)
 obtain rfl : v = ja (z6 (ju t a b)) := (List.mem_replicate.mp hv).2
 exact goX w (mkI [] true (D (ja (z6 (ju t a b))) [c0, c1, c2, c3, .list acc]) rfl hd)
end
theorem XG (a : Nat) : peq (ja (z6 a)) (ja (z6 a)) = some true := by
 match a with
 | 0 => rfl
 | 1 => rfl
 | 2 => rfl
 | a + 3 => rfl
theorem dep_pen (a : Nat) : dep (ja (z6 a)) = 2 := by
 match a with
 | 0 => rfl
 | 1 => rfl
 | 2 => rfl
 | a + 3 => rfl
theorem DF {vs : List PV} (h : ∀ v ∈ vs, peq v v = some true) : qt vs vs = some true := by
 induction vs with
 | nil => rfl
 | cons v r ih =>
  show ((peq v v).bind fun a => (qt r r).bind fun b => some (a && b)) = _
  rw [h v (.head _), ih fun u hu => h u (.tail _ hu)]
  rfl
theorem XI {σ : za} {vs : List PV} (h : ∀ v ∈ vs, peq v v = some true) (hd : ∀ v ∈ vs, dep v ≤ 20) : z0 σ .NotEq (.list vs) (.list vs) = some false := by
 have hb : Nat.ble (j5 vs) 20 = true := Nat.ble_eq.mpr (YJ hd)
 show (bOf (Nat.ble (j5 vs) 20) (qt vs vs)).bind _ = _
 rw [hb, DF h]
 rfl
theorem B2 (w : World) (dk : zN) (x y : zU) (a b h p : Nat) (t : Bool) (ha : a < 4) (hb : b < 4) (hh : h ≤ 1000) (hp : p = ju t a b) (tl : zc) (htl : tl = xR ∨ ∃ t' p' d', tl = itl t' p' (Jo d')) (G : KF) (hG : G .next (jq a b h (btl a b (itl (.bool t) (.int (p : Int)) (Jo (.list (zM p h)))))) (dk.σ [x, y])) :
  TI (asg anT W0 (fun e ρ σ C => ET w stpB 100 (.ex (frN 151 9) e ρ σ C)) (frN 151 9) 2 qE.tgt (.tup [.bool t, .int (p : Int)]) (jq a b h (btl a b tl)) (dk.σ [x, y]) fun ρ1 σ1 => ET w stpB 100 (.sts (frN 151 9) qE.body ρ1 σ1 fun fl ρ2 σ2 => jn (G fl ρ2 σ2))) := by
 have hp4 : p < 4 := by subst hp; cases t <;> assumption
 have hd : ∀ tl (D : KD), D (.list (zM p h)) (dk.σ [x, y]) → ME w (frN 151 9) dueX (jq a b h (btl a b (itl (.bool t) (.int (p : Int)) tl))) (dk.σ [x, y]) D := fun tl D hd => q_due a b h p (.bool t) tl hp4 hh hd
 have hc : ∀ d (D : KD), D (.list (zM p h)) (dk.σ [x, y]) → ME w (frN 151 9) Gi (jq a b h (btl a b (itl (.bool t) (.int (p : Int)) (Jo d)))) (dk.σ [x, y]) D := by
  rw [hp]
  exact fun d D hd => q_cmp a b h t (.int ((ju t a b : Nat) : Int)) d ha hb hh hd
 have hne : z0 (dk.σ [x, y]) .NotEq (.list (zM p h)) (.list (zM p h)) = some false := XI (fun v hv => by rw [(List.mem_replicate.mp hv).2]; exact XG p) (fun v hv => by rw [(List.mem_replicate.mp hv).2, dep_pen]; decide)
 generalize zM p h = bs at *
 rcases htl with rfl | ⟨t', p', d', rfl⟩
 ·exact mkI [.res (.list bs) (dk.σ [x, y]), .res (.list bs) (dk.σ [x, y]), .bit false] true
   (CE w (frN 151 9) dueX (jq a b h (btl a b (itl (.bool t) (.int (p : Int)) xR))) (dk.σ [x, y]) (.list bs) ∧ true = true ∧
    CE w (frN 151 9) Gi (jq a b h (btl a b (itl (.bool t) (.int (p : Int)) (Jo (.list bs))))) (dk.σ [x, y]) (.list bs) ∧ (zh (z0 (dk.σ [x, y]) .NotEq (.list bs) (.list bs)) false && true) = true ∧
    G .next (jq a b h (btl a b (itl (.bool t) (.int (p : Int)) (Jo (.list bs))))) (dk.σ [x, y])) rfl ⟨hd _, rfl, hc _, by rw [hne]; rfl, hG⟩
 ·exact mkI [.res (.list bs) (dk.σ [x, y]), .res (.list bs) (dk.σ [x, y]), .bit false] true
   (CE w (frN 151 9) dueX (jq a b h (btl a b (itl (.bool t) (.int (p : Int)) (Jo d')))) (dk.σ [x, y]) (.list bs) ∧ true = true ∧
    CE w (frN 151 9) Gi (jq a b h (btl a b (itl (.bool t) (.int (p : Int)) (Jo (.list bs))))) (dk.σ [x, y]) (.list bs) ∧ (zh (z0 (dk.σ [x, y]) .NotEq (.list bs) (.list bs)) false && true) = true ∧
    G .next (jq a b h (btl a b (itl (.bool t) (.int (p : Int)) (Jo (.list bs))))) (dk.σ [x, y])) rfl ⟨hd _, rfl, hc _, by rw [hne]; rfl, hG⟩
def bAt (a b h : Nat) : Nat → zc
 | 0 => xR
 | 1 => itl (.bool true) (.int (a : Int)) (Jo (.list (zM a h)))
 | _ => itl (.bool false) (.int (b : Int)) (Jo (.list (zM b h)))
theorem loop992 (w : World) (dk : zN) (x y : zU) (a b h : Nat) (ha : a < 4) (hb : b < 4) (hh : h ≤ 1000) (D : KF) (hD : D .next (jq a b h (btl a b (bAt a b h 2))) (dk.σ [x, y])) :
  yJ pr w (Hf w.params) yF (frN 151 9) qE.tgt (.tup [.tup [.bool true, .int (a : Int)], .tup [.bool false, .int (b : Int)]]) 0 qE.body qE.els (jq a b h (btl a b xR)) (dk.σ [x, y]) D := by
 refine jQ (wok w) (evsS w stpB) [.tup [.bool true, .int (a : Int)], .tup [.bool false, .int (b : Int)]] (fun i ρ σ => i ≤ 2 ∧ ρ = jq a b h (btl a b (bAt a b h i)) ∧ σ = dk.σ [x, y]) (fun i ρ σ hi hI => rfl) rfl (fun i v ρ σ hv hI => ?_) (fun ρ σ hI => ?_) ⟨Nat.zero_le _, rfl, rfl⟩
 ·obtain ⟨_, rfl, rfl⟩ := hI
  match i, hv with
  | 0, hv =>
   cases hv
   exact B2 w dk x y a b h a true ha hb hh rfl _ (.inl rfl) (qz (fun ρ σ => 0 < 2 ∧ 0 + 1 ≤ 2 ∧ ρ = jq a b h (btl a b (bAt a b h (0 + 1))) ∧ σ = dk.σ [x, y]) D) ⟨by decide, by decide, rfl, rfl⟩
  | 1, hv =>
   cases hv
   exact B2 w dk x y a b h b false ha hb hh rfl _ (.inr ⟨_, _, _, rfl⟩) (qz (fun ρ σ => 1 < 2 ∧ 1 + 1 ≤ 2 ∧ ρ = jq a b h (btl a b (bAt a b h (1 + 1))) ∧ σ = dk.σ [x, y]) D) ⟨by decide, by decide, rfl, rfl⟩
 ·obtain ⟨_, rfl, rfl⟩ := hI
  exact mkI [] true (D .next (jq a b h (btl a b (bAt a b h 2))) (dk.σ [x, y])) rfl hD
theorem e992 (w : World) (dk : zN) (hdk : dk.Ok) (x y : zU) (D : KD) (hd : D (.bool true) (dk.nx.nx.nx.σ [x, y])) : MC w 10 992 [.loc 1] (dk.σ [x, y]) D := by
 have d1 : ∀ (dk : zN), dk.Ok → ∀ (m : Int), 0 < m → ∀ (D : KD), D (.int (dk.dv m)) (dk.nx.σ [x, y]) → MC w 9 963 [.loc 1, .int m] (dk.σ [x, y]) D := fun dk h m hm D hd => qw (e963 w dk [x, y] m h hm D hd) (by decide)
 obtain ⟨a, ha⟩ := Int.eq_ofNat_of_zero_le (dk.dv_lo (many := 4) (by decide))
 obtain ⟨b, hb⟩ := Int.eq_ofNat_of_zero_le (dk.nx.dv_lo (many := 4) (by decide))
 obtain ⟨h, hh⟩ := Int.eq_ofNat_of_zero_le (dk.nx.nx.dv_lo (many := 5) (by decide))
 have la := dk.dv_hi (many := 4) (by decide)
 have lb := dk.nx.dv_hi (many := 4) (by decide)
 have lh := dk.nx.nx.dv_hi (many := 5) (by decide)
 rw [ha] at la
 rw [hb] at lb
 rw [hh] at lh
 have s1 := d1 dk hdk 4 (by decide)
 have s2 := d1 dk.nx hdk.nx 4 (by decide)
 have s3 := d1 dk.nx.nx hdk.nx.nx 5 (by decide)
 rw [ha] at s1
 rw [hb] at s2
 rw [hh] at s3
 refine Br w stpB ?_
 exact mkI [.res (.int (a : Int)) (dk.nx.σ [x, y]), .res (.int (b : Int)) (dk.nx.nx.σ [x, y]), .res (.int (h : Int)) (dk.nx.nx.nx.σ [x, y]), .res (.dict (y9 a b)) (dk.nx.nx.nx.σ [x, y]), .res (yn (y9 a b) "window") (dk.nx.nx.nx.σ [x, y]), .loop .next (jq a b h (btl a b (bAt a b h 2))) (dk.nx.nx.nx.σ [x, y])] true
  ((∀ D : KD, D (.int (a : Int)) (dk.nx.σ [x, y]) → MC w 9 963 [.loc 1, .int 4] (dk.σ [x, y]) D) ∧ true = true ∧
   (∀ D : KD, D (.int (b : Int)) (dk.nx.nx.σ [x, y]) → MC w 9 963 [.loc 1, .int 4] (dk.nx.σ [x, y]) D) ∧ true = true ∧
   (∀ D : KD, D (.int (h : Int)) (dk.nx.nx.nx.σ [x, y]) → MC w 9 963 [.loc 1, .int 5] (dk.nx.nx.σ [x, y]) D) ∧ true = true ∧
   CE w (frN 151 9) tabX (jq a b h xR) (dk.nx.nx.nx.σ [x, y]) (.dict (y9 a b)) ∧ true = true ∧
   CS w 9 534 [.dict (y9 a b), .str "window"] (dk.nx.nx.nx.σ [x, y]) (yn (y9 a b) "window") ∧ true = true ∧
   (∀ D : KF, D .next (jq a b h (btl a b (bAt a b h 2))) (dk.nx.nx.nx.σ [x, y]) → yJ pr w (Hf w.params) yF (frN 151 9) qE.tgt (.tup [.tup [.bool true, .int (a : Int)], .tup [.bool false, .int (b : Int)]]) 0 qE.body qE.els (jq a b h (btl a b xR)) (dk.nx.nx.nx.σ [x, y]) D) ∧ true = true ∧
   D (.bool true) (dk.nx.nx.nx.σ [x, y])) rfl
  ⟨s1, rfl, s2, rfl, s3, rfl, fun D hd => q_tab a b h (by omega) (by omega) hd, rfl, (e534 w a b).gm (by decide), rfl, fun D hD => loop992 w _ x y a b h (by omega) (by omega) (by omega) D hD, rfl, hd⟩
end
section
def stpW : Expr → Bool
 | .ListComp .. => true
 | .Dict [] [] _ => true
 | .Call (.Name x _) _ _ _ => sq x "WidthTable" || sq x "list"
 | _ => false
def GD (e : Expr) (i : Nat) : Expr := match e with
 | .Call _ as _ _ => as.getD i (.Constant .none 0 default)
 | .BoolOp _ es _ => es.getD i (.Constant .none 0 default)
 | _ => .Constant .none 0 default
def Xz : Expr := GD (Qn (stN 153 8)) 3
def F4 : Expr := GD (Qn (stN 153 9)) 0
def AS : Expr := GD (Qn (stN 153 9)) 5
def B9 : Expr := (opsE (CO (stN 153 10))).1
def ownX : Expr := (opsE (CO (stN 153 10))).2
def EH : Expr := Qn (stN 153 11)
def Gh : Expr := (opsE (GD (GD (CO (stN 153 12)) 1) 1)).2
def jM (xs : List Int) (many : Int) (cur : PV) (way : BA) (k W : Int) (wins cols : List PV) (opts : PV) (tl : zc) : zc := ("script", .list (ivs xs)) :: ("deck", .loc 1) :: ("many", .int many) :: ("current", cur) :: ("way", .bytes way) :: ("between", .int k) :: ("texts", .loc 2) :: ("mosts", .loc 3) :: ("width", .int W) :: ("windows", .list wins) :: ("columns", .list cols) :: ("options", opts) :: tl
def lt2 (rows : List PV) (hr : Bool) (tl : zc) : zc := ("row", .list rows) :: ("has_room", .bool hr) :: tl
def lt3 (plan : PV) (tl : zc) : zc := ("plan", plan) :: tl
def ltq (told : List PV) : zc := [("told", .list told)]
def Rl (t0 t1 m0 m1 : Int) : za := [.list [.int t0, .int t1], .list [.int (5 - m0), .int (5 - m1)]]
def Rt (t0 t1 : Int) : za := [.list [.int t0, .int t1]]
abbrev lfr : Fr0 := frN 153 19
def LawT (w : World) (xs : List Int) (d2 : zN) (many : Int) (cur : PV) (D : KD) : Prop := ∀ (d3 d4 d5 d6 d7 d8 d9 da db : zN) (k v t0 t1 m0 m1 W s0 s1 : Int) (way : BA) (wins cols rows told A B E F : List PV) (opts plan : PV),
 (∀ D : KD, D (.int k) (d3.σ []) → MC w 19 963 [.loc 1, .int 3] (d2.σ []) D) →
 (∀ D : KD, D (.int v) (d4.σ []) → MC w 19 963 [.loc 1, .int 4] (d3.σ []) D) →
 yI (d4.σ []) Xq (.int v) = some (.bytes way) →
 (∀ D : KD, D (.int t0) (d5.σ []) → MC w 19 963 [.loc 1, .int 6] (d4.σ []) D) →
 (∀ D : KD, D (.int t1) (d6.σ []) → MC w 19 963 [.loc 1, .int 6] (d5.σ []) D) →
 (∀ D : KD, D (.int m0) (d7.σ (Rt t0 t1)) → MC w 19 963 [.loc 1, .int 6] (d6.σ (Rt t0 t1)) D) →
 (∀ D : KD, D (.int m1) (d8.σ (Rt t0 t1)) → MC w 19 963 [.loc 1, .int 6] (d7.σ (Rt t0 t1)) D) →
 (∀ D : KD, D (.int W) (d9.σ (Rl t0 t1 m0 m1)) → MC w 19 963 [.loc 1, .int 25] (d8.σ (Rl t0 t1 m0 m1)) D) →
 (∀ D : KD, D (.tup [.list wins, .list cols]) (da.σ (Rl t0 t1 m0 m1)) → MC w 19 970 [.loc 1, .int many, cur, .int k] (d9.σ (Rl t0 t1 m0 m1)) D) →
 CS w 19 999 [.bytes way, .int k, .loc 2, .loc 3] (da.σ (Rl t0 t1 m0 m1)) opts →
 CE w lfr Xz (jM xs many cur way k W wins cols opts []) (da.σ (Rl t0 t1 m0 m1)) (.list [.int s0, .int s1]) →
 CS w 19 982 [.list cols, cur, .bytes way, .list [.int s0, .int s1], .int W] (da.σ (Rl t0 t1 m0 m1)) (.tup [.list rows, .bool true]) →
 CE w lfr F4 (jM xs many cur way k W wins cols opts (lt2 rows true [])) (da.σ (Rl t0 t1 m0 m1)) (.dict []) →
 CE w lfr AS (jM xs many cur way k W wins cols opts (lt2 rows true [])) (da.σ (Rl t0 t1 m0 m1)) zX →
 CS w 19 876 [.dict [], .list wins, cur, opts, .int W, zX] (da.σ (Rl t0 t1 m0 m1)) plan →
 CE w lfr B9 (jM xs many cur way k W wins cols opts (lt2 rows true (lt3 plan []))) (da.σ (Rl t0 t1 m0 m1)) (.list A) →
 CE w lfr ownX (jM xs many cur way k W wins cols opts (lt2 rows true (lt3 plan []))) (da.σ (Rl t0 t1 m0 m1)) (.list B) →
 zh (z0 (da.σ (Rl t0 t1 m0 m1)) .NotEq (.list A) (.list B)) false = true →
 CE w lfr EH (jM xs many cur way k W wins cols opts (lt2 rows true (lt3 plan []))) (da.σ (Rl t0 t1 m0 m1)) (.list told) →
 told.length.ble 1000000 = true →
 zh (some (!(((told.length : Nat) : Int) == W))) false = true →
 CS w 19 987 [.list told] (da.σ (Rl t0 t1 m0 m1)) (.list E) →
 CE w lfr Gh (jM xs many cur way k W wins cols opts (lt2 rows true (lt3 plan (ltq told)))) (da.σ (Rl t0 t1 m0 m1)) (.list F) →
 zh (z0 (da.σ (Rl t0 t1 m0 m1)) .NotEq (.list E) (.list F)) false = true →
 (∀ D : KD, D (.bool true) (db.σ (Rl t0 t1 m0 m1)) → MC w 19 992 [.loc 1] (da.σ (Rl t0 t1 m0 m1)) D) →
 D (.bool true) (db.σ (Rl t0 t1 m0 m1)) → MC w 20 1004 [.list (ivs xs)] [] D
def LawF (w : World) (xs : List Int) (d2 : zN) (many : Int) (cur : PV) (D : KD) : Prop := ∀ (d3 d4 d5 d6 d7 d8 d9 da db : zN) (k v t0 t1 m0 m1 W s0 s1 : Int) (way : BA) (wins cols rows told A B : List PV) (opts plan : PV),
 (∀ D : KD, D (.int k) (d3.σ []) → MC w 19 963 [.loc 1, .int 3] (d2.σ []) D) →
 (∀ D : KD, D (.int v) (d4.σ []) → MC w 19 963 [.loc 1, .int 4] (d3.σ []) D) →
 yI (d4.σ []) Xq (.int v) = some (.bytes way) →
 (∀ D : KD, D (.int t0) (d5.σ []) → MC w 19 963 [.loc 1, .int 6] (d4.σ []) D) →
 (∀ D : KD, D (.int t1) (d6.σ []) → MC w 19 963 [.loc 1, .int 6] (d5.σ []) D) →
 (∀ D : KD, D (.int m0) (d7.σ (Rt t0 t1)) → MC w 19 963 [.loc 1, .int 6] (d6.σ (Rt t0 t1)) D) →
 (∀ D : KD, D (.int m1) (d8.σ (Rt t0 t1)) → MC w 19 963 [.loc 1, .int 6] (d7.σ (Rt t0 t1)) D) →
 (∀ D : KD, D (.int W) (d9.σ (Rl t0 t1 m0 m1)) → MC w 19 963 [.loc 1, .int 25] (d8.σ (Rl t0 t1 m0 m1)) D) →
 (∀ D : KD, D (.tup [.list wins, .list cols]) (da.σ (Rl t0 t1 m0 m1)) → MC w 19 970 [.loc 1, .int many, cur, .int k] (d9.σ (Rl t0 t1 m0 m1)) D) →
 CS w 19 999 [.bytes way, .int k, .loc 2, .loc 3] (da.σ (Rl t0 t1 m0 m1)) opts →
 CE w lfr Xz (jM xs many cur way k W wins cols opts []) (da.σ (Rl t0 t1 m0 m1)) (.list [.int s0, .int s1]) →
 CS w 19 982 [.list cols, cur, .bytes way, .list [.int s0, .int s1], .int W] (da.σ (Rl t0 t1 m0 m1)) (.tup [.list rows, .bool false]) →
 CE w lfr F4 (jM xs many cur way k W wins cols opts (lt2 rows false [])) (da.σ (Rl t0 t1 m0 m1)) (.dict []) →
 CE w lfr AS (jM xs many cur way k W wins cols opts (lt2 rows false [])) (da.σ (Rl t0 t1 m0 m1)) zX →
 CS w 19 876 [.dict [], .list wins, cur, opts, .int W, zX] (da.σ (Rl t0 t1 m0 m1)) plan →
 CE w lfr B9 (jM xs many cur way k W wins cols opts (lt2 rows false (lt3 plan []))) (da.σ (Rl t0 t1 m0 m1)) (.list A) →
 CE w lfr ownX (jM xs many cur way k W wins cols opts (lt2 rows false (lt3 plan []))) (da.σ (Rl t0 t1 m0 m1)) (.list B) →
 zh (z0 (da.σ (Rl t0 t1 m0 m1)) .NotEq (.list A) (.list B)) false = true →
 CE w lfr EH (jM xs many cur way k W wins cols opts (lt2 rows false (lt3 plan []))) (da.σ (Rl t0 t1 m0 m1)) (.list told) →
 told.length.ble 1000000 = true →
 zh (some (!(((told.length : Nat) : Int) == W))) false = true →
 (∀ D : KD, D (.bool true) (db.σ (Rl t0 t1 m0 m1)) → MC w 19 992 [.loc 1] (da.σ (Rl t0 t1 m0 m1)) D) →
 D (.bool true) (db.σ (Rl t0 t1 m0 m1)) → MC w 20 1004 [.list (ivs xs)] [] D
theorem lawT_s (w : World) (xs : List Int) (d0 d1 d2 : zN) (many : Int) (cur : PV) (D : KD) (h1 : (∀ D : KD, D (.loc 1) (d0.σ []) → MC w 19 956 [.list (ivs xs)] [] D)) (h2 : (∀ D : KD, D (.int many) (d1.σ []) → MC w 19 963 [.loc 1, .int 5] (d0.σ []) D)) (h3 : zh (some (decide (0 < many))) true = true) (h4 : (∀ D : KD, D cur (d2.σ []) → MC w 19 963 [.loc 1, .int many] (d1.σ []) D)) : LawT w xs d2 many cur D := by
 intro d3 d4 d5 d6 d7 d8 d9 da db k v t0 t1 m0 m1 W s0 s1 way wins cols rows told A B E F opts plan h5 h6 h7 h8 h9 h10 h11 h12 h13 h14 h15 h16 h17 h18 h19 h20 h21 h22 h23 h24 h25 h26 h27 h28 h29 hd
 exact Br w stpW (mkI [.res (.loc 1) (d0.σ []), .res (.int many) (d1.σ []), .bit true, .res cur (d2.σ []), .res (.int k) (d3.σ []), .res (.int v) (d4.σ []), .val (.bytes way), .res (.int t0) (d5.σ []), .res (.int t1) (d6.σ []), .res (.int m0) (d7.σ (Rt t0 t1)), .res (.int m1) (d8.σ (Rt t0 t1)), .res (.int W) (d9.σ (Rl t0 t1 m0 m1)), .res (.tup [.list wins, .list cols]) (da.σ (Rl t0 t1 m0 m1)), .res opts (da.σ (Rl t0 t1 m0 m1)), .res (.list [.int s0, .int s1]) (da.σ (Rl t0 t1 m0 m1)), .res (.tup [.list rows, .bool true]) (da.σ (Rl t0 t1 m0 m1)), .res (.dict []) (da.σ (Rl t0 t1 m0 m1)), .res zX (da.σ (Rl t0 t1 m0 m1)), .res plan (da.σ (Rl t0 t1 m0 m1)), .res (.list A) (da.σ (Rl t0 t1 m0 m1)), .res (.list B) (da.σ (Rl t0 t1 m0 m1)), .bit false, .res (.list told) (da.σ (Rl t0 t1 m0 m1)), .bit false, .bit true, .res (.list E) (da.σ (Rl t0 t1 m0 m1)), .res (.list F) (da.σ (Rl t0 t1 m0 m1)), .bit false, .res (.bool true) (db.σ (Rl t0 t1 m0 m1))] true
  (type_of% h1 ∧ true = true ∧ type_of% h2 ∧ (zh (some (decide (0 < many))) true && true) = true ∧ type_of% h4 ∧ true = true ∧ type_of% h5 ∧ true = true ∧ type_of% h6 ∧ true = true ∧ type_of% h7 ∧ type_of% h8 ∧ true = true ∧ type_of% h9 ∧ true = true ∧ type_of% h10 ∧ true = true ∧ type_of% h11 ∧ true = true ∧ type_of% h12 ∧ true = true ∧ type_of% h13 ∧ true = true ∧ type_of% h14 ∧ true = true ∧ type_of% h15 ∧ true = true ∧ type_of% h16 ∧ true = true ∧ type_of% h17 ∧ true = true ∧ type_of% h18 ∧ true = true ∧ type_of% h19 ∧ true = true ∧ type_of% h20 ∧ true = true ∧ type_of% h21 ∧ (zh (z0 (da.σ (Rl t0 t1 m0 m1)) .NotEq (.list A) (.list B)) false && true) = true ∧ type_of% h23 ∧ (told.length.ble 1000000 && (zh (some (!(((told.length : Nat) : Int) == W))) false && true)) = true ∧ type_of% h26 ∧ true = true ∧ type_of% h27 ∧ (zh (z0 (da.σ (Rl t0 t1 m0 m1)) .NotEq (.list E) (.list F)) false && true) = true ∧ type_of% h29 ∧ true = true ∧ type_of% hd) (rfl)
  ⟨h1, rfl, h2, by rw [h3]; rfl, h4, rfl, h5, rfl, h6, rfl, h7, h8, rfl, h9, rfl, h10, rfl, h11, rfl, h12, rfl, h13, rfl, h14, rfl, h15, rfl, h16, rfl, h17, rfl, h18, rfl, h19, rfl, h20, rfl, h21, by rw [h22]; rfl, h23, by rw [h24, h25]; rfl, h26, rfl, h27, by rw [h28]; rfl, h29, rfl, hd⟩)
theorem lawF_s (w : World) (xs : List Int) (d0 d1 d2 : zN) (many : Int) (cur : PV) (D : KD) (h1 : (∀ D : KD, D (.loc 1) (d0.σ []) → MC w 19 956 [.list (ivs xs)] [] D)) (h2 : (∀ D : KD, D (.int many) (d1.σ []) → MC w 19 963 [.loc 1, .int 5] (d0.σ []) D)) (h3 : zh (some (decide (0 < many))) true = true) (h4 : (∀ D : KD, D cur (d2.σ []) → MC w 19 963 [.loc 1, .int many] (d1.σ []) D)) : LawF w xs d2 many cur D := by
 intro d3 d4 d5 d6 d7 d8 d9 da db k v t0 t1 m0 m1 W s0 s1 way wins cols rows told A B opts plan h5 h6 h7 h8 h9 h10 h11 h12 h13 h14 h15 h16 h17 h18 h19 h20 h21 h22 h23 h24 h25 h26 hd
 exact Br w stpW (mkI [.res (.loc 1) (d0.σ []), .res (.int many) (d1.σ []), .bit true, .res cur (d2.σ []), .res (.int k) (d3.σ []), .res (.int v) (d4.σ []), .val (.bytes way), .res (.int t0) (d5.σ []), .res (.int t1) (d6.σ []), .res (.int m0) (d7.σ (Rt t0 t1)), .res (.int m1) (d8.σ (Rt t0 t1)), .res (.int W) (d9.σ (Rl t0 t1 m0 m1)), .res (.tup [.list wins, .list cols]) (da.σ (Rl t0 t1 m0 m1)), .res opts (da.σ (Rl t0 t1 m0 m1)), .res (.list [.int s0, .int s1]) (da.σ (Rl t0 t1 m0 m1)), .res (.tup [.list rows, .bool false]) (da.σ (Rl t0 t1 m0 m1)), .res (.dict []) (da.σ (Rl t0 t1 m0 m1)), .res zX (da.σ (Rl t0 t1 m0 m1)), .res plan (da.σ (Rl t0 t1 m0 m1)), .res (.list A) (da.σ (Rl t0 t1 m0 m1)), .res (.list B) (da.σ (Rl t0 t1 m0 m1)), .bit false, .res (.list told) (da.σ (Rl t0 t1 m0 m1)), .bit false, .bit false, .res (.bool true) (db.σ (Rl t0 t1 m0 m1))] true
  (type_of% h1 ∧ true = true ∧ type_of% h2 ∧ (zh (some (decide (0 < many))) true && true) = true ∧ type_of% h4 ∧ true = true ∧ type_of% h5 ∧ true = true ∧ type_of% h6 ∧ true = true ∧ type_of% h7 ∧ type_of% h8 ∧ true = true ∧ type_of% h9 ∧ true = true ∧ type_of% h10 ∧ true = true ∧ type_of% h11 ∧ true = true ∧ type_of% h12 ∧ true = true ∧ type_of% h13 ∧ true = true ∧ type_of% h14 ∧ true = true ∧ type_of% h15 ∧ true = true ∧ type_of% h16 ∧ true = true ∧ type_of% h17 ∧ true = true ∧ type_of% h18 ∧ true = true ∧ type_of% h19 ∧ true = true ∧ type_of% h20 ∧ true = true ∧ type_of% h21 ∧ (zh (z0 (da.σ (Rl t0 t1 m0 m1)) .NotEq (.list A) (.list B)) false && true) = true ∧ type_of% h23 ∧ (told.length.ble 1000000 && (zh (some (!(((told.length : Nat) : Int) == W))) false && true)) = true ∧ type_of% h26 ∧ true = true ∧ type_of% hd) (rfl)
  ⟨h1, rfl, h2, by rw [h3]; rfl, h4, rfl, h5, rfl, h6, rfl, h7, h8, rfl, h9, rfl, h10, rfl, h11, rfl, h12, rfl, h13, rfl, h14, rfl, h15, rfl, h16, rfl, h17, rfl, h18, rfl, h19, rfl, h20, rfl, h21, by rw [h22]; rfl, h23, by rw [h24, h25]; rfl, h26, rfl, hd⟩)
theorem lawT_z (w : World) (xs : List Int) (d0 d1 : zN) (many : Int) (D : KD) (h1 : (∀ D : KD, D (.loc 1) (d0.σ []) → MC w 19 956 [.list (ivs xs)] [] D)) (h2 : (∀ D : KD, D (.int many) (d1.σ []) → MC w 19 963 [.loc 1, .int 5] (d0.σ []) D)) (h3 : zh (some (decide (0 < many))) false = true) : LawT w xs d1 many .none D := by
 intro d3 d4 d5 d6 d7 d8 d9 da db k v t0 t1 m0 m1 W s0 s1 way wins cols rows told A B E F opts plan h4 h5 h6 h7 h8 h9 h10 h11 h12 h13 h14 h15 h16 h17 h18 h19 h20 h21 h22 h23 h24 h25 h26 h27 h28 hd
 exact Br w stpW (mkI [.res (.loc 1) (d0.σ []), .res (.int many) (d1.σ []), .bit false, .res (.int k) (d3.σ []), .res (.int v) (d4.σ []), .val (.bytes way), .res (.int t0) (d5.σ []), .res (.int t1) (d6.σ []), .res (.int m0) (d7.σ (Rt t0 t1)), .res (.int m1) (d8.σ (Rt t0 t1)), .res (.int W) (d9.σ (Rl t0 t1 m0 m1)), .res (.tup [.list wins, .list cols]) (da.σ (Rl t0 t1 m0 m1)), .res opts (da.σ (Rl t0 t1 m0 m1)), .res (.list [.int s0, .int s1]) (da.σ (Rl t0 t1 m0 m1)), .res (.tup [.list rows, .bool true]) (da.σ (Rl t0 t1 m0 m1)), .res (.dict []) (da.σ (Rl t0 t1 m0 m1)), .res zX (da.σ (Rl t0 t1 m0 m1)), .res plan (da.σ (Rl t0 t1 m0 m1)), .res (.list A) (da.σ (Rl t0 t1 m0 m1)), .res (.list B) (da.σ (Rl t0 t1 m0 m1)), .bit false, .res (.list told) (da.σ (Rl t0 t1 m0 m1)), .bit false, .bit true, .res (.list E) (da.σ (Rl t0 t1 m0 m1)), .res (.list F) (da.σ (Rl t0 t1 m0 m1)), .bit false, .res (.bool true) (db.σ (Rl t0 t1 m0 m1))] true
  (type_of% h1 ∧ true = true ∧ type_of% h2 ∧ (zh (some (decide (0 < many))) false && true) = true ∧ type_of% h4 ∧ true = true ∧ type_of% h5 ∧ true = true ∧ type_of% h6 ∧ type_of% h7 ∧ true = true ∧ type_of% h8 ∧ true = true ∧ type_of% h9 ∧ true = true ∧ type_of% h10 ∧ true = true ∧ type_of% h11 ∧ true = true ∧ type_of% h12 ∧ true = true ∧ type_of% h13 ∧ true = true ∧ type_of% h14 ∧ true = true ∧ type_of% h15 ∧ true = true ∧ type_of% h16 ∧ true = true ∧ type_of% h17 ∧ true = true ∧ type_of% h18 ∧ true = true ∧ type_of% h19 ∧ true = true ∧ type_of% h20 ∧ (zh (z0 (da.σ (Rl t0 t1 m0 m1)) .NotEq (.list A) (.list B)) false && true) = true ∧ type_of% h22 ∧ (told.length.ble 1000000 && (zh (some (!(((told.length : Nat) : Int) == W))) false && true)) = true ∧ type_of% h25 ∧ true = true ∧ type_of% h26 ∧ (zh (z0 (da.σ (Rl t0 t1 m0 m1)) .NotEq (.list E) (.list F)) false && true) = true ∧ type_of% h28 ∧ true = true ∧ type_of% hd) (rfl)
  ⟨h1, rfl, h2, by rw [h3]; rfl, h4, rfl, h5, rfl, h6, h7, rfl, h8, rfl, h9, rfl, h10, rfl, h11, rfl, h12, rfl, h13, rfl, h14, rfl, h15, rfl, h16, rfl, h17, rfl, h18, rfl, h19, rfl, h20, by rw [h21]; rfl, h22, by rw [h23, h24]; rfl, h25, rfl, h26, by rw [h27]; rfl, h28, rfl, hd⟩)
theorem lawF_z (w : World) (xs : List Int) (d0 d1 : zN) (many : Int) (D : KD) (h1 : (∀ D : KD, D (.loc 1) (d0.σ []) → MC w 19 956 [.list (ivs xs)] [] D)) (h2 : (∀ D : KD, D (.int many) (d1.σ []) → MC w 19 963 [.loc 1, .int 5] (d0.σ []) D)) (h3 : zh (some (decide (0 < many))) false = true) : LawF w xs d1 many .none D := by
 intro d3 d4 d5 d6 d7 d8 d9 da db k v t0 t1 m0 m1 W s0 s1 way wins cols rows told A B opts plan h4 h5 h6 h7 h8 h9 h10 h11 h12 h13 h14 h15 h16 h17 h18 h19 h20 h21 h22 h23 h24 h25 hd
 exact Br w stpW (mkI [.res (.loc 1) (d0.σ []), .res (.int many) (d1.σ []), .bit false, .res (.int k) (d3.σ []), .res (.int v) (d4.σ []), .val (.bytes way), .res (.int t0) (d5.σ []), .res (.int t1) (d6.σ []), .res (.int m0) (d7.σ (Rt t0 t1)), .res (.int m1) (d8.σ (Rt t0 t1)), .res (.int W) (d9.σ (Rl t0 t1 m0 m1)), .res (.tup [.list wins, .list cols]) (da.σ (Rl t0 t1 m0 m1)), .res opts (da.σ (Rl t0 t1 m0 m1)), .res (.list [.int s0, .int s1]) (da.σ (Rl t0 t1 m0 m1)), .res (.tup [.list rows, .bool false]) (da.σ (Rl t0 t1 m0 m1)), .res (.dict []) (da.σ (Rl t0 t1 m0 m1)), .res zX (da.σ (Rl t0 t1 m0 m1)), .res plan (da.σ (Rl t0 t1 m0 m1)), .res (.list A) (da.σ (Rl t0 t1 m0 m1)), .res (.list B) (da.σ (Rl t0 t1 m0 m1)), .bit false, .res (.list told) (da.σ (Rl t0 t1 m0 m1)), .bit false, .bit false, .res (.bool true) (db.σ (Rl t0 t1 m0 m1))] true
  (type_of% h1 ∧ true = true ∧ type_of% h2 ∧ (zh (some (decide (0 < many))) false && true) = true ∧ type_of% h4 ∧ true = true ∧ type_of% h5 ∧ true = true ∧ type_of% h6 ∧ type_of% h7 ∧ true = true ∧ type_of% h8 ∧ true = true ∧ type_of% h9 ∧ true = true ∧ type_of% h10 ∧ true = true ∧ type_of% h11 ∧ true = true ∧ type_of% h12 ∧ true = true ∧ type_of% h13 ∧ true = true ∧ type_of% h14 ∧ true = true ∧ type_of% h15 ∧ true = true ∧ type_of% h16 ∧ true = true ∧ type_of% h17 ∧ true = true ∧ type_of% h18 ∧ true = true ∧ type_of% h19 ∧ true = true ∧ type_of% h20 ∧ (zh (z0 (da.σ (Rl t0 t1 m0 m1)) .NotEq (.list A) (.list B)) false && true) = true ∧ type_of% h22 ∧ (told.length.ble 1000000 && (zh (some (!(((told.length : Nat) : Int) == W))) false && true)) = true ∧ type_of% h25 ∧ true = true ∧ type_of% hd) (rfl)
  ⟨h1, rfl, h2, by rw [h3]; rfl, h4, rfl, h5, rfl, h6, h7, rfl, h8, rfl, h9, rfl, h10, rfl, h11, rfl, h12, rfl, h13, rfl, h14, rfl, h15, rfl, h16, rfl, h17, rfl, h18, rfl, h19, rfl, h20, by rw [h21]; rfl, h22, by rw [h23, h24]; rfl, h25, rfl, hd⟩)
end
section
section
variable {w : World} {xs : List Int} {many k W : Int} {cur opts plan : PV} {way : BA} {wins cols : List PV} {c0 c1 c2 c3 : zU} {tl : zc} {D : KD}
theorem EX (hd : D (.dict []) [c0, c1, c2, c3]) : ME w lfr F4 (jM xs many cur way k W wins cols opts tl) [c0, c1, c2, c3] D :=
 yC (τ := [.dict []]) (u := .loc 4) (fun D' h' => goX w (mkI [] true (D' (.loc 4) [c0, c1, c2, c3, .dict []]) rfl h')) (.locDict (Nat.le_refl _) rfl .nil) hd
theorem e937 (D : KD) (hd : D (.inst 937 [("wide", .loc 4), ("marks", .loc 5), ("joiners", .loc 6)]) [c0, c1, c2, c3, .list [.tup [.int 19968, .int 20000]], .list [], .list []]) : MC w 19 937 [.loc 4, .loc 5, .loc 6] [c0, c1, c2, c3, .list [.tup [.int 19968, .int 20000]], .list [], .list []] D :=
 JW 80 5 true (by kernel_rfl) rfl D hd
theorem Ch (hd : D zX [c0, c1, c2, c3]) : ME w lfr AS (jM xs many cur way k W wins cols opts tl) [c0, c1, c2, c3] D := by
 refine yC (τ := [.list [.tup [.int 19968, .int 20000]], .list [], .list []]) (u := .inst 937 [("wide", .loc 4), ("marks", .loc 5), ("joiners", .loc 6)]) (fun D' h' => goX w ?_) (.inst (.cons (.locList (Nat.le_refl 4) rfl (yk.same _ _ rfl)) (.cons (.locList (show 4 ≤ 5 by decide) rfl .nil) (.cons (.locList (show 4 ≤ 6 by decide) rfl .nil) .nil)))) hd
 exact mkI [.res (.inst 937 [("wide", .loc 4), ("marks", .loc 5), ("joiners", .loc 6)]) [c0, c1, c2, c3, .list [.tup [.int 19968, .int 20000]], .list [], .list []]] true
  (CS w 19 937 [.loc 4, .loc 5, .loc 6] [c0, c1, c2, c3, .list [.tup [.int 19968, .int 20000]], .list [], .list []] (.inst 937 [("wide", .loc 4), ("marks", .loc 5), ("joiners", .loc 6)]) ∧ true = true ∧
   D' (.inst 937 [("wide", .loc 4), ("marks", .loc 5), ("joiners", .loc 6)]) [c0, c1, c2, c3, .list [.tup [.int 19968, .int 20000]], .list [], .list []]) rfl ⟨fun D hd => e937 D hd, rfl, h'⟩
end
def cpSeen : CP := cpE B9
def cpSides : CP := cpE Xz
def cpOwn : CP := cpE ownX
def cpCode : CP := cpE Gh
section
variable {w : World} {xs : List Int} {many k W : Int} {cur opts : PV} {way : BA} {wins cols told : List PV} {hr : Bool} {c0 c1 c2 c3 : zU} {tl : zc} {D : KD}
noncomputable def gAt (g : Int → PV) (v : PV) : PV := match v with
 | .int i => g i
 | v => v
theorem EW {rows : List PV} (n : Nat) (hn : n ≤ 1000) (W' room off col : Int) (c : Option Nat) (l r cs : List Cl) (sp : List (Int × Int)) (hd : D (.list ((List.range n).map fun i : Nat => zF (yK sp col off room (i : Int)))) [c0, c1, c2, c3]) :
  ME w lfr B9 (jM xs many cur way k (n : Int) wins cols opts (lt2 rows hr (lt3 (jb W' room off col c l r cs sp) []))) [c0, c1, c2, c3] D := by
 have hnl : ∀ o : Option Nat, zD (zF o) = true := fun o => by cases o <;> rfl
 refine yC (τ := [.list ((List.range n).map fun i : Nat => zF (yK sp col off room (i : Int)))]) (u := .loc 4) (fun D' h' => goX w ?_) (.locList (Nat.le_refl _) rfl (yk.same _ _ (yf (g := fun i : Nat => zF (yK sp col off room (i : Int))) (fun i => hnl _) _))) hd
 have hg : ((decide (0 ≤ (n : Int)) && decide ((n : Int) ≤ 1000)) && true) = true := by
  have h0 : 0 ≤ (n : Int) := by omega
  have h1 : (n : Int) ≤ 1000 := by omega
  rw [decide_eq_true h0, decide_eq_true h1]; rfl
 have hmap : ((List.range n).map fun i : Nat => PV.int (i : Int)).map (gAt fun x => zF (yK sp col off room x)) = (List.range n).map fun i : Nat => zF (yK sp col off room (i : Int)) := by simp [gAt, Function.comp_def]
 refine mkI [.sto (yb [c0, c1, c2, c3] [.list ((List.range n).map fun i : Nat => zF (yK sp col off room (i : Int)))])] ((decide (0 ≤ (n : Int)) && decide ((n : Int) ≤ 1000)) && true)
  ((∀ D : za → Prop, D (yb [c0, c1, c2, c3] [.list ((List.range n).map fun i : Nat => zF (yK sp col off room (i : Int)))]) → MKm w cpSeen 19 "at" (.rng (n : Int)) 4 [("plan", jb W' room off col c l r cs sp)] (yb [c0, c1, c2, c3] [.list []]) D) ∧ true = true ∧
   D' (.loc 4) (yb [c0, c1, c2, c3] [.list ((List.range n).map fun i : Nat => zF (yK sp col off room (i : Int)))])) hg ⟨fun D hD => ?_, rfl, h'⟩
 refine yV (σ := [c0, c1, c2, c3]) (wok w) (evs w) ((List.range n).map fun i : Nat => PV.int (i : Int)) (gAt fun x => zF (yK sp col off room x)) (by kernel_rfl) (fun v q => nomatch q) (fun i acc => qs n i _) (by simp; omega) (fun v hv acc D hd => ?_) (by rw [hmap]; exact hD)
 obtain ⟨i, _, rfl⟩ := List.mem_map.mp hv
 exact goX w (mkI [.res (zF (yK sp col off room (i : Int))) (yb [c0, c1, c2, c3] [.list acc])] true
  (CS w 19 873 [jb W' room off col c l r cs sp, .int (i : Int)] (yb [c0, c1, c2, c3] [.list acc]) (zF (yK sp col off room (i : Int))) ∧ true = true ∧ D (zF (yK sp col off room (i : Int))) (yb [c0, c1, c2, c3] [.list acc])) rfl
  ⟨fun D => (e873 w W' room off col c l r cs sp (i : Int)).gm (by decide) D, rfl, hd⟩)
noncomputable def gFst (v : PV) : PV := match v with
 | .tup [a, _] => a
 | v => v
noncomputable def gSnd (v : PV) : PV := match v with
 | .tup [_, b] => b
 | v => v
theorem q_own (cl : List Col) (hn : cl.length ≤ 1000) (plan : PV) (hd : D (.list (cl.map fun c => zF c.1)) [c0, c1, c2, c3]) : ME w lfr ownX (jM xs many cur way k W wins cols opts (lt2 (zd cl) hr (lt3 plan []))) [c0, c1, c2, c3] D := by
 have hnl : ∀ o : Option Nat, zD (zF o) = true := fun o => by cases o <;> rfl
 refine yC (τ := [.list (cl.map fun c => zF c.1)]) (u := .loc 4) (fun D' h' => goX w ?_) (.locList (Nat.le_refl _) rfl (yk.same _ _ (yf (g := fun c : Col => zF c.1) (fun c => hnl _) _))) hd
 have hmap : (zd cl).map gFst = cl.map fun c => zF c.1 := by simp [zd, Function.comp_def, gFst, yY]
 refine mkI [.sto (yb [c0, c1, c2, c3] [.list (cl.map fun c => zF c.1)])] true
  ((∀ D : za → Prop, D (yb [c0, c1, c2, c3] [.list (cl.map fun c => zF c.1)]) → MKm w cpOwn 19 "one" (.list (.list (zd cl))) 4 [] (yb [c0, c1, c2, c3] [.list []]) D) ∧ true = true ∧
   D' (.loc 4) (yb [c0, c1, c2, c3] [.list (cl.map fun c => zF c.1)])) rfl ⟨fun D hD => ?_, rfl, h'⟩
 refine yV (σ := [c0, c1, c2, c3]) (wok w) (evs w) (zd cl) gFst (by kernel_rfl) (fun v q => nomatch q) (fun i acc => rfl) (by rw [yy]; omega) (fun v hv acc D hd => ?_) (by rw [hmap]; exact hD)
 obtain ⟨c, _, rfl⟩ := List.mem_map.mp hv
 exact goX w (mkI [] true (D (zF c.1) (yb [c0, c1, c2, c3] [.list acc])) rfl hd)
theorem q_code (cl : List Col) (hn : cl.length ≤ 1000) (plan : PV) (tl : zc) (hd : D (.list (cl.map fun c => y3 c.2)) [c0, c1, c2, c3]) : ME w lfr Gh (jM xs many cur way k W wins cols opts (lt2 (zd cl) hr (lt3 plan tl))) [c0, c1, c2, c3] D := by
 have hnl : ∀ o : Option Int, zD (y3 o) = true := fun o => by cases o <;> rfl
 refine yC (τ := [.list (cl.map fun c => y3 c.2)]) (u := .loc 4) (fun D' h' => goX w ?_) (.locList (Nat.le_refl _) rfl (yk.same _ _ (yf (g := fun c : Col => y3 c.2) (fun c => hnl _) _))) hd
 have hmap : (zd cl).map gSnd = cl.map fun c => y3 c.2 := by simp [zd, Function.comp_def, gSnd, yY]
 refine mkI [.sto (yb [c0, c1, c2, c3] [.list (cl.map fun c => y3 c.2)])] true
  ((∀ D : za → Prop, D (yb [c0, c1, c2, c3] [.list (cl.map fun c => y3 c.2)]) → MKm w cpCode 19 "one" (.list (.list (zd cl))) 4 [] (yb [c0, c1, c2, c3] [.list []]) D) ∧ true = true ∧
   D' (.loc 4) (yb [c0, c1, c2, c3] [.list (cl.map fun c => y3 c.2)])) rfl ⟨fun D hD => ?_, rfl, h'⟩
 refine yV (σ := [c0, c1, c2, c3]) (wok w) (evs w) (zd cl) gSnd (by kernel_rfl) (fun v q => nomatch q) (fun i acc => rfl) (by rw [yy]; omega) (fun v hv acc D hd => ?_) (by rw [hmap]; exact hD)
 obtain ⟨c, _, rfl⟩ := List.mem_map.mp hv
 exact goX w (mkI [] true (D (y3 c.2) (yb [c0, c1, c2, c3] [.list acc])) rfl hd)
theorem EV {rows : List PV} (d : Dat) (h : d.Ok) (hroom : 0 ≤ d.room) (hlW : (d.l.length : Int) ≤ d.W) (hn : d.told.length ≤ 1000000) (hd : D (.list (pvs d.told)) [c0, c1, c2, c3]) : ME w lfr EH (jM xs many cur way k W wins cols opts (lt2 rows hr (lt3 d.plan []))) [c0, c1, c2, c3] D := by
 refine yC (τ := [.list (pvs d.told)]) (u := .loc 4) (fun D' h' => goX w ?_) (.locList (Nat.le_refl _) rfl (yk.same _ _ (z7 _))) hd
 exact mkI [.res (.list (pvs d.told)) [c0, c1, c2, c3]] true
  (CS w 19 866 [d.plan] [c0, c1, c2, c3] (.list (pvs d.told)) ∧ ((pvs d.told).length.ble 1000000 && true) = true ∧ D' (.loc 4) (yb [c0, c1, c2, c3] [.list (pvs d.told)])) rfl
  ⟨fun D => (e866 w d h hroom hlW).gm (by decide) D, by rw [zK hn]; rfl, h'⟩
theorem Ci (t0 t1 m0 m1 : Int) (hd : D (.list [.int (mn t0 m0), .int (mn t1 m1)]) [c0, c1, .list [.int t0, .int t1], .list [.int m0, .int m1]]) : ME w lfr Xz (jM xs many cur way k W wins cols opts []) [c0, c1, .list [.int t0, .int t1], .list [.int m0, .int m1]] D := by
 refine yC (τ := [.list [.int (mn t0 m0), .int (mn t1 m1)]]) (u := .loc 4) (fun D' h' => goX w ?_) (.locList (Nat.le_refl _) rfl (yk.same _ _ rfl)) hd
 refine mkI [.sto (yb [c0, c1, .list [.int t0, .int t1], .list [.int m0, .int m1]] [.list [.int (mn t0 m0), .int (mn t1 m1)]])] true
  ((∀ D : za → Prop, D (yb [c0, c1, .list [.int t0, .int t1], .list [.int m0, .int m1]] [.list [.int (mn t0 m0), .int (mn t1 m1)]]) → MKm w cpSides 19 "at" (.rng ((2 : Nat) : Int)) 4 [("mosts", .loc 3), ("texts", .loc 2)] (yb [c0, c1, .list [.int t0, .int t1], .list [.int m0, .int m1]] [.list []]) D) ∧ true = true ∧
   D' (.loc 4) (yb [c0, c1, .list [.int t0, .int t1], .list [.int m0, .int m1]] [.list [.int (mn t0 m0), .int (mn t1 m1)]])) rfl ⟨fun D hD => ?_, rfl, h'⟩
 refine yV (σ := [c0, c1, .list [.int t0, .int t1], .list [.int m0, .int m1]]) (wok w) (evs w) ((List.range 2).map fun i : Nat => PV.int (i : Int)) (gAt fun x => match decide (x = 0) with | true => .int (mn t0 m0) | false => .int (mn t1 m1)) (by kernel_rfl) (fun v q => nomatch q) (fun i acc => qs 2 i _) (by decide) (fun v hv acc D hd => ?_) hD
 obtain ⟨i, hi, rfl⟩ := List.mem_map.mp hv
 have hi := List.mem_range.mp hi
 have : i = 0 ∨ i = 1 := by omega
 rcases this with rfl | rfl
 ·exact goX w (mkI [] true (D (.int (mn t0 m0)) (yb [c0, c1, .list [.int t0, .int t1], .list [.int m0, .int m1]] [.list acc])) rfl hd)
 ·exact goX w (mkI [] true (D (.int (mn t1 m1)) (yb [c0, c1, .list [.int t0, .int t1], .list [.int m0, .int m1]] [.list acc])) rfl hd)
end
end
section
/-! the plain law: cells of one column -/
theorem Yq (a b : Int) : ix a b = max a b := by
 unfold ix
 by_cases h : a < b
 ·rw [decide_eq_true h]; exact (Int.max_eq_right (Int.le_of_lt h)).symm
 ·rw [decide_eq_false h]; exact (Int.max_eq_left (Int.not_lt.mp h)).symm
theorem Fq (a b : Int) : mn a b = min a b := by
 unfold mn
 by_cases h : b < a
 ·rw [decide_eq_true h]; exact (Int.min_eq_right (Int.le_of_lt h)).symm
 ·rw [decide_eq_false h]; exact (Int.min_eq_left (Int.not_lt.mp h)).symm
theorem XL (a b : Nat) : mn (a : Int) (b : Int) = ((min a b : Nat) : Int) := by
 rw [Fq]
 rcases Nat.le_total a b with h | h
 ·rw [Nat.min_eq_left h, Int.min_eq_left (Int.ofNat_le.mpr h)]
 ·rw [Nat.min_eq_right h, Int.min_eq_right (Int.ofNat_le.mpr h)]
theorem ix_nat (x : Int) : ix 0 x = (x.toNat : Int) := by rw [Yq, Int.max_comm, Int.ofNat_toNat]
theorem Da (n : Nat) (x : Int) : clipAt n (ix 0 x) = min x.toNat n := by rw [ix_nat, clipAt_nat]
theorem Y4 (b : Nat) : (((b : Int) - 1) + 1).toNat = b := by rw [Int.sub_add_cancel, Int.toNat_natCast]
theorem qN (cs : List Cl) (l r : Int) : qO cs l r = (cs.drop (min l.toNat cs.length)).take (min (r + 1).toNat cs.length - min l.toNat cs.length) := by
 unfold qO yt
 simp only [Option.elim]
 rw [Da, Da]
def xb (cs : List Cl) : Prop := ∀ c ∈ cs, c.w = 1
theorem xb.app {a b : List Cl} (ha : xb a) (hb : xb b) : xb (a ++ b) := fun c h => (List.mem_append.mp h).elim (ha c) (hb c)
theorem xb.rep {c : Cl} (h : c.w = 1) (n : Nat) : xb (List.replicate n c) := fun d hd => by rw [(List.mem_replicate.mp hd).2]; exact h
theorem F0 {f : List Cl} (h : xb f) : yA (y6 f) = f := by
 have h1 : y6 f = f := by
  cases f with
  | nil => rfl
  | cons c t => simp [y6, h c (by simp)]
 rw [h1]
 unfold yA
 split
 ·rename_i d hd
  rw [if_neg]
  rw [h d (List.mem_of_getLast? hd)]
  decide
 ·rfl
theorem YY {cs : List Cl} (h : xb cs) (l r : Int) : zo cs l r = qO cs l r := by
 unfold zo
 refine F0 fun c hc => h c ?_
 rw [qN] at hc
 exact List.mem_of_mem_drop (List.mem_of_mem_take hc)
theorem YX {cs : List Cl} (h : xb cs) (m : Nat) : zo cs 0 ((m : Int) - 1) = cs.take m := by
 rw [YY h, qN]
 rw [Y4]
 simp only [Int.toNat_zero, Nat.zero_min, List.drop_zero, Nat.sub_zero]
 rcases Nat.lt_or_ge cs.length m with q | q
 ·rw [Nat.min_eq_right (Nat.le_of_lt q), List.take_of_length_le (Nat.le_refl _), List.take_of_length_le (Nat.le_of_lt q)]
 ·rw [Nat.min_eq_left q]
theorem AV {cs : List Cl} (h : xb cs) (m : Nat) : zo cs (m : Int) ((cs.length : Int) - 1) = cs.drop m := by
 rw [YY h, qN]
 rw [Y4, Int.toNat_natCast, Nat.min_self]
 rcases Nat.lt_or_ge cs.length m with q | q
 ·rw [Nat.min_eq_right (Nat.le_of_lt q), List.drop_eq_nil_of_le (Nat.le_refl _), List.drop_eq_nil_of_le (Nat.le_of_lt q)]; exact List.take_nil
 ·rw [Nat.min_eq_left q, List.take_of_length_le (by simp)]
theorem YK {c : Cl} (h : c.w = 1) (n m : Nat) : zA (List.replicate n c) (m : Int) = List.replicate (min n m) c := by
 unfold zA
 split
 ·rw [YX (xb.rep h n), List.take_replicate, Nat.min_comm]
 ·rename_i q
  rw [List.length_replicate] at q
  rw [Nat.min_eq_left (Int.ofNat_le.mp (Int.not_lt.mp q))]
theorem q8 {row cs : List Cl} (hr : xb row) (m : Nat) (h : m + cs.length ≤ row.length) : zB row (m : Int) cs = row.take m ++ cs ++ row.drop (m + cs.length) := by
 have hrm : zA cs (ix 0 ((row.length : Int) - (m : Int))) = cs := by
  unfold zA
  rw [if_neg]
  rw [Yq]
  omega
 unfold zB
 rw [hrm]
 split
 ·rename_i q
  subst q
  simp
 ·rw [YX hr, show (m : Int) + (cs.length : Int) = ((m + cs.length : Nat) : Int) by omega, AV hr]
/-! the marked list's length -/
theorem qU (cs : List Cl) (a b : Nat) (hb : b ≤ cs.length) : (zo cs (a : Int) ((b : Int) - 1)).length = b - a := by
 rw [x6, qN, Y4, Int.toNat_natCast, List.length_take, List.length_drop, Nat.min_eq_left hb, Nat.min_eq_left (Nat.sub_le_sub_right hb _)]
 rcases Nat.le_total a cs.length with h | h
 ·rw [Nat.min_eq_left h]
 ·rw [Nat.min_eq_right h, Nat.sub_eq_zero_of_le hb, Nat.sub_eq_zero_of_le (Nat.le_trans hb h)]
theorem Q3 (row : List Cl) (m : Nat) (c : Cl) (h : m < row.length) : (zB row (m : Int) [c]).length = row.length := by
 have hrm : zA [c] (ix 0 ((row.length : Int) - (m : Int))) = [c] := by
  unfold zA
  rw [if_neg]
  rw [Yq]
  simp
  omega
 unfold zB
 rw [hrm, if_neg (by simp)]
 simp only [List.length_append, List.length_cons, List.length_nil, Nat.zero_add]
 have h1 := qU row 0 m (by omega)
 have h2 := qU row (m + 1) row.length (Nat.le_refl _)
 rw [show ((0 : Nat) : Int) = 0 from rfl] at h1
 rw [h1, show (m : Int) + ((1 : Nat) : Int) = ((m + 1 : Nat) : Int) from rfl, h2]
 exact Nat.add_sub_cancel' h
theorem Qu (cs : List Cl) (off room : Nat) (h : off + room ≤ cs.length) : (xK cs (off : Int) (room : Int)).length = room := by
 have hb : (xg cs (off : Int) (room : Int)).length = room := by
  unfold xg
  split
  ·rw [show (off : Int) + (room : Int) - 1 = ((off + room : Nat) : Int) - 1 by omega, qU _ _ _ h]
   omega
  ·simp; omega
 have h1 : (x4 (xg cs (off : Int) (room : Int)) (off : Int) (room : Int)).length = room := by
  unfold x4
  split
  ·rename_i q
   have := Q3 (xg cs (off : Int) (room : Int)) 0 (.one 60) (by omega)
   rw [show ((0 : Nat) : Int) = 0 from rfl] at this
   rw [this, hb]
  ·exact hb
 unfold xK qy
 split
 ·rename_i q
  rw [show (room : Int) - 1 = ((room - 1 : Nat) : Int) by omega, Q3 _ _ _ (by omega), h1]
 ·exact h1
/-! the columns' owners -/
def zJ (ws : List Win) (k : Nat) (c : Option Nat) (i : Nat) : Nat := (zv ws k c i).length + (if i = 0 then 0 else k)
def jh (c : Option Nat) (i : Nat) (x : Win) : Nat := (yZ x.wd i x.s (decide (c = some i))).length
theorem Y2 (k : Nat) (i : Nat) : (if i = 0 then [] else yx k).length = if i = 0 then 0 else k := by split <;> simp [yx]
theorem Y1 (k : Nat) (i : Nat) : (if i = 0 then [] else zP k).length = if i = 0 then 0 else k := by split <;> simp [zP]
theorem qk (c : Option Nat) (i : Nat) (x : Win) : (yD x.wd i x.s ++ yW (decide (c = some i)) i).length = jh c i x := by
 unfold jh yZ yD yW
 cases x.wd <;> cases decide (c = some i) <;> simp
theorem EA (c : Option Nat) (i : Nat) (x : Win) (h : 1 ≤ x.s) : 0 < jh c i x := by
 rw [← qk]
 unfold yD
 cases x.wd <;> simp <;> omega
theorem yj (ws : List Win) (k : Nat) (c : Option Nat) : ∀ i, (zG ws k c i).length = (zv ws k c i).length
 | 0 => rfl
 | i + 1 => by
  have ih := yj ws k c i
  simp only [zG, zv]
  cases hx : ws[i]? with
  | none => exact ih
  | some x =>
   have := qk c i x
   unfold jh at this
   simp only [List.length_append] at this ⊢
   rw [Y2, Y1]
   omega
theorem Ar (ws : List Win) (k : Nat) (c : Option Nat) : ∀ i, (zv ws k c i).map Cl.code = (zG ws k c i).map (·.2)
 | 0 => rfl
 | i + 1 => by
  have ih := Ar ws k c i
  simp only [zG, zv]
  cases hx : ws[i]? with
  | none => exact ih
  | some x =>
   simp only [List.map_append, ih]
   have h1 : (if i = 0 then [] else yx k).map Cl.code = (if i = 0 then [] else zP k).map (·.2) := by split <;> simp [yx, zP, Cl.code]
   have h2 : (yZ x.wd i x.s (decide (c = some i))).map Cl.code = (yD x.wd i x.s).map (·.2) ++ (yW (decide (c = some i)) i).map (·.2) := by
    unfold yZ yD yW
    cases x.wd <;> cases decide (c = some i) <;> simp [Cl.code, List.map_flatten]
   rw [h1, h2, ← List.append_assoc]
noncomputable def yu (cl : List Col) (x : Int) : Option Nat := if 0 ≤ x then (match cl[x.toNat]? with | some c => c.1 | none => none) else none
theorem jW {cl : List Col} {x : Int} (h : x < 0 ∨ (cl.length : Int) ≤ x) : yu cl x = none := by
 unfold yu
 split
 ·rw [List.getElem?_eq_none (by omega)]
 ·rfl
theorem YG (a b : List Col) (x : Int) : yu (a ++ b) x = if x < (a.length : Int) then yu a x else yu b (x - (a.length : Int)) := by
 unfold yu
 by_cases h0 : 0 ≤ x
 ·rw [if_pos h0]
  by_cases h : x < (a.length : Int)
  ·rw [if_pos h, if_pos h0, List.getElem?_append_left (by omega)]
  ·rw [if_neg h, if_pos (by omega), List.getElem?_append_right (by omega)]
   rw [← Int.toNat_sub']
 ·rw [if_neg h0]
  by_cases h : x < (a.length : Int)
  ·rw [if_pos h, if_neg h0]
  ·exact absurd (Int.lt_of_lt_of_le (Int.not_le.mp h0) (Int.natCast_nonneg _)) h
theorem QT {cl : List Col} {o : Option Nat} (h : ∀ c ∈ cl, c.1 = o) {x : Int} (h0 : 0 ≤ x) (h1 : x < (cl.length : Int)) : yu cl x = o := by
 unfold yu
 rw [if_pos h0]
 have hl : x.toNat < cl.length := by omega
 rw [List.getElem?_eq_getElem hl]
 exact h _ (List.getElem_mem hl)
theorem Y9 {cl : List Col} (h : ∀ c ∈ cl, c.1 = none) (x : Int) : yu cl x = none := by
 by_cases h0 : 0 ≤ x
 ·by_cases h1 : x < (cl.length : Int)
  ·exact QT h h0 h1
  ·exact jW (by omega)
 ·exact jW (by omega)
theorem QS (ws : List Win) (k : Nat) (c : Option Nat) (i : Nat) (x : Win) (hx : ws[i]? = some x) (j : Int) :
  yu (zG ws k c (i + 1)) j = if j < (zG ws k c i).length then yu (zG ws k c i) j else if (zJ ws k c i : Int) ≤ j ∧ j < (zJ ws k c i + jh c i x : Nat) then some i else none := by
 have hl := yj ws k c i
 have hs := Y1 k i
 have hc := qk c i x
 have hA : (zG ws k c i).length + (if i = 0 then [] else zP k).length = zJ ws k c i := by unfold zJ; omega
 simp only [zG, hx]
 have hsn : ∀ q ∈ (if i = 0 then [] else zP k), q.1 = none := by
  intro q hq
  split at hq
  ·cases hq
  ·rw [(List.mem_replicate.mp hq).2]
 have hcn : ∀ q ∈ yD x.wd i x.s ++ yW (decide (c = some i)) i, q.1 = some i := by
  intro q hq
  rcases List.mem_append.mp hq with hq | hq
  ·unfold yD at hq
   split at hq
   ·simp only [List.mem_flatten, List.mem_replicate] at hq
    obtain ⟨l, ⟨_, rfl⟩, hq⟩ := hq
    simp at hq
    rcases hq with rfl | rfl <;> rfl
   ·rw [(List.mem_replicate.mp hq).2]
  ·unfold yW at hq
   split at hq
   ·simp at hq; rw [hq]
   ·cases hq
 rw [List.append_assoc, List.append_assoc, YG]
 generalize (if i = 0 then [] else zP k) = S at *
 generalize yD x.wd i x.s ++ yW (decide (c = some i)) i = T at *
 by_cases hj : j < ((zG ws k c i).length : Int)
 ·rw [if_pos hj, if_pos hj]
 ·rw [if_neg hj, if_neg hj, YG]
  by_cases h2 : j - ((zG ws k c i).length : Int) < (S.length : Int)
  ·rw [if_pos h2, Y9 hsn, if_neg (by omega)]
  ·rw [if_neg h2]
   by_cases h3 : j < ((zJ ws k c i + jh c i x : Nat) : Int)
   ·rw [if_pos ⟨by omega, h3⟩]
    exact QT hcn (by omega) (by rw [hc]; omega)
   ·rw [if_neg (fun q => h3 q.2)]
    exact jW (by rw [hc]; omega)
theorem qd (ws : List Win) (k : Nat) (c : Option Nat) : ∀ i, i ≤ ws.length → (zO ws k c i).length = i
 | 0, _ => rfl
 | i + 1, h => by
  have ih := qd ws k c i (by omega)
  simp only [zO, List.getElem?_eq_getElem (show i < ws.length by omega)]
  simp [ih]
theorem YW (ws : List Win) (k : Nat) (c : Option Nat) (i : Nat) (x : Win) (hx : ws[i]? = some x) : zO ws k c (i + 1) = zO ws k c i ++ [((zJ ws k c i : Int), ((zJ ws k c i + jh c i x : Nat) : Int))] := by
 simp only [zO, hx]
 have e : (zv ws k c i ++ (if i = 0 then [] else yx k)).length = zJ ws k c i := by rw [List.length_append, Y2]; rfl
 rw [e]
 congr 3
theorem JS (ws : List Win) (k : Nat) (c : Option Nat) : ∀ i, i ≤ ws.length → ∀ j : Int, (zO ws k c i).findIdx? (hit j) = yu (zG ws k c i) j
 | 0, _, j => by
  rw [jW (by simp [zG]; omega)]
  rfl
 | i + 1, h, j => by
  have ih := JS ws k c i (by omega) j
  have hx : ws[i]? = some ws[i] := List.getElem?_eq_getElem (show i < ws.length by omega)
  have hl := yj ws k c i
  have hsl := qd ws k c i (by omega)
  have hA : (zG ws k c i).length ≤ zJ ws k c i := by unfold zJ; omega
  rw [YW _ _ _ _ _ hx, QS _ _ _ _ _ hx, List.findIdx?_append, ih, hsl]
  have e1 : [((zJ ws k c i : Int), ((zJ ws k c i + jh c i ws[i] : Nat) : Int))].findIdx? (hit j) = if (zJ ws k c i : Int) ≤ j ∧ j < (zJ ws k c i + jh c i ws[i] : Nat) then some 0 else none := by
   simp only [List.findIdx?_cons, hit, List.findIdx?_nil, Option.map_none]
   by_cases q : (zJ ws k c i : Int) ≤ j ∧ j < (zJ ws k c i + jh c i ws[i] : Nat)
   ·rw [if_pos q]
    have hq : (decide ((zJ ws k c i : Int) ≤ j) && decide (j < ((zJ ws k c i + jh c i ws[i] : Nat) : Int))) = true := by
     rw [Bool.and_eq_true, decide_eq_true_eq, decide_eq_true_eq]; exact q
    simp only [hq, if_true]
   ·rw [if_neg q]
    have hq : (decide ((zJ ws k c i : Int) ≤ j) && decide (j < ((zJ ws k c i + jh c i ws[i] : Nat) : Int))) = false := by
     rw [← Bool.not_eq_true, Bool.and_eq_true, decide_eq_true_eq, decide_eq_true_eq]; exact q
    simp only [hq]
    rfl
  rw [e1]
  by_cases hj : j < (zG ws k c i).length
  ·rw [if_pos hj, if_neg (by omega)]
   cases yu (zG ws k c i) j <;> rfl
  ·rw [if_neg hj, jW (cl := zG ws k c i) (by omega)]
   split <;> simp
end
section
theorem Q0 (ws : List Win) (k : Nat) (c : Option Nat) (i : Nat) (x : Win) (hx : ws[i]? = some x) : (zG ws k c (i + 1)).length = zJ ws k c i + jh c i x := by
 rw [yj]
 simp only [zv, hx, List.length_append, Y2]
 rfl
theorem Q1 (ws : List Win) (k : Nat) (c : Option Nat) : ∀ i j, i ≤ j → (zG ws k c i).length ≤ (zG ws k c j).length := by
 intro i j h
 induction h with
 | refl => exact Nat.le_refl _
 | step h ih =>
  rename_i m
  refine Nat.le_trans ih ?_
  simp only [zG]
  split
  ·simp only [List.length_append]; omega
  ·exact Nat.le_refl _
theorem Cs (ws : List Win) (k : Nat) (c : Option Nat) (c0 : Nat) (x0 : Win) (h0 : ws[c0]? = some x0) : ∀ i, i ≤ ws.length → ∀ j : Int, yu (zG ws k c i) j = some c0 ↔ (c0 < i ∧ (zJ ws k c c0 : Int) ≤ j ∧ j < (zJ ws k c c0 + jh c c0 x0 : Nat))
 | 0, _, j => by
  rw [jW (by simp [zG]; omega)]
  simp
 | i + 1, h, j => by
  have ih := Cs ws k c c0 x0 h0 i (by omega) j
  have hx : ws[i]? = some ws[i] := List.getElem?_eq_getElem (show i < ws.length by omega)
  have hA : (zG ws k c i).length ≤ zJ ws k c i := by rw [yj]; unfold zJ; omega
  have h1 := Q0 ws k c c0 x0 h0
  rw [QS _ _ _ _ _ hx]
  by_cases hj : j < ((zG ws k c i).length : Int)
  ·rw [if_pos hj, ih]
   constructor
   ·rintro ⟨a, b⟩; exact ⟨by omega, b⟩
   ·rintro ⟨a, b⟩
    refine ⟨?_, b⟩
    rcases Nat.lt_or_ge c0 i with q | q
    ·exact q
    ·obtain rfl : c0 = i := by omega
     omega
  ·rw [if_neg hj]
   rcases Nat.lt_trichotomy c0 i with q | rfl | q
   ·have := Q1 ws k c (c0 + 1) i (by omega)
    constructor
    ·intro e
     split at e
     ·cases e; omega
     ·cases e
    ·rintro ⟨a, b, b'⟩; omega
   ·have : x0 = ws[c0] := by rw [hx] at h0; exact (Option.some.inj h0).symm
    subst this
    constructor
    ·intro e
     split at e
     ·rename_i q; exact ⟨by omega, q⟩
     ·cases e
    ·rintro ⟨a, b⟩; rw [if_pos b]
   ·constructor
    ·intro e
     split at e
     ·cases e; omega
     ·cases e
    ·rintro ⟨a, b⟩; omega
theorem B7 (ws : List Win) (k : Nat) (c : Option Nat) (c0 : Nat) (x0 : Win) (h0 : ws[c0]? = some x0) : ∀ i, c0 < i → i ≤ ws.length → (zO ws k c i)[c0]? = some ((zJ ws k c c0 : Int), ((zJ ws k c c0 + jh c c0 x0 : Nat) : Int))
 | 0, h, _ => by omega
 | i + 1, h, hl => by
  have hx : ws[i]? = some ws[i] := List.getElem?_eq_getElem (show i < ws.length by omega)
  have hsl := qd ws k c i (by omega)
  rw [YW _ _ _ _ _ hx]
  rcases Nat.lt_or_ge c0 i with q | q
  ·rw [List.getElem?_append_left (by omega)]
   exact B7 ws k c c0 x0 h0 i q (by omega)
  ·obtain rfl : c0 = i := by omega
   rw [List.getElem?_append_right (by omega), hsl, Nat.sub_self]
   have : x0 = ws[c0] := by rw [hx] at h0; exact (Option.some.inj h0).symm
   rw [this]
   rfl
theorem E2 (cl : List Col) (c a b : Nat) (hab : a ≤ b) (h : ∀ (j : Nat) (x : Col), cl[j]? = some x → (x.1 = some c ↔ a ≤ j ∧ j < b)) : ∀ i, i ≤ cl.length → plN cl c i = (List.range' a (min i b - a)).map fun j : Nat => (j : Int)
 | 0, _ => by simp [plN]
 | i + 1, hi => by
  have ih := E2 cl c a b hab h i (by omega)
  have hx : cl[i]? = some cl[i] := List.getElem?_eq_getElem (show i < cl.length by omega)
  have hi' := h i _ hx
  simp only [plN, hx]
  by_cases q : a ≤ i ∧ i < b
  ·rw [decide_eq_true (hi'.mpr q)]
   simp only
   rw [ih, Nat.min_eq_left q.2, Nat.min_eq_left (Nat.le_of_lt q.2), Nat.succ_sub q.1, List.range'_1_concat, List.map_append, Nat.add_sub_cancel' q.1]
   rfl
  ·rw [decide_eq_false (fun e => q (hi'.mp e))]
   simp only
   rw [ih]
   rcases Nat.lt_or_ge i b with h | h
   ·have h2 : i < a := Nat.not_le.mp fun e => q ⟨e, h⟩
    rw [Nat.sub_eq_zero_of_le (Nat.le_trans (Nat.min_le_left _ _) (Nat.le_of_lt h2)), Nat.sub_eq_zero_of_le (Nat.le_trans (Nat.min_le_left _ _) h2)]
   ·rw [Nat.min_eq_right h, Nat.min_eq_right (Nat.le_succ_of_le h)]
theorem E3 (cl : List Col) (c a b : Nat) (hab : a < b) (hb : b ≤ cl.length) (h : ∀ (j : Nat) (x : Col), cl[j]? = some x → (x.1 = some c ↔ a ≤ j ∧ j < b)) : (plN cl c cl.length).head? = some (a : Int) ∧ (plN cl c cl.length).getLast? = some ((b : Int) - 1) := by
 rw [E2 cl c a b (by omega) h cl.length (Nat.le_refl _), Nat.min_eq_right hb]
 obtain ⟨n, hn⟩ : ∃ n, b - a = n + 1 := Nat.exists_eq_succ_of_ne_zero (Nat.sub_ne_zero_of_lt hab)
 rw [hn]
 constructor
 ·simp [List.range'_succ]
 ·rw [List.range'_1_concat, List.map_append, List.map_cons, List.map_nil, List.getLast?_concat]
  first | rfl | (congr 1; omega)
theorem own_cut (cl : List Col) (f n : Nat) (h : f + n ≤ cl.length) : yt cl (some (f : Int)) (some ((f + n : Nat) : Int)) = (cl.drop f).take n := by
 unfold yt
 simp only [Option.elim]
 rw [clipAt_nat, clipAt_nat, Nat.min_eq_left h, Nat.min_eq_left (Nat.le_trans (Nat.le_add_right _ _) h), Nat.add_sub_cancel_left]
theorem E8 (cl : List Col) (f n : Nat) (h : f + n ≤ cl.length) (x : Int) (h0 : 0 ≤ x) (h1 : x < (n : Int)) : yu ((cl.drop f).take n) x = yu cl (x + (f : Int)) := by
 unfold yu
 rw [if_pos h0, if_pos (by omega), List.getElem?_take, if_pos (by omega), List.getElem?_drop]
 rw [Int.toNat_add_nat h0, Nat.add_comm]
theorem Cb (l s r W : Nat) (sh : List Col) (i : Int) (h0 : 0 ≤ i) : yu (yq (l : Int) (s : Int) (r : Int) (W : Int) sh) i = if (l + s : Nat) ≤ i ∧ i < (l + s + sh.length : Nat) then yu sh (i - (l + s : Nat)) else none := by
 have n1 : ∀ (a b : Nat) (o p : Option Int), ∀ q ∈ List.replicate a ((none, o) : Col) ++ List.replicate b ((none, p) : Col), q.1 = none := fun a b o p q hq => by
  rcases List.mem_append.mp hq with hq | hq <;> rw [(List.mem_replicate.mp hq).2]
 have e : yq (l : Int) (s : Int) (r : Int) (W : Int) sh = ((List.replicate l ((none, some 49) : Col) ++ List.replicate s ((none, some 32) : Col)) ++ sh) ++ (List.replicate ((W : Int) - (r : Int) - ((l + s + sh.length : Nat) : Int)).toNat ((none, some 32) : Col) ++ List.replicate r ((none, some 50) : Col)) := by
  simp [yq]
 have hn1 := n1 l s (some 49) (some 32)
 have hn2 := n1 ((W : Int) - (r : Int) - ((l + s + sh.length : Nat) : Int)).toNat r (some 32) (some 50)
 have hl : (List.replicate l ((none, some 49) : Col) ++ List.replicate s ((none, some 32) : Col)).length = l + s := by simp
 rw [e]
 generalize List.replicate l ((none, some 49) : Col) ++ List.replicate s ((none, some 32) : Col) = P at *
 generalize List.replicate ((W : Int) - (r : Int) - ((l + s + sh.length : Nat) : Int)).toNat ((none, some 32) : Col) ++ List.replicate r ((none, some 50) : Col) = T at *
 rw [YG, Y9 hn2, YG, Y9 hn1, List.length_append, hl]
 by_cases q1 : i < ((l + s : Nat) : Int)
 ·rw [if_pos q1, if_neg (by omega : ¬ (((l + s : Nat) : Int) ≤ i ∧ i < ((l + s + sh.length : Nat) : Int)))]
  split <;> rfl
 ·rw [if_neg q1]
  by_cases q2 : i < ((l + s + sh.length : Nat) : Int)
  ·rw [if_pos q2, if_pos ⟨by omega, q2⟩]
  ·rw [if_neg q2, if_neg (fun q => q2 q.2)]
theorem YF (l s r W : Nat) (sh : List Col) (h : l + s + sh.length + r ≤ W) : (yq (l : Int) (s : Int) (r : Int) (W : Int) sh).length = W := by
 unfold yq
 simp only [List.length_append, List.length_replicate, Int.toNat_natCast]
 omega
theorem Cc (cl : List Col) (n : Nat) (g : Int → Option Nat) (hl : cl.length = n) (h : ∀ i : Nat, i < n → g (i : Int) = yu cl (i : Int)) : ((List.range n).map fun i : Nat => zF (g (i : Int))) = cl.map fun c => zF c.1 := by
 refine List.ext_getElem (by simp [hl]) fun i h1 h2 => ?_
 simp only [List.length_map, List.length_range] at h1
 simp only [List.getElem_map, List.getElem_range]
 rw [h i h1]
 unfold yu
 rw [if_pos (Int.natCast_nonneg i), Int.toNat_natCast, List.getElem?_eq_getElem (by omega)]
end
section
theorem rest_eq {L R N W : Nat} (X : Nat) (h : L + R + N = W) : ((W : Int) - (N : Int) - ((L + X : Nat) : Int)).toNat = R - X := by rw [← h, Int.natCast_add (L + R) N, Int.add_sub_cancel, Int.toNat_sub, Nat.add_sub_add_left]
theorem cut_eq {L R N W : Nat} (h : L + R + N = W) : (W : Int) - (N : Int) = ((L + R : Nat) : Int) := by rw [← h, Int.natCast_add (L + R) N, Int.add_sub_cancel]
theorem side_eq {L R N W : Nat} (h : L + R + N = W) : ((W : Int) - (L : Int)).toNat = R + N := by rw [Int.toNat_sub]; exact Nat.sub_eq_of_eq_add' (by rw [← h, Nat.add_assoc])
theorem qr {room n : Nat} {B : Int} (h0 : 0 ≤ B) (h1 : B ≤ max 0 ((room : Int) - (n : Int))) : 0 ≤ B ∧ (n ≤ room → B ≤ (room : Int) - (n : Int)) ∧ (room < n → B = 0) :=
 ⟨h0, fun h => Int.le_trans h1 (Int.max_le.mpr ⟨Int.sub_nonneg_of_le (Int.ofNat_le.mpr h), Int.le_refl _⟩), fun h => Int.le_antisymm (Int.le_trans h1 (Int.max_le.mpr ⟨Int.le_refl _, Int.sub_nonpos_of_le (Int.ofNat_le.mpr (Nat.le_of_lt h))⟩)) h0⟩
theorem YZ (v room n left : Nat) (W : Int) : 0 ≤ zH v (room : Int) W left n ∧ (n ≤ room → zH v (room : Int) W left n ≤ (room : Int) - (n : Int)) ∧ (room < n → zH v (room : Int) W left n = 0) := by
 unfold zH Qd
 split
 ·exact qr (Int.le_refl 0) (Int.le_max_left ..)
 ·rw [Int.fdiv_eq_ediv_of_nonneg _ (by decide), Yq]
  exact qr (Int.ediv_nonneg (Int.le_max_left ..) (by decide)) (Int.ediv_le_self _ (Int.le_max_left ..))
 ·rw [Yq]; exact qr (Int.le_max_left ..) (Int.le_refl _)
 ·rw [Yq, Yq, Fq]
  exact qr (Int.le_max_left ..) (Int.max_le.mpr ⟨Int.le_max_left .., Int.min_le_right ..⟩)
structure GN (d : Dat) (M0 M1 Wn : Nat) : Prop where
 t0 : d.o.t0 = yH 49 d.n0
 t1 : d.o.t1 = yH 50 d.n1
 sep : d.o.sep = yH 124 d.k
 way : d.o.way = xn d.v
 m0 : d.o.m0 = (M0 : Int)
 m1 : d.o.m1 = (M1 : Int)
 n0 : d.n0 ≤ 5
 n1 : d.n1 ≤ 5
 k : d.k ≤ 2
 lw : d.ws.length ≤ 4
 w : ∀ x ∈ d.ws, 1 ≤ x.s ∧ x.s ≤ 4
 W : d.W = (Wn : Int)
 W1 : Wn ≤ 24
 cur : (d.ws = [] ∧ d.c = none) ∨ ∃ c0 x0, d.c = some c0 ∧ d.ws[c0]? = some x0
def Ln (d : Dat) (M0 Wn : Nat) : Nat := min (min d.n0 M0) Wn
def Rn (d : Dat) (M0 M1 Wn : Nat) : Nat := min (min d.n1 M1) (Wn - Ln d M0 Wn)
def Rm (d : Dat) (M0 M1 Wn : Nat) : Nat := Wn - Ln d M0 Wn - Rn d M0 M1 Wn
def Dat.cols (d : Dat) : List Col := zG d.ws d.k d.c d.ws.length
section
variable {d : Dat} {M0 M1 Wn : Nat} (g : GN d M0 M1 Wn)
include g
theorem g_l : d.l = List.replicate (Ln d M0 Wn) (.one 49) := by
 unfold Dat.l yh
 rw [g.m0, g.W, YK rfl, YK rfl]
 rfl
theorem jP : Ln d M0 Wn + Rm d M0 M1 Wn + Rn d M0 M1 Wn = Wn := by unfold Rm; rw [Nat.add_assoc, Nat.sub_add_cancel (show Rn d M0 M1 Wn ≤ Wn - Ln d M0 Wn from Nat.min_le_right _ _), Nat.add_sub_cancel' (show Ln d M0 Wn ≤ Wn from Nat.min_le_right _ _)]
omit g in
theorem g_wl : (Wn : Int) - (Ln d M0 Wn : Int) = ((Wn - Ln d M0 Wn : Nat) : Int) := (Int.ofNat_sub (Nat.min_le_right _ _)).symm
omit g in
theorem g_wr : (Wn : Int) - (Ln d M0 Wn : Int) - (Rn d M0 M1 Wn : Int) = (Rm d M0 M1 Wn : Int) := by rw [g_wl]; exact (Int.ofNat_sub (Nat.min_le_right _ _)).symm
theorem g_r : d.r = List.replicate (Rn d M0 M1 Wn) (.one 50) := by
 unfold Dat.r yh
 rw [g_l g, g.m1, g.W, List.length_replicate, YK rfl]
 rw [g_wl, YK rfl]
 rfl
theorem jD : d.room = (Rm d M0 M1 Wn : Int) := by
 unfold Dat.room
 rw [g_l g, g_r g, g.W, List.length_replicate, List.length_replicate, g_wr]
theorem xA : d.cs.length = d.cols.length := (yj _ _ _ _).symm
theorem XU : d.cols.length ≤ 44 := by
 rw [← xA g]
 exact Nat.le_trans (j7 g.k (fun x hx => (g.w x hx).2) _) (by have := g.lw; omega)
theorem FO (hf : Rm d M0 M1 Wn < d.cols.length) : ∃ c0 x0, d.c = some c0 ∧ d.ws[c0]? = some x0 ∧ d.sp[c0]? = some ((zJ d.ws d.k d.c c0 : Int), ((zJ d.ws d.k d.c c0 + jh d.c c0 x0 : Nat) : Int)) ∧ 0 < jh d.c c0 x0 ∧ zJ d.ws d.k d.c c0 + jh d.c c0 x0 ≤ d.cols.length := by
 rcases g.cur with ⟨h1, h2⟩ | ⟨c0, x0, h1, h2⟩
 ·unfold Dat.cols at hf
  rw [h1] at hf
  simp [zG] at hf
 ·have hl := (List.getElem?_eq_some_iff.mp h2).1
  refine ⟨c0, x0, h1, h2, B7 _ _ _ c0 x0 h2 _ hl (Nat.le_refl _), EA _ _ _ (g.w x0 (List.mem_of_getElem? h2)).1, ?_⟩
  rw [← Q0 _ _ _ _ _ h2]
  exact Q1 _ _ _ _ _ hl
theorem g_full : Full d.cs d.sp d.c d.room := by
 intro hf
 rw [jD g, xA g] at hf
 obtain ⟨c0, x0, h1, h2, h3, h4, h5⟩ := FO g (by omega)
 have := XU g
 exact ⟨c0, _, h1, h3, by dsimp only; omega⟩
theorem g_ok : d.Ok := ⟨g.t0, g.t1, g.sep, g.way, g.n0, g.n1, g.k, g.lw, g.w, by rw [g.W]; omega, by rw [g.W]; have := g.W1; omega, g_full g⟩
theorem Bw : d.row1 = List.replicate (Ln d M0 Wn) (.one 49) ++ List.replicate (Rm d M0 M1 Wn) .blank ++ List.replicate (Rn d M0 M1 Wn) (.one 50) := by
 have hs := jP g
 unfold Dat.row1
 rw [g_l g, g_r g, g.W]
 simp only [List.length_replicate]
 have e1 : ((Wn : Int) - ((Ln d M0 Wn : Nat) : Int)).toNat = Rm d M0 M1 Wn + Rn d M0 M1 Wn := side_eq (jP g)
 have e2 : (Wn : Int) - ((Rn d M0 M1 Wn : Nat) : Int) = ((Ln d M0 Wn + Rm d M0 M1 Wn : Nat) : Int) := cut_eq (jP g)
 rw [e1, e2]
 have hf : xb (List.replicate (Ln d M0 Wn) (Cl.one 49) ++ List.replicate (Rm d M0 M1 Wn + Rn d M0 M1 Wn) Cl.blank) := (xb.rep rfl _).app (xb.rep rfl _)
 rw [q8 hf _ (by simp; omega)]
 have t : (List.replicate (Ln d M0 Wn) (Cl.one 49) ++ List.replicate (Rm d M0 M1 Wn + Rn d M0 M1 Wn) Cl.blank).take (Ln d M0 Wn + Rm d M0 M1 Wn) = List.replicate (Ln d M0 Wn) (Cl.one 49) ++ List.replicate (Rm d M0 M1 Wn) Cl.blank := by
  have := List.take_length_add_append (l₁ := List.replicate (Ln d M0 Wn) (Cl.one 49)) (l₂ := List.replicate (Rm d M0 M1 Wn + Rn d M0 M1 Wn) Cl.blank) (Rm d M0 M1 Wn)
  rw [List.length_replicate] at this
  rw [this, List.take_replicate, Nat.min_eq_left (by omega)]
 rw [t, List.drop_eq_nil_of_le (by simp; omega), List.append_nil]
theorem CU : xb d.row1 := by
 rw [Bw g]
 exact ((xb.rep rfl _).app (xb.rep rfl _)).app (xb.rep rfl _)
theorem FQ : d.row1.length = Wn := by
 have hs := jP g
 rw [Bw g]
 simp
 omega
def shN (d : Dat) (M0 M1 Wn : Nat) : Nat := (zH d.v (Rm d M0 M1 Wn : Int) (Wn : Int) (Ln d M0 Wn) d.cols.length).toNat
omit g in
theorem Y0 (d : Dat) (M0 M1 Wn : Nat) : zH d.v (Rm d M0 M1 Wn : Int) (Wn : Int) (Ln d M0 Wn) d.cols.length = (shN d M0 M1 Wn : Int) := by
 have := (YZ d.v (Rm d M0 M1 Wn) d.cols.length (Ln d M0 Wn) (Wn : Int)).1
 unfold shN
 omega
omit g in
theorem XA (hf : d.cols.length ≤ Rm d M0 M1 Wn) : shN d M0 M1 Wn + d.cols.length ≤ Rm d M0 M1 Wn := by
 have := (YZ d.v (Rm d M0 M1 Wn) d.cols.length (Ln d M0 Wn) (Wn : Int)).2.1 hf
 rw [Y0] at this
 omega
omit g in
theorem YE (hf : Rm d M0 M1 Wn < d.cols.length) : shN d M0 M1 Wn = 0 := by
 have := (YZ d.v (Rm d M0 M1 Wn) d.cols.length (Ln d M0 Wn) (Wn : Int)).2.2 hf
 rw [Y0] at this
 omega
theorem CV : d.col = ((Ln d M0 Wn + shN d M0 M1 Wn : Nat) : Int) := by
 unfold Dat.col
 rw [jD g, g_l g, g.W, xA g, List.length_replicate, Y0]
 omega
theorem g_own (j : Int) : d.sp.findIdx? (hit j) = yu d.cols j := JS _ _ _ _ (Nat.le_refl _) j
theorem F2 (hf : d.cols.length ≤ Rm d M0 M1 Wn) : ((List.range Wn).map fun i : Nat => zF (yK d.sp d.col d.off d.room (i : Int))) = (yq (Ln d M0 Wn : Int) (shN d M0 M1 Wn : Int) (Rn d M0 M1 Wn : Int) (Wn : Int) d.cols).map fun c => zF c.1 := by
 have hs := jP g
 have h1 := XA hf
 refine Cc _ Wn (yK d.sp d.col d.off d.room) (YF _ _ _ _ _ (by omega)) fun i hi => ?_
 have hoff : d.off = 0 := by
  unfold Dat.off yo
  rw [if_pos (by rw [jD g, xA g]; omega)]
 rw [Cb _ _ _ _ _ _ (Int.natCast_nonneg i)]
 unfold yK
 rw [g_own g, CV g, jD g, hoff, Int.add_zero]
 by_cases q : ((Ln d M0 Wn + shN d M0 M1 Wn : Nat) : Int) ≤ (i : Int) ∧ (i : Int) < ((Ln d M0 Wn + shN d M0 M1 Wn + d.cols.length : Nat) : Int)
 ·rw [if_pos q, if_pos (by omega)]
 ·rw [if_neg q]
  split
  ·exact jW (by omega)
  ·rfl
theorem F1 (hf : d.cols.length ≤ Rm d M0 M1 Wn) : d.told.length = Wn ∧ d.told.map Cl.code = (yq (Ln d M0 Wn : Int) (shN d M0 M1 Wn : Int) (Rn d M0 M1 Wn : Int) (Wn : Int) d.cols).map (·.2) := by
 have hs := jP g
 have h1 := XA hf
 have hl1 := FQ g
 have hwl : yP d.cs d.sp d.c d.room = d.cs := by
  unfold yP
  rw [if_pos (by rw [jD g, xA g]; omega)]
 have ht : d.told = d.row1.take (Ln d M0 Wn + shN d M0 M1 Wn) ++ d.cs ++ d.row1.drop (Ln d M0 Wn + shN d M0 M1 Wn + d.cs.length) := by
  unfold Dat.told
  rw [hwl, CV g, q8 (CU g) _ (by rw [hl1, xA g]; omega)]
 have hcl := xA g
 refine ⟨?_, ?_⟩
 ·rw [ht]
  simp only [List.length_append, List.length_take, List.length_drop]
  omega
 ·rw [ht, List.map_append, List.map_append, List.map_take, List.map_drop, show d.cs.map Cl.code = d.cols.map (·.2) from Ar _ _ _ _, hcl, Bw g]
  simp only [List.map_append, List.map_replicate, Cl.code, yq, Int.toNat_natCast]
  have e3 : ((Wn : Int) - (Rn d M0 M1 Wn : Int) - ((Ln d M0 Wn + shN d M0 M1 Wn + d.cols.length : Nat) : Int)).toNat = Rm d M0 M1 Wn - (shN d M0 M1 Wn + d.cols.length) := by rw [Nat.add_assoc]; exact rest_eq _ hs
  rw [e3]
  have tk : ∀ (a n m b : Nat) (u v z : Option Int), m ≤ n → (List.replicate a u ++ List.replicate n v ++ List.replicate b z).take (a + m) = List.replicate a u ++ List.replicate m v := by
   intro a n m b u v z h
   rw [List.append_assoc]
   have := List.take_length_add_append (l₁ := List.replicate a u) (l₂ := List.replicate n v ++ List.replicate b z) m
   rw [List.length_replicate] at this
   rw [this, List.take_append_of_le_length (by simpa using h), List.take_replicate, Nat.min_eq_left h]
  have dk : ∀ (a n m b : Nat) (u v z : Option Int), m ≤ n → (List.replicate a u ++ List.replicate n v ++ List.replicate b z).drop (a + m) = List.replicate (n - m) v ++ List.replicate b z := by
   intro a n m b u v z h
   rw [List.append_assoc]
   have := List.drop_length_add_append (l₁ := List.replicate a u) (l₂ := List.replicate n v ++ List.replicate b z) m
   rw [List.length_replicate] at this
   rw [this, List.drop_append_of_le_length (by simpa using h), List.drop_replicate]
  rw [tk _ _ _ _ _ _ _ (by omega), Nat.add_assoc (Ln d M0 Wn), dk _ _ _ _ _ _ _ (by omega)]
  simp only [List.append_assoc]
theorem FW (hf : Rm d M0 M1 Wn < d.cols.length) : ∃ (c0 : Nat) (pp qq : Int) (f : Nat), d.c = some c0 ∧ (plN d.cols c0 d.cols.length).head? = some pp ∧ (plN d.cols c0 d.cols.length).getLast? = some qq ∧ (pp + qq + 1).natAbs < 2 ^ 60 ∧ y7 d.cols.length pp qq (Rm d M0 M1 Wn : Int) = (f : Int) ∧ d.off = (f : Int) ∧ f + Rm d M0 M1 Wn ≤ d.cols.length := by
 obtain ⟨c0, x0, h1, h2, h3, h4, h5⟩ := FO g hf
 have hc := XU g
 have hown := Cs d.ws d.k d.c c0 x0 h2 d.ws.length (Nat.le_refl _)
 have hl := (List.getElem?_eq_some_iff.mp h2).1
 obtain ⟨e1, e2⟩ := E3 d.cols c0 (zJ d.ws d.k d.c c0) (zJ d.ws d.k d.c c0 + jh d.c c0 x0) (by omega) h5 (fun j x hx => by
  have := hown (j : Int)
  have hj := (List.getElem?_eq_some_iff.mp hx).1
  have e : yu (zG d.ws d.k d.c d.ws.length) (j : Int) = x.1 := by
   unfold yu
   rw [if_pos (Int.natCast_nonneg j), Int.toNat_natCast]
   rw [show (zG d.ws d.k d.c d.ws.length)[j]? = some x from hx]
  rw [e] at this
  rw [this]
  omega)
 have eoff : d.off = ix 0 (mn (Int.fdiv ((zJ d.ws d.k d.c c0 : Int) + ((zJ d.ws d.k d.c c0 + jh d.c c0 x0 : Nat) : Int)) 2 - Int.fdiv (Rm d M0 M1 Wn : Int) 2) ((d.cols.length : Int) - (Rm d M0 M1 Wn : Int))) := by
  unfold Dat.off yo
  rw [jD g, xA g, if_neg (by omega), h1]
  simp only
  rw [h1] at h3
  rw [h3]
  simp only [x3, Qd]
  rw [xA g]
 have efirst : y7 d.cols.length (zJ d.ws d.k d.c c0 : Int) (((zJ d.ws d.k d.c c0 + jh d.c c0 x0 : Nat) : Int) - 1) (Rm d M0 M1 Wn : Int) = d.off := by
  rw [eoff]
  unfold y7
  rw [show (zJ d.ws d.k d.c c0 : Int) + (((zJ d.ws d.k d.c c0 + jh d.c c0 x0 : Nat) : Int) - 1) + 1 = (zJ d.ws d.k d.c c0 : Int) + ((zJ d.ws d.k d.c c0 + jh d.c c0 x0 : Nat) : Int) by omega]
 have hb : 0 ≤ d.off ∧ d.off ≤ (d.cols.length : Int) - (Rm d M0 M1 Wn : Int) := by
  rw [eoff, Yq, Fq]
  omega
 refine ⟨c0, _, _, d.off.toNat, h1, e1, e2, by omega, ?_, by omega, by omega⟩
 rw [efirst]
 omega
theorem D6 (hf : Rm d M0 M1 Wn < d.cols.length) (f : Nat) (hoff : d.off = (f : Int)) (hfl : f + Rm d M0 M1 Wn ≤ d.cols.length) : ((List.range Wn).map fun i : Nat => zF (yK d.sp d.col d.off d.room (i : Int))) = (yq (Ln d M0 Wn : Int) (shN d M0 M1 Wn : Int) (Rn d M0 M1 Wn : Int) (Wn : Int) ((d.cols.drop f).take (Rm d M0 M1 Wn))).map fun c => zF c.1 := by
 have hs := jP g
 have h1 := YE hf
 have hlen : ((d.cols.drop f).take (Rm d M0 M1 Wn)).length = Rm d M0 M1 Wn := by simp; omega
 refine Cc _ Wn (yK d.sp d.col d.off d.room) (YF _ _ _ _ _ (by rw [hlen]; omega)) fun i hi => ?_
 rw [Cb _ _ _ _ _ _ (Int.natCast_nonneg i), hlen]
 unfold yK
 rw [g_own g, CV g, jD g, hoff, h1]
 by_cases q : ((Ln d M0 Wn + 0 : Nat) : Int) ≤ (i : Int) ∧ (i : Int) < ((Ln d M0 Wn + 0 + Rm d M0 M1 Wn : Nat) : Int)
 ·rw [if_pos q, if_pos (by omega), E8 _ _ _ hfl _ (by omega) (by omega)]
 ·rw [if_neg q, if_neg (by omega)]
theorem D5 (hf : Rm d M0 M1 Wn < d.cols.length) (f : Nat) (hoff : d.off = (f : Int)) (hfl : f + Rm d M0 M1 Wn ≤ d.cols.length) : d.told.length = Wn := by
 have hs := jP g
 have h1 := YE hf
 have hl1 := FQ g
 have hwl : (yP d.cs d.sp d.c d.room).length = Rm d M0 M1 Wn := by
  unfold yP
  rw [if_neg (by rw [jD g, xA g]; omega)]
  rw [show yo d.cs d.sp d.c d.room = d.off from rfl, hoff, jD g]
  exact Qu _ _ _ (by rw [xA g]; exact hfl)
 have ht : d.told = d.row1.take (Ln d M0 Wn) ++ yP d.cs d.sp d.c d.room ++ d.row1.drop (Ln d M0 Wn + (yP d.cs d.sp d.c d.room).length) := by
  unfold Dat.told
  rw [CV g, h1, Nat.add_zero, q8 (CU g) _ (by rw [hl1, hwl]; omega)]
 rw [ht]
 simp only [List.length_append, List.length_take, List.length_drop, hwl]
 omega
end
end
section
theorem EC (σ : za) (v : Nat) (h : v < 4) : yI σ Xq (.int (v : Int)) = some (.bytes (xn v)) := by
 have : v = 0 ∨ v = 1 ∨ v = 2 ∨ v = 3 := lt4 ‹v < 4›
 rcases this with rfl | rfl | rfl | rfl <;> rfl
theorem X6 (w : World) (dk : zN) (h : dk.Ok) (m : Nat) (hm : 0 < m) : ∃ n : Nat, n < m ∧ dk.dv (m : Int) = (n : Int) ∧ ∀ (rest : za) (D : KD), D (.int (n : Int)) (dk.nx.σ rest) → MC w 19 963 [.loc 1, .int (m : Int)] (dk.σ rest) D := by
 have hm' : (0 : Int) < (m : Int) := by omega
 have h0 := dk.dv_lo hm'
 have h1 := dk.dv_hi hm'
 obtain ⟨n, hn⟩ := Int.eq_ofNat_of_zero_le h0
 refine ⟨n, by omega, hn, fun rest D hd => qw (e963 w dk rest m h hm' D (by rw [hn]; exact hd)) (by decide)⟩
section
variable {d : Dat} {M0 M1 Wn : Nat}
theorem QC (g : GN d M0 M1 Wn) : mn (mn (d.n0 : Int) (M0 : Int)) (Wn : Int) = (Ln d M0 Wn : Int) ∧ mn (mn (d.n1 : Int) (M1 : Int)) ((Wn : Int) - (Ln d M0 Wn : Int)) = (Rn d M0 M1 Wn : Int) ∧ (Wn : Int) - (Ln d M0 Wn : Int) - (Rn d M0 M1 Wn : Int) = (Rm d M0 M1 Wn : Int) :=
 ⟨by rw [XL, XL]; rfl, by rw [g_wl, XL, XL]; rfl, g_wr⟩
theorem row_fit (w : World) (g : GN d M0 M1 Wn) (hf : d.cols.length ≤ Rm d M0 M1 Wn) : PO w 3 982 [.list (zd d.cols), zy d.c, .bytes (xn d.v), .list [.int (mn (d.n0 : Int) (M0 : Int)), .int (mn (d.n1 : Int) (M1 : Int))], .int (Wn : Int)] (.tup [.list (zd (yq (Ln d M0 Wn : Int) (shN d M0 M1 Wn : Int) (Rn d M0 M1 Wn : Int) (Wn : Int) d.cols)), .bool true]) := by
 obtain ⟨h1, h2, h3⟩ := QC g
 have hs := jP g
 have hfit := XA hf
 have hn0 := g.n0
 have hn1 := g.n1
 have hW := g.W1
 have hc := XU g
 have h := e982a w d.v d.cols d.c (mn (d.n0 : Int) (M0 : Int)) (mn (d.n1 : Int) (M1 : Int)) (Wn : Int) (Nat.le_trans hc (by decide)) (Yn (Int.natCast_nonneg _) (Int.natCast_nonneg _)) (Yn (Int.natCast_nonneg _) (Int.natCast_nonneg _)) (Int.le_trans (jx _ _) (Int.le_trans (DU 5 hn0 rfl) (by decide))) (Int.le_trans (jx _ _) (Int.le_trans (DU 5 hn1 rfl) (by decide))) (Int.natCast_nonneg _) (Int.le_trans (DU 24 hW rfl) (by decide))
 rw [h1, h2, h3, Int.toNat_natCast, Y0] at h
 exact h (by omega) (by omega) (by omega)
theorem ER (w : World) (g : GN d M0 M1 Wn) (hf : Rm d M0 M1 Wn < d.cols.length) (c0 : Nat) (pp qq : Int) (f : Nat) (hc0 : d.c = some c0) (hp : (plN d.cols c0 d.cols.length).head? = some pp) (hq : (plN d.cols c0 d.cols.length).getLast? = some qq) (hb : (pp + qq + 1).natAbs < 2 ^ 60) (hfo : y7 d.cols.length pp qq (Rm d M0 M1 Wn : Int) = (f : Int)) (hfl : f + Rm d M0 M1 Wn ≤ d.cols.length) :
  PO w 3 982 [.list (zd d.cols), zy d.c, .bytes (xn d.v), .list [.int (mn (d.n0 : Int) (M0 : Int)), .int (mn (d.n1 : Int) (M1 : Int))], .int (Wn : Int)] (.tup [.list (zd (yq (Ln d M0 Wn : Int) (shN d M0 M1 Wn : Int) (Rn d M0 M1 Wn : Int) (Wn : Int) ((d.cols.drop f).take (Rm d M0 M1 Wn)))), .bool false]) := by
 obtain ⟨h1, h2, h3⟩ := QC g
 have hs := jP g
 have hfit := YE hf
 have hn0 := g.n0
 have hn1 := g.n1
 have hW := g.W1
 have hc := XU g
 have hlen : ((d.cols.drop f).take (Rm d M0 M1 Wn)).length = Rm d M0 M1 Wn := by simp; omega
 have h := e982b w d.v d.cols c0 (mn (d.n0 : Int) (M0 : Int)) (mn (d.n1 : Int) (M1 : Int)) (Wn : Int) pp qq (Nat.le_trans hc (by decide)) (Yn (Int.natCast_nonneg _) (Int.natCast_nonneg _)) (Yn (Int.natCast_nonneg _) (Int.natCast_nonneg _)) (Int.le_trans (jx _ _) (Int.le_trans (DU 5 hn0 rfl) (by decide))) (Int.le_trans (jx _ _) (Int.le_trans (DU 5 hn1 rfl) (by decide))) (Int.natCast_nonneg _) (Int.le_trans (DU 24 hW rfl) (by decide))
 rw [h1, h2, h3, Int.toNat_natCast, Y0, hfo] at h
 rw [hc0]
 refine h (by omega) hp hq hb ((d.cols.drop f).take (Rm d M0 M1 Wn)) ?_ (by omega) (by rw [hlen]; omega)
 rw [show (f : Int) + (Rm d M0 M1 Wn : Int) = ((f + Rm d M0 M1 Wn : Nat) : Int) by omega, own_cut _ _ _ hfl]
end
theorem Cv (σ : za) (l : List Col) : z0 σ .NotEq (.list (l.map fun c => zF c.1)) (.list (l.map fun c => zF c.1)) = some false :=
 XI (fun v hv => by obtain ⟨c, _, rfl⟩ := List.mem_map.mp hv; obtain ⟨a, b⟩ := c; cases a with | none => rfl | some a => exact congrArg some (beq_self_eq_true _)) (fun v hv => by obtain ⟨c, _, rfl⟩ := List.mem_map.mp hv; obtain ⟨a, b⟩ := c; cases a <;> exact Nat.zero_le _)
theorem Fn (σ : za) (l : List Col) : z0 σ .NotEq (.list (l.map fun c => y3 c.2)) (.list (l.map fun c => y3 c.2)) = some false :=
 XI (fun v hv => by obtain ⟨c, _, rfl⟩ := List.mem_map.mp hv; obtain ⟨a, b⟩ := c; cases b with | none => rfl | some a => exact congrArg some (beq_self_eq_true _)) (fun v hv => by obtain ⟨c, _, rfl⟩ := List.mem_map.mp hv; obtain ⟨a, b⟩ := c; cases b <;> exact Nat.zero_le _)
theorem CH (w : World) (xs : List Int) (mN : Nat) (hm : mN ≤ 4) (c : Option Nat) (hc : (mN = 0 ∧ c = none) ∨ ∃ c0, c = some c0 ∧ c0 < mN) (d2 : zN) (hd2 : d2.Ok) (D : KD) (hd : ∀ σ, D (.bool true) σ) (T : LawT w xs d2 (mN : Int) (zy c) D) (F : LawF w xs d2 (mN : Int) (zy c) D) : MC w 20 1004 [.list (ivs xs)] [] D := by
 have o3 := hd2.nx
 have o4 := o3.nx
 have o5 := o4.nx
 have o6 := o5.nx
 have o7 := o6.nx
 have o8 := o7.nx
 have o9 := o8.nx
 refine qJ (X6 w d2 hd2 3 (by decide)) fun kN hk ek sk => ?_
 refine qJ (X6 w d2.nx o3 4 (by decide)) fun vN hv ev sv => ?_
 refine qJ (X6 w d2.nx.nx o4 6 (by decide)) fun n0 hn0 en0 sn0 => ?_
 refine qJ (X6 w d2.nx.nx.nx o5 6 (by decide)) fun n1 hn1 en1 sn1 => ?_
 refine qJ (X6 w d2.nx.nx.nx.nx o6 6 (by decide)) fun m0 hm0 em0 sm0 => ?_
 refine qJ (X6 w d2.nx.nx.nx.nx.nx o7 6 (by decide)) fun m1 hm1 em1 sm1 => ?_
 refine qJ (X6 w d2.nx.nx.nx.nx.nx.nx o8 25 (by decide)) fun Wn hW eW sW => ?_
 generalize d2.nx.nx.nx.nx.nx.nx.nx = d9 at *
 generalize d2.nx.nx.nx.nx.nx.nx = d8 at *
 generalize d2.nx.nx.nx.nx.nx = d7 at *
 generalize d2.nx.nx.nx.nx = d6 at *
 generalize d2.nx.nx.nx = d5 at *
 generalize d2.nx.nx = d4 at *
 generalize d2.nx = d3 at *
 have oa := BE o9 mN
 obtain ⟨d, hdd⟩ : ∃ d : Dat, d = ⟨⟨xn vN, yH 49 n0, yH 50 n1, yH 124 kN, 5 - (m0 : Int), 5 - (m1 : Int)⟩, zT d9 mN, c, kN, n0, n1, vN, (Wn : Int)⟩ := ⟨_, rfl⟩
 have hlen : (zT d9 mN).length = mN := YQ d9 mN
 have g : GN d (5 - m0) (5 - m1) Wn := by
  subst hdd
  refine ⟨rfl, rfl, rfl, rfl, by dsimp only; omega, by dsimp only; omega, by dsimp only; omega, by dsimp only; omega, by dsimp only; omega, by dsimp only; rw [hlen]; exact hm, fun x hx => ?_, rfl, by omega, ?_⟩
  ·obtain ⟨j, _, rfl⟩ := List.mem_map.mp hx
   exact Xp _
  ·rcases hc with ⟨h1, h2⟩ | ⟨c0, h1, h2⟩
   ·exact .inl ⟨List.length_eq_zero_iff.mp (hlen.trans h1), h2⟩
   ·exact .inr ⟨c0, _, h1, JO d9 h2⟩
 have s970 : ∀ D : KD, D (.tup [.list (zz d.ws), .list (zd d.cols)]) ((dkN d9 mN).σ (Rl n0 n1 m0 m1)) → MC w 19 970 [.loc 1, .int (mN : Int), zy c, .int (kN : Int)] (d9.σ (Rl n0 n1 m0 m1)) D := fun D hD => qw (e970 w d9 o9 kN mN c hm (by omega) (hc.elim (fun q => .inl q.1) (fun q => .inr ⟨q.choose, q.choose_spec.1⟩)) _ _ D (by
  have e : d.cols = zG (zT d9 mN) kN c mN := by subst hdd; unfold Dat.cols; dsimp only; rw [hlen]
  rw [e] at hD
  subst hdd
  exact hD)) (by decide)
 have s999 : ∀ D : KD, D d.o.pv ((dkN d9 mN).σ (Rl n0 n1 m0 m1)) → MC w 19 999 [.bytes (xn vN), .int (kN : Int), .loc 2, .loc 3] ((dkN d9 mN).σ (Rl n0 n1 m0 m1)) D := fun D hD => qw (e999 w vN kN n0 n1 (5 - (m0 : Int)) (5 - (m1 : Int)) _ _ (by omega) (by omega) (by omega) D (by subst hdd; exact hD)) (by decide)
 have s992 : ∀ D : KD, D (.bool true) ((dkN d9 mN).nx.nx.nx.σ (Rl n0 n1 m0 m1)) → MC w 19 992 [.loc 1] ((dkN d9 mN).σ (Rl n0 n1 m0 m1)) D := fun D hD => qw (e992 w _ oa _ _ D hD) (by decide)
 have s876 : ∀ D : KD, D d.plan ((dkN d9 mN).σ (Rl n0 n1 m0 m1)) → MC w 19 876 [.dict [], .list (zz d.ws), zy c, d.o.pv, .int (Wn : Int), zX] ((dkN d9 mN).σ (Rl n0 n1 m0 m1)) D := fun D hD => by
  have := (e876 w d (g_ok g)).gm (dp := 19) (by decide) D hD
  rw [g.W] at this
  subst hdd
  exact this
 have eM0 : ((5 - m0 : Nat) : Int) = 5 - (m0 : Int) := by omega
 have eM1 : ((5 - m1 : Nat) : Int) = 5 - (m1 : Int) := by omega
 have hroom : 0 ≤ d.room := by rw [jD g]; omega
 have hlW : (d.l.length : Int) ≤ d.W := by
  have := jP g
  rw [g_l g, g.W, List.length_replicate]
  omega
 have hdc : d.c = c := by subst hdd; rfl
 have hdv : d.v = vN := by subst hdd; rfl
 have hd0 : d.n0 = n0 := by subst hdd; rfl
 have hd1 : d.n1 = n1 := by subst hdd; rfl
 rcases Nat.lt_or_ge (Rm d (5 - m0) (5 - m1) Wn) d.cols.length with hf | hf
 ·obtain ⟨c0, pp, qq, f, h1, h2, h3, h4, h5, h6, h7⟩ := FW g hf
  have hseen := D6 g hf f h6 h7
  have htold := D5 g hf f h6 h7
  have hrow := ER w g hf c0 pp qq f h1 h2 h3 h4 h5 h7
  have hrl : (yq (Ln d (5 - m0) Wn : Int) (shN d (5 - m0) (5 - m1) Wn : Int) (Rn d (5 - m0) (5 - m1) Wn : Int) (Wn : Int) ((d.cols.drop f).take (Rm d (5 - m0) (5 - m1) Wn))).length = Wn := YF _ _ _ _ _ (by
   have := jP g
   have := YE hf
   simp only [List.length_take, List.length_drop]
   omega)
  generalize yq (Ln d (5 - m0) Wn : Int) (shN d (5 - m0) (5 - m1) Wn : Int) (Rn d (5 - m0) (5 - m1) Wn : Int) (Wn : Int) ((d.cols.drop f).take (Rm d (5 - m0) (5 - m1) Wn)) = row at *
  rw [eM0, eM1, hdc, hdv, hd0, hd1] at hrow
  refine F d3 d4 d5 d6 d7 d8 d9 (dkN d9 mN) (dkN d9 mN).nx.nx.nx kN vN n0 n1 m0 m1 Wn (mn (n0 : Int) (5 - (m0 : Int))) (mn (n1 : Int) (5 - (m1 : Int))) (xn vN) (zz d.ws) (zd d.cols) (zd row) (pvs d.told) (row.map fun c => zF c.1) (row.map fun c => zF c.1) d.o.pv d.plan
   (sk _) (sv _) (EC _ _ hv) (sn0 _) (sn1 _) (sm0 _) (sm1 _) (sW _) s970 s999 (fun D hD => Ci _ _ _ _ hD) (fun D => hrow.gm (by decide) D) (fun D hD => EX hD) (fun D hD => Ch hD) s876 (fun D hD => ?_) (fun D hD => q_own row (by omega) _ hD) (by rw [Cv]; rfl) (fun D hD => EV d (g_ok g) hroom hlW (by omega) hD) (zK (by omega)) ?_ s992 (hd _)
  ·rw [← hseen] at hD
   exact EW Wn (by omega) d.W d.room d.off d.col d.c d.l d.r d.cs d.sp hD
  ·rw [zm, htold, beq_self_eq_true]; rfl
 ·have hseen := F2 g hf
  obtain ⟨htold, hcode⟩ := F1 g hf
  have hrow := row_fit w g hf
  have hrl : (yq (Ln d (5 - m0) Wn : Int) (shN d (5 - m0) (5 - m1) Wn : Int) (Rn d (5 - m0) (5 - m1) Wn : Int) (Wn : Int) d.cols).length = Wn := YF _ _ _ _ _ (by
   have := jP g
   have := XA hf
   omega)
  generalize yq (Ln d (5 - m0) Wn : Int) (shN d (5 - m0) (5 - m1) Wn : Int) (Rn d (5 - m0) (5 - m1) Wn : Int) (Wn : Int) d.cols = row at *
  rw [eM0, eM1, hdc, hdv, hd0, hd1] at hrow
  have hE : (d.told.map fun c => y3 c.code) = row.map fun c => y3 c.2 := by
   have := congrArg (List.map y3) hcode
   simpa [List.map_map, Function.comp_def] using this
  refine T d3 d4 d5 d6 d7 d8 d9 (dkN d9 mN) (dkN d9 mN).nx.nx.nx kN vN n0 n1 m0 m1 Wn (mn (n0 : Int) (5 - (m0 : Int))) (mn (n1 : Int) (5 - (m1 : Int))) (xn vN) (zz d.ws) (zd d.cols) (zd row) (pvs d.told) (row.map fun c => zF c.1) (row.map fun c => zF c.1) (row.map fun c => y3 c.2) (row.map fun c => y3 c.2) d.o.pv d.plan
   (sk _) (sv _) (EC _ _ hv) (sn0 _) (sn1 _) (sm0 _) (sm1 _) (sW _) s970 s999 (fun D hD => Ci _ _ _ _ hD) (fun D => hrow.gm (by decide) D) (fun D hD => EX hD) (fun D hD => Ch hD) s876 (fun D hD => ?_) (fun D hD => q_own row (by omega) _ hD) (by rw [Cv]; rfl) (fun D hD => EV d (g_ok g) hroom hlW (by omega) hD) (zK (by omega)) ?_ ?_ (fun D hD => q_code row (by omega) _ _ hD) (by rw [Fn]; rfl) s992 (hd _)
  ·rw [← hseen] at hD
   exact EW Wn (by omega) d.W d.room d.off d.col d.c d.l d.r d.cs d.sp hD
  ·rw [zm, htold, beq_self_eq_true]; rfl
  ·rw [← hE]
   exact fun D => (e987 w d.told (by omega)).gm (by decide) D
theorem law_all (w : World) (xs : List Int) (hx : xs.length ≤ 63) : PO w 60 1004 [.list (xs.map .int)] (.bool true) := by
 refine xd (by simp only [zx, zD, Bool.and_true]; exact Jb xs) fun D H => ?_
 have hd : ∀ σ, D (.bool true) σ := fun σ => H _ _ .bool
 refine qw (d := 20) ?_ (by decide)
 have h956 : ∀ D : KD, D (.loc 1) ((Ye xs).σ []) → MC w 19 956 [.list (ivs xs)] [] D := fun D hD => qw (e956 w xs hx D hD) (by decide)
 have o0 := Ec xs
 refine qJ (X6 w (Ye xs) o0 5 (by decide)) fun mN hm em sm => ?_
 generalize Ye xs = d0 at *
 rcases Nat.eq_zero_or_pos mN with rfl | hpos
 ·have h3 : zh (some (decide (0 < ((0 : Nat) : Int)))) false = true := rfl
  exact CH w xs 0 (by omega) none (.inl ⟨rfl, rfl⟩) d0.nx o0.nx D hd (lawT_z w xs d0 d0.nx _ D h956 (sm _) h3) (lawF_z w xs d0 d0.nx _ D h956 (sm _) h3)
 ·obtain ⟨cN, hcN, ec, sc⟩ := X6 w d0.nx o0.nx mN hpos
  have h3 : zh (some (decide (0 < (mN : Int)))) true = true := by
   rw [decide_eq_true (by omega : (0 : Int) < (mN : Int))]; rfl
  exact CH w xs mN (by omega) (some cN) (.inr ⟨cN, rfl, hcN⟩) d0.nx.nx o0.nx.nx D hd (lawT_s w xs d0 d0.nx d0.nx.nx _ _ D h956 (sm _) h3 (sc _)) (lawF_s w xs d0 d0.nx d0.nx.nx _ _ D h956 (sm _) h3 (sc _))
theorem call_ok : BX := call_of fun w xs hx => law_all w xs hx
end
section
abbrev lw : OpenLaw := PySem.Challenge.rw_og0289_01
abbrev lp : Program := lw.row.toRowW.prog
theorem sd1 : namesResolve lp = true := by kernel_rfl
theorem sd2 : namesMeet lp lp.main.body (fun _ n => attrL n) = true := by kernel_rfl
theorem sd3 : noRoadLSs { strict := !(importedModules lp.main.body).all cThrough.contains, foot := none, bare := (["vars", "dir", "locals"] : List Str).filter (readsOut lp lp.main.body) } lp.main.body = true := by kernel_rfl
theorem sd4 : looksOpen lp = true := by
 unfold looksOpen
 refine look_both (look_both (look_both (look_both ?_ sd1) ?_) sd3) sd2
 ·kernel_rfl
 ·kernel_rfl
theorem sd5 : lw.row.partSaid = true := by
 unfold OpenRow.partSaid
 rw [show looksOpen lw.row.toRowW.prog = true from sd4]
 kernel_rfl
end
section
theorem sd6 : lw.row.wellSaid = true := by
 unfold OpenRow.wellSaid
 rw [show lw.row.partSaid = true from sd5]
 kernel_rfl
theorem sd7 : (lw.bound'.all fun n => !builtinNamed n || lw.about == [n] || !lw.reads n) = true := by kernel_rfl
theorem sd8 : namesMeet lw.prog lw.above (fun _ n => !lw.own.contains n) = true := by kernel_rfl
theorem sd9 : lw.wellSaid = true := by
 unfold OpenLaw.wellSaid
 rw [sd6, sd7, sd8]
 kernel_rfl
end
end
end Mine.Top
theorem Mine.Top.bare_pr : Mine.Top.pr.bare := ⟨rfl, rfl, rfl, rfl, rfl, by decide +kernel⟩
theorem PySem.Challenge.cw_og0289_01_holds : PySem.Challenge.rw_og0289_01.Holds :=
  PySem.W.holds_law Mine.Top.sd9 fun said => Mine.Top.holds_of Mine.Top.call_ok said Mine.Top.bare_pr
